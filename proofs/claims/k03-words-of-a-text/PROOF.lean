import PyProof.Rows.All
import Wide.All
import OpenK.AllK
import Wide.FinOn
import HandS.ForMost
import HandS.ForExc
import HandS.Walk
import HandS.TupAny
import HandS.Wide
import HandS.IsInst
import PyProof.P3Eq
import PyProof.NeData
import PyProof.Rows.SeqMore
import KE.GoesNew
import KE.GoesMore
import KE.GoesEnum
import HandS.Zip
import PyProof.AutoSeq1
import HandS.More
import KE.SortData
import HandS.EndBits
import HandS.Steps
import PySem.Challenge.RW_turnery_k03_words_of_a_text
set_option Elab.async false
set_option linter.all false
set_option maxRecDepth 100000
set_option maxHeartbeats 4000000
/-! Mir: pure mirrors of defs over data, and their soundness over the hand layer. -/
noncomputable section
namespace Mir
open PySem PySem.Spec L2

abbrev D := PyData
/-- a value in a mirror: data that stays, or a list that the def owns -/
inductive Ow where
  | d (x : D)
  | l (xs : List Ow)
abbrev Ev := List (Option Ow)

/-- a pure outcome: none (not mirrored), a value, an exception's class -/
inductive R (α : Type) where
  | no
  | ok (a : α)
  | ex (c : Str)
def R.bind {α β : Type} : R α → (α → R β) → R β
  | .no, _ => .no
  | .ok a, f => f a
  | .ex c, _ => .ex c
@[simp] theorem R.bind_ok {α β : Type} (a : α) (f : α → R β) : (R.ok a).bind f = f a := rfl
@[simp] theorem R.bind_no {α β : Type} (f : α → R β) : (R.no : R α).bind f = .no := rfl
@[simp] theorem R.bind_ex {α β : Type} (c : Str) (f : α → R β) : (R.ex c : R α).bind f = .ex c := rfl
def R.map {α β : Type} (f : α → β) (r : R α) : R β := r.bind fun a => .ok (f a)
@[simp] theorem R.map_ok {α β : Type} (a : α) (f : α → β) : (R.ok a).map f = .ok (f a) := rfl
/-- r where c holds (by a choice that nothing reckons with) -/
def guard (c : Prop) {α : Type} (r : R α) : R α := @ite _ c (Classical.propDecidable c) r .no
@[simp] theorem guard_pos {c : Prop} {α : Type} {r : R α} (h : c) : guard c r = r := @if_pos _ (Classical.propDecidable c) h _ _ _

mutual
def viewD : Ow → D
  | .d x => x
  | .l xs => .list (viewAll xs)
def viewAll : List Ow → List D
  | [] => []
  | x :: xs => viewD x :: viewAll xs
end
@[simp] theorem viewD_d (x : D) : viewD (.d x) = x := by unfold viewD; rfl
@[simp] theorem viewD_l (xs : List Ow) : viewD (.l xs) = .list (viewAll xs) := by rw [viewD]
@[simp] theorem viewAll_nil : viewAll [] = [] := by rw [viewAll]
@[simp] theorem viewAll_cons (x : Ow) (xs : List Ow) : viewAll (x :: xs) = viewD x :: viewAll xs := by rw [viewAll]
theorem viewAll_map : ∀ xs : List Ow, viewAll xs = xs.map viewD
  | [] => by rw [viewAll]; rfl
  | x :: xs => by rw [viewAll, viewAll_map xs]; rfl
@[simp] theorem viewAll_mapd : ∀ xs : List D, viewAll (xs.map Ow.d) = xs
  | [] => by simp
  | x :: xs => by simp [viewAll_mapd xs]

/-! ### heaps -/
section
variable {K : PySem.W.Frag}
theorem SqT_mono {H H' : Hp} {a : Addr} {xs : List V} (e : Same H H') (h : SqT K H a xs) : SqT K H' a xs := by
  rcases h with (h | ⟨o, h⟩) | h
  · exact .inl (.inl (e _ _ h))
  · exact .inl (.inr ⟨o, e _ _ h⟩)
  · exact .inr h
mutual
theorem Dp.mono {H H' : Hp} (e : Same H H') : ∀ (d : D) (v : V), Dp K H v d → Dp K H' v d
  | .none, _, h => by cases h; exact .non
  | .bool b, _, h => by cases h; exact .bl b
  | .int b, _, h => by cases h; exact .int b
  | .str b, _, h => by cases h; exact .str b
  | .list ds, _, h => by
    cases h with
    | lst hs ha => exact .lst (e.seq hs) (DpAll.mono e ds _ ha)
  | .tuple ds, _, h => by
    cases h with
    | tup hs ha => exact .tup (SqT_mono e hs) (DpAll.mono e ds _ ha)
  | .dict _, _, h => by cases h
theorem DpAll.mono {H H' : Hp} (e : Same H H') : ∀ (ds : List D) (vs : List V), DpAll K H vs ds → DpAll K H' vs ds
  | [], _, h => by cases h; exact .nil
  | d :: ds, _, h => by
    cases h with
    | cons h1 h2 => exact .cons (Dp.mono e d _ h1) (DpAll.mono e ds _ h2)
end
theorem dpUp {H H' : Hp} {v : V} {d : D} (h : Dp K H v d) (e : Same H H') : Dp K H' v d := Dp.mono e d v h
theorem dpaUp {H H' : Hp} {v : List V} {d : List D} (h : DpAll K H v d) (e : Same H H') : DpAll K H' v d := DpAll.mono e d v h
theorem DpAll.len {H : Hp} : ∀ {vs : List V} {ds : List D}, DpAll K H vs ds → vs.length = ds.length
  | _, [], h => by cases h; rfl
  | _, d :: ds, h => by
    cases h with
    | cons h1 h2 => simp [DpAll.len h2]
theorem DpAll.get {H : Hp} : ∀ {vs : List V} {ds : List D} {i : Nat} {d : D}, DpAll K H vs ds → ds[i]? = some d → ∃ v, vs[i]? = some v ∧ Dp K H v d
  | _, [], i, d, h, e => by simp at e
  | _, x :: ds, 0, d, h, e => by
    cases h with
    | cons h1 h2 => simp at e; subst e; exact ⟨_, rfl, h1⟩
  | _, x :: ds, i + 1, d, h, e => by
    cases h with
    | cons h1 h2 =>
      obtain ⟨v, q, r⟩ := DpAll.get (i := i) h2 (by simpa using e)
      exact ⟨v, by simpa using q, r⟩
theorem DpAll.getV {H : Hp} : ∀ {vs : List V} {ds : List D} {i : Nat} {v : V}, DpAll K H vs ds → vs[i]? = some v → ∃ d, ds[i]? = some d ∧ Dp K H v d
  | _, [], i, v, h, e => by cases h; simp at e
  | _, x :: ds, 0, v, h, e => by
    cases h with
    | cons h1 h2 => simp at e; subst e; exact ⟨_, rfl, h1⟩
  | _, x :: ds, i + 1, v, h, e => by
    cases h with
    | cons h1 h2 =>
      obtain ⟨d, q, r⟩ := DpAll.getV (i := i) h2 (by simpa using e)
      exact ⟨d, by simpa using q, r⟩
theorem DpAll.append {H : Hp} : ∀ {vs ws : List V} {ds es : List D}, DpAll K H vs ds → DpAll K H ws es → DpAll K H (vs ++ ws) (ds ++ es)
  | _, _, [], _, h, g => by cases h; exact g
  | _, _, d :: ds, _, h, g => by
    cases h with
    | cons h1 h2 => exact .cons h1 (DpAll.append h2 g)
theorem DpAll.take {H : Hp} : ∀ {vs : List V} {ds : List D} (n : Nat), DpAll K H vs ds → DpAll K H (vs.take n) (ds.take n)
  | _, [], n, h => by cases h; simp; exact .nil
  | _, d :: ds, 0, h => by simp; exact .nil
  | _, d :: ds, n + 1, h => by
    cases h with
    | cons h1 h2 => exact .cons h1 (DpAll.take n h2)
theorem DpAll.drop {H : Hp} : ∀ {vs : List V} {ds : List D} (n : Nat), DpAll K H vs ds → DpAll K H (vs.drop n) (ds.drop n)
  | _, [], n, h => by cases h; simp; exact .nil
  | _, d :: ds, 0, h => h
  | _, d :: ds, n + 1, h => by
    cases h with
    | cons h1 h2 => exact DpAll.drop n h2
theorem DpAll.ints {H : Hp} : ∀ {vs : List V} (ns : List Int), DpAll K H vs (ns.map PyData.int) → vs = ns.map V.int
  | _, [], h => by cases h; rfl
  | _, n :: ns, h => by
    cases h with
    | cons h1 h2 => cases h1; simp [DpAll.ints ns h2]
theorem DpAll.of_ints {H : Hp} : ∀ (ns : List Int), DpAll K H (ns.map V.int) (ns.map PyData.int)
  | [] => .nil
  | n :: ns => .cons (.int n) (DpAll.of_ints ns)

/-- frozen facts F, the tracked heap H, behind a step that changes nothing that stood -/
structure Ext (F H F' H' : Hp) : Prop where
  ff : Same F F'
  hh : Same H H'
  fn : ∀ b o, F' b = some o → F b = some o ∨ H b = none
  fh : Same F' H'
theorem Ext.refl {F H : Hp} (h : Same F H) : Ext F H F H := ⟨Same.refl _, Same.refl _, fun _ _ h => .inl h, h⟩
theorem Ext.trans {F H F1 H1 F2 H2 : Hp} (a : Ext F H F1 H1) (b : Ext F1 H1 F2 H2) : Ext F H F2 H2 :=
  ⟨a.ff.trans b.ff, a.hh.trans b.hh, fun c o h => by
    rcases b.fn c o h with q | q
    · exact a.fn c o q
    · exact .inr (a.hh.free q), b.fh⟩
theorem free_of {F H : Hp} (s : Same F H) {p : Addr} (h : H p = none) : F p = none := s.free h
theorem same_upd {H : Hp} {p : Addr} (h : H p = none) (o : HO) : Same H (upd H p o) := fun b u q => by rw [upd_ne (ne_of_none q h)]; exact q
theorem same_upd2 {F H : Hp} (s : Same F H) {p : Addr} (h : H p = none) (o : HO) : Same (upd F p o) (upd H p o) := fun b u q => by
  by_cases e : b = p
  · subst e; rw [upd_same] at q ⊢; exact q
  · rw [upd_ne e] at q ⊢; exact s _ _ q
/-- a new object, frozen at once -/
theorem Ext.frz {F H : Hp} (s : Same F H) {p : Addr} (h : H p = none) (o : HO) : Ext F H (upd F p o) (upd H p o) :=
  ⟨same_upd (free_of s h) o, same_upd h o, fun b u q => by
    by_cases e : b = p
    · subst e; exact .inr h
    · rw [upd_ne e] at q; exact .inl q, same_upd2 s h o⟩
/-- a new object of the def's own -/
theorem Ext.own {F H : Hp} (s : Same F H) {p : Addr} (h : H p = none) (o : HO) : Ext F H F (upd H p o) :=
  ⟨Same.refl _, same_upd h o, fun _ _ q => .inl q, s.trans (same_upd h o)⟩

mutual
inductive OwnAt (K : PySem.W.Frag) (F H : Hp) : V → Ow → List Addr → Prop
  | d {v : V} {x : D} : Dp K F v x → OwnAt K F H v (.d x) []
  | l {a : Addr} {vs : List V} {os : List Ow} {fp : List Addr} : F a = none → H a = some (.lst vs) → OwnAll K F H vs os fp → OwnAt K F H (.ref a) (.l os) (a :: fp)
inductive OwnAll (K : PySem.W.Frag) (F H : Hp) : List V → List Ow → List Addr → Prop
  | nil : OwnAll K F H [] [] []
  | cons {v : V} {vs : List V} {o : Ow} {os : List Ow} {fp fps : List Addr} : OwnAt K F H v o fp → OwnAll K F H vs os fps → OwnAll K F H (v :: vs) (o :: os) (fp ++ fps)
end
/-- the step of a statement: what is owned (fp) may change -/
structure StepS (F H : Hp) (fp : List Addr) (F' H' : Hp) (fp' : List Addr) : Prop where
  ff : Same F F'
  fr : ∀ b o, H b = some o → b ∉ fp → H' b = some o
  fn : ∀ b o, F' b = some o → F b = some o ∨ b ∈ fp ∨ H b = none
  sub : ∀ b ∈ fp', b ∈ fp ∨ H b = none
theorem StepS.of_ext {F H F' H' : Hp} (e : Ext F H F' H') (fp : List Addr) : StepS F H fp F' H' fp :=
  ⟨e.ff, fun b o h _ => e.hh b o h, fun b o h => (e.fn b o h).imp id .inr, fun b h => .inl h⟩
theorem StepS.trans {F H F1 H1 F2 H2 : Hp} {fp fp1 fp2 : List Addr} (a : StepS F H fp F1 H1 fp1) (b : StepS F1 H1 fp1 F2 H2 fp2) : StepS F H fp F2 H2 fp2 := by
  have nn : ∀ c, H1 c = none → c ∈ fp ∨ H c = none := fun c h => by
    cases q : H c with
    | none => exact .inr rfl
    | some o =>
      by_cases hc : c ∈ fp
      · exact .inl hc
      · rw [a.fr c o q hc] at h; cases h
  refine ⟨a.ff.trans b.ff, fun c o h hc => b.fr c o (a.fr c o h hc) fun z => ?_, fun c o h => ?_, fun c h => ?_⟩
  · rcases a.sub c z with q | q
    · exact hc q
    · rw [h] at q; cases q
  · rcases b.fn c o h with q | q | q
    · exact a.fn c o q
    · exact .inr (a.sub c q)
    · exact .inr (nn c q)
  · rcases b.sub c h with q | q
    · exact a.sub c q
    · exact nn c q
theorem StepS.mono {F H F1 H1 : Hp} {fp fp' fp1 : List Addr} (a : StepS F H fp F1 H1 fp1) (h : ∀ b ∈ fp, b ∈ fp') : StepS F H fp' F1 H1 fp1 :=
  ⟨a.ff, fun b o q n => a.fr b o q fun z => n (h b z), fun b o q => (a.fn b o q).imp id (.imp (h b) id), fun b q => (a.sub b q).imp (h b) id⟩
theorem StepS.subset {F H F1 H1 : Hp} {fp fp1 fp2 : List Addr} (a : StepS F H fp F1 H1 fp1) (h : ∀ b ∈ fp2, b ∈ fp1) : StepS F H fp F1 H1 fp2 :=
  ⟨a.ff, a.fr, a.fn, fun b q => a.sub b (h b q)⟩

mutual
/-- what is owned apart from what changes stays -/
theorem OwnAt.keep {F H F' H' : Hp} {fx fy : List Addr} (s : StepS F H fx F' H' fy) : ∀ (o : Ow) (v : V) (fp : List Addr), OwnAt K F H v o fp → (∀ b ∈ fp, b ∉ fx) → OwnAt K F' H' v o fp
  | .d x, v, fp, h, _ => by
    cases h with
    | d q => exact .d (dpUp q s.ff)
  | .l os, v, fp, h, n => by
    cases h with
    | @l a vs _ fps h1 h2 h3 =>
      have na : a ∉ fx := n a List.mem_cons_self
      refine .l ?_ (s.fr _ _ h2 na) (OwnAll.keep s os vs fps h3 fun b hb => n b (List.mem_cons_of_mem _ hb))
      cases q : F' a with
      | none => rfl
      | some u =>
        rcases s.fn a u q with z | z | z
        · rw [h1] at z; cases z
        · exact absurd z na
        · rw [h2] at z; cases z
theorem OwnAll.keep {F H F' H' : Hp} {fx fy : List Addr} (s : StepS F H fx F' H' fy) : ∀ (os : List Ow) (vs : List V) (fp : List Addr), OwnAll K F H vs os fp → (∀ b ∈ fp, b ∉ fx) → OwnAll K F' H' vs os fp
  | [], vs, fp, h, _ => by cases h; exact .nil
  | o :: os, vs, fp, h, n => by
    cases h with
    | cons h1 h2 => exact .cons (OwnAt.keep s o _ _ h1 fun b hb => n b (List.mem_append_left _ hb)) (OwnAll.keep s os _ _ h2 fun b hb => n b (List.mem_append_right _ hb))
end
theorem OwnAt.ext {F H F' H' : Hp} {v : V} {o : Ow} {fp : List Addr} (h : OwnAt K F H v o fp) (e : Ext F H F' H') : OwnAt K F' H' v o fp :=
  OwnAt.keep (StepS.of_ext e []) o v fp h fun _ _ => by simp
theorem OwnAll.ext {F H F' H' : Hp} {v : List V} {o : List Ow} {fp : List Addr} (h : OwnAll K F H v o fp) (e : Ext F H F' H') : OwnAll K F' H' v o fp :=
  OwnAll.keep (StepS.of_ext e []) o v fp h fun _ _ => by simp
mutual
theorem OwnAt.there {F H : Hp} : ∀ (o : Ow) (v : V) (fp : List Addr), OwnAt K F H v o fp → ∀ b ∈ fp, F b = none ∧ ∃ vs, H b = some (.lst vs)
  | .d x, v, fp, h, b, hb => by cases h; cases hb
  | .l os, v, fp, h, b, hb => by
    cases h with
    | l h1 h2 h3 =>
      rcases List.mem_cons.mp hb with e | e
      · subst e; exact ⟨h1, _, h2⟩
      · exact OwnAll.there os _ _ h3 b e
theorem OwnAll.there {F H : Hp} : ∀ (o : List Ow) (v : List V) (fp : List Addr), OwnAll K F H v o fp → ∀ b ∈ fp, F b = none ∧ ∃ vs, H b = some (.lst vs)
  | [], v, fp, h, b, hb => by cases h; cases hb
  | o :: os, v, fp, h, b, hb => by
    cases h with
    | cons h1 h2 =>
      rcases List.mem_append.mp hb with e | e
      · exact OwnAt.there o _ _ h1 b e
      · exact OwnAll.there os _ _ h2 b e
end
mutual
theorem OwnAt.view {F H : Hp} (s : Same F H) : ∀ (o : Ow) (v : V) (fp : List Addr), OwnAt K F H v o fp → Dp K H v (viewD o)
  | .d x, v, fp, h => by
    cases h with
    | d q => rw [viewD]; exact dpUp q s
  | .l os, v, fp, h => by
    cases h with
    | l h1 h2 h3 => rw [viewD]; exact .lst (SqL.of h2) (OwnAll.view s os _ _ h3)
theorem OwnAll.view {F H : Hp} (s : Same F H) : ∀ (o : List Ow) (v : List V) (fp : List Addr), OwnAll K F H v o fp → DpAll K H v (viewAll o)
  | [], v, fp, h => by cases h; rw [viewAll]; exact .nil
  | o :: os, v, fp, h => by
    cases h with
    | cons h1 h2 => rw [viewAll]; exact .cons (OwnAt.view s o _ _ h1) (OwnAll.view s os _ _ h2)
end
theorem OwnAll.len {F H : Hp} : ∀ {os : List Ow} {vs : List V} {fp : List Addr}, OwnAll K F H vs os fp → vs.length = os.length
  | [], _, _, h => by cases h; rfl
  | o :: os, _, _, h => by
    cases h with
    | cons h1 h2 => simp [OwnAll.len h2]
/-- F with the objects at fp as they stand in H -/
def frzAt (F H : Hp) (fp : List Addr) : Hp := fun b => if b ∈ fp then H b else F b
theorem frzAt_same {F H : Hp} {fp : List Addr} (n : ∀ b ∈ fp, F b = none) : Same F (frzAt F H fp) := fun b o h => by
  have : b ∉ fp := fun z => by rw [n b z] at h; cases h
  simp [frzAt, this, h]
theorem frzAt_in {F H : Hp} {fp : List Addr} (s : Same F H) : Same (frzAt F H fp) H := fun b o h => by
  unfold frzAt at h
  split at h
  · exact h
  · exact s _ _ h
theorem frzAt_of {F H : Hp} {fp : List Addr} {b : Addr} {o : HO} (h : frzAt F H fp b = some o) : F b = some o ∨ b ∈ fp := by
  unfold frzAt at h
  split at h
  · exact .inr ‹_›
  · exact .inl h
mutual
theorem OwnAt.frz {F H : Hp} {fx : List Addr} (nx : ∀ b ∈ fx, F b = none) : ∀ (o : Ow) (v : V) (fp : List Addr), OwnAt K F H v o fp → (∀ b ∈ fp, b ∈ fx) → Dp K (frzAt F H fx) v (viewD o)
  | .d x, v, fp, h, _ => by
    cases h with
    | d q => rw [viewD]; exact dpUp q (frzAt_same nx)
  | .l os, v, fp, h, hs => by
    cases h with
    | @l a _ _ _ h1 h2 h3 =>
      rw [viewD]
      have e : frzAt F H fx a = some (.lst _) := (if_pos (hs a List.mem_cons_self)).trans h2
      exact .lst (SqL.of e) (OwnAll.frz nx os _ _ h3 fun b hb => hs b (List.mem_cons_of_mem _ hb))
theorem OwnAll.frz {F H : Hp} {fx : List Addr} (nx : ∀ b ∈ fx, F b = none) : ∀ (o : List Ow) (v : List V) (fp : List Addr), OwnAll K F H v o fp → (∀ b ∈ fp, b ∈ fx) → DpAll K (frzAt F H fx) v (viewAll o)
  | [], v, fp, h, _ => by cases h; rw [viewAll]; exact .nil
  | o :: os, v, fp, h, hs => by
    cases h with
    | cons h1 h2 => rw [viewAll]; exact .cons (OwnAt.frz nx o _ _ h1 fun b hb => hs b (List.mem_append_left _ hb)) (OwnAll.frz nx os _ _ h2 fun b hb => hs b (List.mem_append_right _ hb))
end
/-- a fresh owned value made data -/
theorem Ext.freeze {F H F' H' : Hp} {v : V} {o : Ow} {fp : List Addr} (e : Ext F H F' H') (h : OwnAt K F' H' v o fp) (n : ∀ b ∈ fp, H b = none) :
    ∃ F2, Ext F H F2 H' ∧ Dp K F2 v (viewD o) := by
  have nx : ∀ b ∈ fp, F' b = none := fun b hb => (OwnAt.there o v fp h b hb).1
  refine ⟨frzAt F' H' fp, ⟨e.ff.trans (frzAt_same nx), e.hh, fun b u q => ?_, frzAt_in e.fh⟩, OwnAt.frz nx o v fp h fun _ z => z⟩
  rcases frzAt_of q with z | z
  · exact e.fn b u z
  · exact .inr (n b z)

/-! ### the slots -/
inductive EnvAt (K : PySem.W.Frag) (F H : Hp) : St → Ev → List Addr → Prop
  | nil : EnvAt K F H [] [] []
  | non {x : Option V} {σ : St} {env : Ev} {fp : List Addr} : EnvAt K F H σ env fp → EnvAt K F H (x :: σ) (none :: env) fp
  | som {v : V} {o : Ow} {σ : St} {env : Ev} {fp fps : List Addr} : OwnAt K F H v o fp → EnvAt K F H σ env fps → EnvAt K F H (some v :: σ) (some o :: env) (fp ++ fps)
theorem EnvAt.keep {F H F' H' : Hp} {fx fy : List Addr} (s : StepS F H fx F' H' fy) : ∀ {σ : St} {env : Ev} {fp : List Addr}, EnvAt K F H σ env fp → (∀ b ∈ fp, b ∉ fx) → EnvAt K F' H' σ env fp := by
  intro σ env fp h
  induction h with
  | nil => intro _; exact .nil
  | non h ih => intro n; exact .non (ih n)
  | som h1 h2 ih => intro n; exact .som (OwnAt.keep s _ _ _ h1 fun b hb => n b (List.mem_append_left _ hb)) (ih fun b hb => n b (List.mem_append_right _ hb))
theorem EnvAt.ext {F H F' H' : Hp} {σ : St} {env : Ev} {fp : List Addr} (h : EnvAt K F H σ env fp) (e : Ext F H F' H') : EnvAt K F' H' σ env fp :=
  h.keep (StepS.of_ext e []) fun _ _ => by simp
theorem EnvAt.there {F H : Hp} {σ : St} {env : Ev} {fp : List Addr} (h : EnvAt K F H σ env fp) : ∀ b ∈ fp, F b = none ∧ ∃ vs, H b = some (.lst vs) := by
  induction h with
  | nil => intro b hb; cases hb
  | non h ih => exact ih
  | som h1 h2 ih =>
    intro b hb
    rcases List.mem_append.mp hb with e | e
    · exact OwnAt.there _ _ _ h1 b e
    · exact ih b e
theorem EnvAt.len {F H : Hp} {σ : St} {env : Ev} {fp : List Addr} (h : EnvAt K F H σ env fp) : σ.length = env.length := by
  induction h with
  | nil => rfl
  | non h ih => simp [ih]
  | som h1 h2 ih => simp [ih]
/-- a slot read: its own footprint, and the others' -/
theorem EnvAt.get {F H : Hp} {σ : St} {env : Ev} {fp : List Addr} (h : EnvAt K F H σ env fp) : ∀ {i : Nat} {o : Ow}, env[i]? = some (some o) → ∃ v fo, σ[i]? = some (some v) ∧ OwnAt K F H v o fo ∧ (∀ b ∈ fo, b ∈ fp) := by
  induction h with
  | nil => intro i o e; simp at e
  | non h ih =>
    intro i o e
    cases i with
    | zero => simp at e
    | succ i => simpa using ih (i := i) (by simpa using e)
  | @som v o' σ' env' fp1 fps h1 h2 ih =>
    intro i o e
    cases i with
    | zero =>
      simp at e; subst e
      exact ⟨v, fp1, rfl, h1, fun b hb => List.mem_append_left _ hb⟩
    | succ i =>
      obtain ⟨v2, fo, a, b, c⟩ := ih (i := i) (by simpa using e)
      exact ⟨v2, fo, by simpa using a, b, fun b hb => List.mem_append_right _ (c b hb)⟩
/-- a slot changed: the rest keeps; fo what stood there, fr the rest (F, H may have moved by a step within fo) -/
theorem EnvAt.put {F H : Hp} {σ : St} {env : Ev} {fp : List Addr} (h : EnvAt K F H σ env fp) : ∀ {i : Nat}, i < env.length → fp.Nodup → ∃ fr fo, (∀ b ∈ fr, b ∈ fp) ∧ (∀ b ∈ fo, b ∈ fp) ∧ fr.Nodup ∧ fo.Nodup ∧ (∀ b ∈ fo, b ∉ fr) ∧
    (∀ o, env[i]? = some (some o) → ∃ v, σ[i]? = some (some v) ∧ OwnAt K F H v o fo) ∧
    ∀ (F' H' : Hp) (fx fy : List Addr), StepS F H fx F' H' fy → (∀ b ∈ fr, b ∉ fx) → (∀ (x : Option V), EnvAt K F' H' (σ.set i x) (env.set i none) fr) ∧ ∀ (v : V) (o : Ow) (fn : List Addr), OwnAt K F' H' v o fn → fn.Nodup → (∀ b ∈ fn, b ∉ fr) → ∃ fp', fp'.Nodup ∧ (∀ b ∈ fp', b ∈ fn ∨ b ∈ fr) ∧ EnvAt K F' H' (σ.set i (some v)) (env.set i (some o)) fp' := by
  induction h with
  | nil => intro i hi; simp at hi
  | @non x σ' env' fps h ih =>
    intro i hi hn
    cases i with
    | zero =>
      refine ⟨fps, [], fun b z => z, (fun b z => nomatch z), hn, List.nodup_nil, fun b z => (nomatch z), fun o e => by simp at e, fun F' H' fx fy s n => ⟨fun x => .non (h.keep s n), fun v o fn ho hd hx => ?_⟩⟩
      refine ⟨fn ++ fps, ?_, fun b hb => List.mem_append.mp hb, .som ho (h.keep s n)⟩
      rw [List.nodup_append]
      exact ⟨hd, hn, fun a ha b hb e => hx a ha (e ▸ hb)⟩
    | succ i =>
      obtain ⟨fr, fo, a1, a2, a3, a3', a4, a5, a6⟩ := ih (i := i) (by simpa using hi) hn
      refine ⟨fr, fo, a1, a2, a3, a3', a4, by simpa using a5, fun F' H' fx fy s n => ⟨fun x => .non ((a6 F' H' fx fy s n).1 x), fun v o fn ho hd hx => ?_⟩⟩
      obtain ⟨fp', b1, b2, b3⟩ := (a6 F' H' fx fy s n).2 v o fn ho hd hx
      exact ⟨fp', b1, b2, .non b3⟩
  | @som v0 o0 σ' env' f1 fps h1 h2 ih =>
    intro i hi hn
    rw [List.nodup_append] at hn
    obtain ⟨n1, n2, n3⟩ := hn
    cases i with
    | zero =>
      refine ⟨fps, f1, fun b z => List.mem_append_right _ z, fun b z => List.mem_append_left _ z, n2, n1, fun b z q => n3 b z b q rfl, fun o e => ?_, fun F' H' fx fy s n => ⟨fun x => .non (h2.keep s n), fun v o fn ho hd hx => ?_⟩⟩
      · simp at e; subst e; exact ⟨v0, rfl, h1⟩
      · refine ⟨fn ++ fps, ?_, fun b hb => List.mem_append.mp hb, .som ho (h2.keep s n)⟩
        rw [List.nodup_append]
        exact ⟨hd, n2, fun a ha b hb e => hx a ha (e ▸ hb)⟩
    | succ i =>
      obtain ⟨fr, fo, a1, a2, a3, a3', a4, a5, a6⟩ := ih (i := i) (by simpa using hi) n2
      have dis : ∀ b ∈ f1, b ∉ fr := fun b z q => n3 b z b (a1 b q) rfl
      have key : ∀ (F' H' : Hp) (fx fy : List Addr), StepS F H fx F' H' fy → (∀ b ∈ f1 ++ fr, b ∉ fx) → OwnAt K F' H' v0 o0 f1 := fun F' H' fx fy s n => OwnAt.keep s _ _ _ h1 fun b hb => n b (List.mem_append_left _ hb)
      refine ⟨f1 ++ fr, fo, fun b z => ?_, fun b z => List.mem_append_right _ (a2 b z), ?_, a3', fun b z q => ?_, by simpa using a5, fun F' H' fx fy s n => ⟨fun x => .som (key F' H' fx fy s n) ((a6 F' H' fx fy s fun b hb => n b (List.mem_append_right _ hb)).1 x), fun v o fn ho hd hx => ?_⟩⟩
      · rcases List.mem_append.mp z with z | z
        · exact List.mem_append_left _ z
        · exact List.mem_append_right _ (a1 b z)
      · rw [List.nodup_append]; exact ⟨n1, a3, fun a ha b hb e => dis a ha (e ▸ hb)⟩
      · rcases List.mem_append.mp q with q | q
        · exact n3 b q b (a2 b z) rfl
        · exact a4 b z q
      · obtain ⟨fp', b1, b2, b3⟩ := (a6 F' H' fx fy s fun b hb => n b (List.mem_append_right _ hb)).2 v o fn ho hd fun b hb q => hx b hb (List.mem_append_right _ q)
        have dj : ∀ b ∈ f1, b ∉ fp' := fun b z q => by
          rcases b2 b q with r | r
          · exact hx b r (List.mem_append_left _ z)
          · exact dis b z r
        refine ⟨f1 ++ fp', ?_, fun b hb => ?_, .som (key F' H' fx fy s n) b3⟩
        · rw [List.nodup_append]; exact ⟨n1, b1, fun a ha b hb e => dj a ha (e ▸ hb)⟩
        · rcases List.mem_append.mp hb with r | r
          · exact .inr (List.mem_append_left _ r)
          · exact (b2 b r).imp id (List.mem_append_right _)

structure Sat (K : PySem.W.Frag) (F H : Hp) (σ : St) (env : Ev) (fp : List Addr) : Prop where
  fh : Same F H
  en : EnvAt K F H σ env fp
  nd : fp.Nodup
theorem Sat.ext {F H F' H' : Hp} {σ : St} {env : Ev} {fp : List Addr} (s : Sat K F H σ env fp) (e : Ext F H F' H') : Sat K F' H' σ env fp := ⟨e.fh, s.en.ext e, s.nd⟩
end
end Mir
end
set_option Elab.async false
set_option linter.all false
set_option maxRecDepth 100000
set_option maxHeartbeats 4000000
noncomputable section
namespace Mir
open PySem PySem.Spec L2

/-! ### outcomes of pure expressions -/
def Post (X : Cx) (W : WX) {α β : Type} (P : Hp → α → β → Hp → Hp → Prop) (F H : Hp) (σ : L2.St) : R α → (β → Hp → Prop) → Prop
  | .no, _ => False
  | .ok a, Q => ∀ v F' H', Ext F H F' H' → P H a v F' H' → Q v H'
  | .ex c, _ => ∀ C F' H', X.mg c = some (.ref C) → Ext F H F' H' → W (.ref C) none σ H'
class Anti {α β : Type} (P : Hp → α → β → Hp → Hp → Prop) : Prop where
  anti : ∀ {H H1 : Hp} {a : α} {v : β} {F' H' : Hp}, Same H H1 → P H1 a v F' H' → P H a v F' H'
def PVw (K : PySem.W.Frag) (_ : Hp) (d : D) (v : V) (_ H' : Hp) : Prop := Dp K H' v d
def PFz (K : PySem.W.Frag) (_ : Hp) (d : D) (v : V) (F' _ : Hp) : Prop := Dp K F' v d
def POw (K : PySem.W.Frag) (H : Hp) (r : Ow) (v : V) (F' H' : Hp) : Prop := ∃ fp, OwnAt K F' H' v r fp ∧ fp.Nodup ∧ ∀ b ∈ fp, H b = none
/-- a list or tuple whose items are frozen, though it may itself change; other data -/
def PSq (K : PySem.W.Frag) (_ : Hp) (d : D) (v : V) (F' H' : Hp) : Prop := match d with
  | .list ds => ∃ a vs, v = .ref a ∧ SqL K H' a vs ∧ DpAll K F' vs ds
  | d => Dp K F' v d
def PTb (_ : Hp) (b : Bool) (v : Bool) (_ _ : Hp) : Prop := v = b
def PAv (K : PySem.W.Frag) (_ : Hp) (ds : List D) (vs : List V) (_ H' : Hp) : Prop := DpAll K H' vs ds
def PAf (K : PySem.W.Frag) (_ : Hp) (ds : List D) (vs : List V) (F' _ : Hp) : Prop := DpAll K F' vs ds
variable {K : PySem.W.Frag}
instance : Anti (PVw K) := ⟨fun _ h => h⟩
instance : Anti (PFz K) := ⟨fun _ h => h⟩
instance : Anti (PSq K) := ⟨fun {_ _ _ _ _ _} _ h => h⟩
instance : Anti PTb := ⟨fun _ h => h⟩
instance : Anti (PAv K) := ⟨fun _ h => h⟩
instance : Anti (PAf K) := ⟨fun _ h => h⟩
instance : Anti (POw K) := ⟨fun s ⟨fp, a, b, c⟩ => ⟨fp, a, b, fun x hx => s.free (c x hx)⟩⟩

/-- the semantics: t (a reading) is implied by the mirror f -/
def Sm (X : Cx) (W : WX) {α β : Type} (P : Hp → α → β → Hp → Hp → Prop) (t : L2.St → Hp → (β → Hp → Prop) → Prop) (f : Ev → R α) : Prop :=
  ∀ F H σ env fp Q, Sat X.K F H σ env fp → Post X W P F H σ (f env) Q → t σ H Q
section
variable {X : Cx} {W : WX} {α β γ δ : Type}
theorem Post.ext {P : Hp → α → β → Hp → Hp → Prop} [Anti P] {F H F1 H1 : Hp} {σ : L2.St} {r : R α} {Q : β → Hp → Prop} (h : Post X W P F H σ r Q) (e : Ext F H F1 H1) : Post X W P F1 H1 σ r Q := by
  cases r with
  | no => exact h
  | ok a => exact fun v F' H' e' p => h v F' H' (e.trans e') (Anti.anti e.hh p)
  | ex c => exact fun C F' H' m e' => h C F' H' m (e.trans e')
/-- evaluate one part, go on -/
theorem Sm.go {P : Hp → α → β → Hp → Hp → Prop} {P2 : Hp → γ → δ → Hp → Hp → Prop} [Anti P2] {t : L2.St → Hp → (β → Hp → Prop) → Prop} {f : Ev → R α} (s : Sm X W P t f) {g : α → R γ} {F H : Hp} {σ : L2.St} {env : Ev} {fp : List Addr} {Q : δ → Hp → Prop} {T : β → Hp → Prop}
    (sat : Sat X.K F H σ env fp) (h : Post X W P2 F H σ ((f env).bind g) Q) (k : ∀ a v F1 H1, Sat X.K F1 H1 σ env fp → P H a v F1 H1 → Ext F H F1 H1 → Post X W P2 F1 H1 σ (g a) Q → T v H1) : t σ H T := by
  refine s F H σ env fp T sat ?_
  cases e : f env with
  | no => rw [e] at h; exact h
  | ok a =>
    rw [e] at h
    exact fun v F' H' x p => k a v F' H' (sat.ext x) p x (Post.ext (show Post X W P2 F H σ (g a) Q from h) x)
  | ex c => rw [e] at h; exact h
theorem Post.thru {β' : Type} {P : Hp → α → β → Hp → Hp → Prop} {P2 : Hp → γ → β' → Hp → Hp → Prop} {F H : Hp} {σ : L2.St} {r : R α} {g : α → R γ} {Q : β → Hp → Prop} {Q2 : β' → Hp → Prop} (h : Post X W P2 F H σ (r.bind g) Q2)
    (k : ∀ a, r = .ok a → Post X W P2 F H σ (g a) Q2 → ∀ v F' H', Ext F H F' H' → P H a v F' H' → Q v H') : Post X W P F H σ r Q := by
  cases r with
  | no => exact h
  | ok a => exact k a rfl h
  | ex c => exact h
theorem Sm.map {P : Hp → α → β → Hp → Hp → Prop} {P2 : Hp → γ → β → Hp → Hp → Prop} {t : L2.St → Hp → (β → Hp → Prop) → Prop} {f : Ev → R α} (s : Sm X W P t f) {g : α → R γ} (k : ∀ H a v F' H', Same F' H' → P H a v F' H' → ∃ c, g a = .ok c ∧ P2 H c v F' H') :
    Sm X W P2 t fun env => (f env).bind g := by
  intro F H σ env fp Q sat h
  refine s F H σ env fp Q sat (Post.thru h fun a _ h' v F' H' x p => ?_)
  obtain ⟨c, hc, q⟩ := k H a v F' H' x.fh p
  rw [hc] at h'
  exact h' v F' H' x q
end

def eB {α β : Type} (f : Ev → R α) (g : α → R β) (env : Ev) : R β := (f env).bind g
def eM {α β : Type} (f : Ev → R α) (g : α → β) (env : Ev) : R β := (f env).map g

/-! ### judgements -/
section
variable (X : Cx) (W : WX)
def DV (e : Expr) (f : Ev → R D) : Prop := ∃ t, PE X e t ∧ Sm X W (PVw X.K) t f
def DF (e : Expr) (f : Ev → R D) : Prop := ∃ t, PE X e t ∧ Sm X W (PFz X.K) t f
def DE (e : Expr) (f : Ev → R Ow) : Prop := ∃ t, PE X e t ∧ Sm X W (POw X.K) t f
def DL (e : Expr) (f : Ev → R D) : Prop := ∃ t, PE X e t ∧ Sm X W (PSq X.K) t f
def DT (e : Expr) (f : Ev → R Bool) : Prop := ∃ t, PT X e t ∧ Sm X W PTb t f
def DW (e : Expr) (f : Ev → R Bool) : Prop := ∃ t, PW X e t ∧ Sm X W PTb t f
def DAv (es : List Expr) (f : Ev → R (List D)) : Prop := ∃ t, PA X es t ∧ Sm X W (PAv X.K) t f
def DA (es : List Expr) (f : Ev → R (List D)) : Prop := ∃ t, PA X es t ∧ Sm X W (PAf X.K) t f
end
def unD : Ow → Option D
  | .d x => some x
  | .l _ => none
def unDs : List Ow → Option (List D)
  | [] => some []
  | o :: os => (unD o).bind fun x => (unDs os).map fun xs => x :: xs
@[simp] theorem unDs_map : ∀ ds : List D, unDs (ds.map Ow.d) = some ds
  | [] => rfl
  | d :: ds => by simp [unDs, unD, unDs_map ds]
theorem unDs_eq : ∀ {os : List Ow} {ds : List D}, unDs os = some ds → os = ds.map Ow.d
  | [], ds, h => by simp [unDs] at h; subst h; rfl
  | .d x :: os, ds, h => by
    simp only [unDs, unD, Option.bind_some, Option.map_eq_some_iff] at h
    obtain ⟨xs, h1, h2⟩ := h
    subst h2
    rw [unDs_eq h1]; rfl
  | .l _ :: os, ds, h => by simp [unDs, unD] at h
def shD : Ow → R D
  | .d x => .ok x
  | .l os => match unDs os with
    | some ds => .ok (.list ds)
    | none => .no
@[simp] theorem shD_d (x : D) : shD (.d x) = .ok x := rfl
@[simp] theorem shD_l (ds : List D) : shD (.l (ds.map Ow.d)) = .ok (.list ds) := by simp [shD]
@[simp] theorem shD_nil : shD (.l []) = .ok (.list []) := rfl
theorem OwnAll.dp {F H : Hp} : ∀ {ds : List D} {vs : List V} {fp : List Addr}, OwnAll K F H vs (ds.map Ow.d) fp → DpAll K F vs ds ∧ fp = []
  | [], _, _, h => by cases h; exact ⟨.nil, rfl⟩
  | d :: ds, _, _, h => by
    cases h with
    | cons h1 h2 =>
      cases h1 with
      | d q =>
        obtain ⟨a, b⟩ := OwnAll.dp (ds := ds) h2
        exact ⟨.cons q a, by rw [b]; rfl⟩
theorem OwnAll.of_dp {F H : Hp} : ∀ {ds : List D} {vs : List V}, DpAll K F vs ds → OwnAll K F H vs (ds.map Ow.d) []
  | [], _, h => by cases h; exact .nil
  | d :: ds, _, h => by
    cases h with
    | cons h1 h2 => exact .cons (fp := []) (.d h1) (OwnAll.of_dp h2)
theorem PSq.of {F H : Hp} {v : V} {d : D} {H0 : Hp} (s : Same F H) (h : Dp K F v d) : PSq K H0 d v F H := by
  cases d with
  | list ds =>
    cases h with
    | lst hs ha => exact ⟨_, _, rfl, s.seq hs, ha⟩
  | _ => exact h
theorem PSq.view {F H : Hp} {v : V} {d : D} {H0 : Hp} (s : Same F H) (h : PSq K H0 d v F H) : Dp K H v d := by
  cases d with
  | list ds =>
    obtain ⟨a, vs, rfl, h1, h2⟩ := h
    exact .lst h1 (dpaUp h2 s)
  | _ => exact dpUp (show Dp K F v _ from h) s
theorem PSq.ext {F H F1 H1 : Hp} {v : V} {d : D} {H0 H2 : Hp} (e : Ext F H F1 H1) (h : PSq K H0 d v F H) : PSq K H2 d v F1 H1 := by
  cases d with
  | list ds =>
    obtain ⟨a, vs, rfl, h1, h2⟩ := h
    exact ⟨_, _, rfl, e.hh.seq h1, dpaUp h2 e.ff⟩
  | _ => exact dpUp (show Dp K F v _ from h) e.ff
theorem own_seq {F H : Hp} {v : V} {o : Ow} {fp : List Addr} {d : D} {H0 : Hp} (s : Same F H) (h : OwnAt K F H v o fp) (e : shD o = .ok d) : PSq K H0 d v F H := by
  cases o with
  | d x =>
    cases h with
    | d p =>
      cases e
      exact .of s p
  | l os =>
    cases h with
    | l h1 h2 h3 =>
      have e' : (match unDs os with | some ds => (R.ok (.list ds) : R D) | none => .no) = .ok d := e
      clear e
      cases u : unDs os with
      | none => rw [u] at e'; cases e'
      | some ds =>
        rw [u] at e'
        cases e'
        rw [unDs_eq u] at h3
        exact ⟨_, _, rfl, SqL.of h2, (OwnAll.dp h3).1⟩
theorem shD_ex (o : Ow) (c : Str) : shD o ≠ .ex c := fun e => by
  cases o with
  | d x => cases e
  | l os =>
    have e' : (match unDs os with | some ds => (R.ok (.list ds) : R D) | none => .no) = .ex c := e
    split at e' <;> cases e'
theorem shD_ok {X : Cx} {W : WX} {β : Type} {P : Hp → D → β → Hp → Hp → Prop} {F H : Hp} {σ : L2.St} {o : Ow} {Q : β → Hp → Prop} (h : Post X W P F H σ (shD o) Q) : ∃ r, shD o = .ok r := by
  cases e2 : shD o with
  | no => rw [e2] at h; exact h.elim
  | ex c => exact absurd e2 (shD_ex o c)
  | ok r => exact ⟨r, rfl⟩
section
variable {X : Cx} {W : WX} {e a b : Expr} {es : List Expr} {pos : Pos}
/-! ### from one form to another -/
theorem dv_df {f : Ev → R D} (h : DF X W e f) : DV X W e f := by
  obtain ⟨t, p, s⟩ := h
  refine ⟨t, p, fun F H σ env fp Q sat h => s F H σ env fp Q sat ?_⟩
  cases e : f env with
  | no => rw [e] at h; exact h
  | ex c => rw [e] at h; exact h
  | ok d => rw [e] at h; exact fun v F' H' x q => h v F' H' x (dpUp q x.fh)
theorem dv_de {f : Ev → R Ow} (h : DE X W e f) : DV X W e (eM f viewD) := by
  obtain ⟨t, p, s⟩ := h
  refine ⟨t, p, Sm.map s fun H o v F' H' sm ⟨fp, q, _⟩ => ⟨viewD o, rfl, OwnAt.view sm o v fp q⟩⟩
theorem de_df {f : Ev → R D} (h : DF X W e f) : DE X W e (eM f Ow.d) := by
  obtain ⟨t, p, s⟩ := h
  refine ⟨t, p, Sm.map s fun H d v F' H' sm q => ⟨.d d, rfl, [], .d q, List.nodup_nil, fun b z => nomatch z⟩⟩
theorem df_de {f : Ev → R Ow} (h : DE X W e f) : DF X W e (eM f viewD) := by
  obtain ⟨t, p, s⟩ := h
  refine ⟨t, p, fun F H σ env fp Q sat h => s F H σ env fp Q sat (Post.thru h fun d _ h' v F' H' x ⟨fp, q, _, n⟩ => ?_)⟩
  obtain ⟨F2, x2, q2⟩ := x.freeze q n
  exact h' v F2 H' x2 q2
theorem dl_df {f : Ev → R D} (h : DF X W e f) : DL X W e f := by
  obtain ⟨t, p, s⟩ := h
  refine ⟨t, p, fun F H σ env fp Q sat h => s F H σ env fp Q sat ?_⟩
  cases e : f env with
  | no => rw [e] at h; exact h
  | ex c => rw [e] at h; exact h
  | ok d => rw [e] at h; exact fun v F' H' x q => h v F' H' x (.of x.fh q)
theorem dl_de {f : Ev → R Ow} (h : DE X W e f) : DL X W e (eB f shD) := by
  obtain ⟨t, p, s⟩ := h
  refine ⟨t, p, fun F H σ env fp Q sat h => s F H σ env fp Q sat (Post.thru h fun d _ h' v F' H' x ⟨fp, q, _, n⟩ => ?_)⟩
  obtain ⟨r, e2⟩ := shD_ok h'
  rw [e2] at h'
  exact h' v F' H' x (own_seq x.fh q e2)
theorem dv_dl {f : Ev → R D} (h : DL X W e f) : DV X W e f := by
  obtain ⟨t, p, s⟩ := h
  refine ⟨t, p, fun F H σ env fp Q sat h => s F H σ env fp Q sat ?_⟩
  cases e : f env with
  | no => rw [e] at h; exact h
  | ex c => rw [e] at h; exact h
  | ok d => rw [e] at h; exact fun v F' H' x q => h v F' H' x (q.view x.fh)

/-! ### names and constants -/
def eVar (i : Nat) (env : Ev) : R D := match env[i]? with
  | some (some (.d x)) => .ok x
  | _ => .no
def eVarO (i : Nat) (env : Ev) : R Ow := match env[i]? with
  | some (some o) => .ok o
  | _ => .no
theorem eVar_ok {P : Hp → D → V → Hp → Hp → Prop} {F H : Hp} {σ : L2.St} {i : Nat} {env : Ev} {Q : VK} (h : Post X W P F H σ (eVar i env) Q) : ∃ d, env[i]? = some (some (.d d)) ∧ eVar i env = .ok d := by
  unfold eVar at h ⊢
  split at h
  · rename_i d he
    exact ⟨d, he, rfl⟩
  · exact h.elim
theorem eVarO_ok {γ : Type} {P : Hp → γ → V → Hp → Hp → Prop} {F H : Hp} {σ : L2.St} {i : Nat} {env : Ev} {Q : VK} {g : Ow → R γ} (h : Post X W P F H σ ((eVarO i env).bind g) Q) : ∃ d, env[i]? = some (some d) ∧ eVarO i env = .ok d ∧ Post X W P F H σ (g d) Q := by
  unfold eVarO at h ⊢
  cases e : env[i]? with
  | none => rw [e] at h; exact h.elim
  | some o =>
    cases o with
    | none => rw [e] at h; exact h.elim
    | some o => rw [e] at h; exact ⟨o, rfl, rfl, h⟩
theorem df_var (i : Nat) {x : Str} (hN : X.N[i]? = some x := by rfl) (hv : Vis X.env.scope x := by first | exact Or.inl rfl | exact Or.inr (Or.inl rfl) | exact Or.inr (Or.inr rfl)) (hd : (x == ("__debug__" : Str)) = false := by decide)
    (hcd : (x == ("__classdict__" : Str)) = false := by decide) : DF X W (.Name x pos) (eVar i) := by
  refine ⟨_, pe_var hN hv hd hcd, fun F H σ env fp Q sat h => ?_⟩
  obtain ⟨d, he, e2⟩ := eVar_ok h
  rw [e2] at h
  obtain ⟨v, fo, h1, h2, _⟩ := sat.en.get he
  cases h2 with
  | d q => exact ⟨v, h1, h v F H (.refl sat.fh) q⟩
theorem dv_var (i : Nat) {x : Str} (hN : X.N[i]? = some x := by rfl) (hv : Vis X.env.scope x := by first | exact Or.inl rfl | exact Or.inr (Or.inl rfl) | exact Or.inr (Or.inr rfl)) (hd : (x == ("__debug__" : Str)) = false := by decide)
    (hcd : (x == ("__classdict__" : Str)) = false := by decide) : DV X W (.Name x pos) (eM (eVarO i) viewD) := by
  refine ⟨_, pe_var hN hv hd hcd, fun F H σ env fp Q sat h => ?_⟩
  obtain ⟨o, he, _, h⟩ := eVarO_ok h
  obtain ⟨v, fo, h1, h2, _⟩ := sat.en.get he
  exact ⟨v, h1, h v F H (.refl sat.fh) (OwnAt.view sat.fh _ _ _ h2)⟩
theorem dl_var (i : Nat) {x : Str} (hN : X.N[i]? = some x := by rfl) (hv : Vis X.env.scope x := by first | exact Or.inl rfl | exact Or.inr (Or.inl rfl) | exact Or.inr (Or.inr rfl)) (hd : (x == ("__debug__" : Str)) = false := by decide)
    (hcd : (x == ("__classdict__" : Str)) = false := by decide) : DL X W (.Name x pos) (eB (eVarO i) shD) := by
  refine ⟨_, pe_var hN hv hd hcd, fun F H σ env fp Q sat h => ?_⟩
  obtain ⟨o, he, _, h⟩ := eVarO_ok h
  obtain ⟨v, fo, h1, h2, _⟩ := sat.en.get he
  obtain ⟨r, e2⟩ := shD_ok h
  rw [e2] at h
  exact ⟨v, h1, h v F H (.refl sat.fh) (own_seq sat.fh h2 e2)⟩
def eC (d : D) (_ : Ev) : R D := .ok d
theorem df_int {i j} : DF X W (.Constant (.int i) j pos) (eC (.int i)) := ⟨_, pe_int, fun F H σ env fp Q sat h => h _ F H (.refl sat.fh) (.int i)⟩
theorem df_bl {i j} : DF X W (.Constant (.bool i) j pos) (eC (.bool i)) := ⟨_, pe_bl, fun F H σ env fp Q sat h => h _ F H (.refl sat.fh) (.bl i)⟩
theorem df_non {j} : DF X W (.Constant .none j pos) (eC .none) := ⟨_, pe_non, fun F H σ env fp Q sat h => h _ F H (.refl sat.fh) .non⟩
theorem df_str {i j} : DF X W (.Constant (.str i) j pos) (eC (.str i)) := ⟨_, pe_str, fun F H σ env fp Q sat h => h _ F H (.refl sat.fh) (.str i)⟩
/-- a text constant of the module's top -/
theorem df_gstr {x : Str} {z : Str} {u : Value} (hg : Gl X x) (hm : X.mg x = some u) (r : RelV (.str z) u) (hd : (x == ("__debug__" : Str)) = false := by decide) : DF X W (.Name x pos) (eC (.str z)) :=
  ⟨_, pe_glob hg hm r hd, fun F H σ env fp Q sat h => h _ F H (.refl sat.fh) (.str z)⟩
theorem df_gint {x : Str} {z : Int} {u : Value} (hg : Gl X x) (hm : X.mg x = some u) (r : RelV (.int z) u) (hd : (x == ("__debug__" : Str)) = false := by decide) : DF X W (.Name x pos) (eC (.int z)) :=
  ⟨_, pe_glob hg hm r hd, fun F H σ env fp Q sat h => h _ F H (.refl sat.fh) (.int z)⟩

/-! ### argument lists -/
def aNil (_ : Ev) : R (List D) := .ok []
def aCons (f : Ev → R D) (g : Ev → R (List D)) (env : Ev) : R (List D) := (f env).bind fun d => (g env).map fun ds => d :: ds
theorem da_nil : DA X W [] aNil := ⟨_, pa_nil, fun F H σ env fp Q sat h => h _ F H (.refl sat.fh) .nil⟩
theorem da_cons {f : Ev → R D} {g : Ev → R (List D)} (hf : DF X W e f) (hg : DA X W es g) (hs : starEach (e :: es) X.env = (false, eval e X.env) :: starEach es X.env := by rfl) : DA X W (e :: es) (aCons f g) := by
  obtain ⟨t, p, s⟩ := hf
  obtain ⟨t', p', s'⟩ := hg
  refine ⟨_, pa_cons p p' hs, fun F H σ env fp Q sat h => ?_⟩
  refine s.go sat h fun d v F1 H1 sat1 q _ h1 => ?_
  refine s'.go sat1 h1 fun ds vs F2 H2 sat2 q' x2 h2 => ?_
  exact h2 _ F2 H2 (.refl sat2.fh) (.cons (dpUp q x2.ff) q')
theorem dav_nil : DAv X W [] aNil := ⟨_, pa_nil, fun F H σ env fp Q sat h => h _ F H (.refl sat.fh) .nil⟩
theorem dav_cons {f : Ev → R D} {g : Ev → R (List D)} (hf : DV X W e f) (hg : DAv X W es g) (hs : starEach (e :: es) X.env = (false, eval e X.env) :: starEach es X.env := by rfl) : DAv X W (e :: es) (aCons f g) := by
  obtain ⟨t, p, s⟩ := hf
  obtain ⟨t', p', s'⟩ := hg
  refine ⟨_, pa_cons p p' hs, fun F H σ env fp Q sat h => ?_⟩
  refine s.go sat h fun d v F1 H1 sat1 q _ h1 => ?_
  refine s'.go sat1 h1 fun ds vs F2 H2 sat2 q' x2 h2 => ?_
  exact h2 _ F2 H2 (.refl sat2.fh) (.cons (dpUp q x2.hh) q')
/-! ### displays -/
def eTup (f : Ev → R (List D)) (env : Ev) : R D := (f env).bind fun ds => guard (ds.length ≤ sizeLine) (.ok (.tuple ds))
def eLst (f : Ev → R (List D)) (env : Ev) : R Ow := (f env).bind fun ds => guard (ds.length ≤ sizeLine) (.ok (.l (ds.map Ow.d)))
theorem guard_post {P : Hp → α → β → Hp → Hp → Prop} {F H : Hp} {σ : L2.St} {c : Prop} {r : R α} {Q : β → Hp → Prop} (h : Post X W P F H σ (guard c r) Q) : c ∧ Post X W P F H σ r Q := by
  unfold guard at h
  split at h
  · exact ⟨‹_›, h⟩
  · exact h.elim
theorem df_tup {x1} {f : Ev → R (List D)} (hf : DA X W es f) : DF X W (.Tuple es x1 pos) (eTup f) := by
  obtain ⟨t, p, s⟩ := hf
  refine ⟨_, pe_tup p, fun F H σ env fp Q sat h => ?_⟩
  refine s.go sat h fun ds vs F1 H1 sat1 q _ h1 => ?_
  obtain ⟨hl, h2⟩ := guard_post h1
  refine ⟨by rw [DpAll.len q]; exact hl, fun p hp => ?_⟩
  have x := Ext.frz sat1.fh hp (.tup vs)
  exact h2 _ _ _ x (.tup (SqT.of upd_same) (dpaUp q x.ff))
theorem de_lst {f : Ev → R (List D)} (hf : DA X W es f) : DE X W (.List es pos) (eLst f) := by
  obtain ⟨t, p, s⟩ := hf
  refine ⟨_, pe_lst p, fun F H σ env fp Q sat h => ?_⟩
  refine s.go sat h fun ds vs F1 H1 sat1 q _ h1 => ?_
  obtain ⟨hl, h2⟩ := guard_post h1
  refine ⟨by rw [DpAll.len q]; exact hl, fun p hp => ?_⟩
  have x := Ext.own sat1.fh hp (.lst vs)
  exact h2 _ _ _ x ⟨[p], .l (free_of sat1.fh hp) upd_same (OwnAll.of_dp q), by simp, by simpa using hp⟩

/-! ### operators on scalars -/
def R.of {α : Type} : Option α → R α
  | some a => .ok a
  | none => .no
@[simp] theorem R.of_some (a : α) : R.of (some a) = .ok a := rfl
@[simp] theorem R.of_none : R.of (none : Option α) = .no := rfl
/-- data in, flat data out, the heap as it was -/
def OpS (K : PySem.W.Frag) (r : R2) (g : D → D → Option D) : Prop := ∀ H x y dx dy d Q, Dp K H x dx → Dp K H y dy → g dx dy = some d → (∀ v, (∀ F, Dp K F v d) → Q v H) → r x y H Q
def eBin (g : D → D → Option D) (f h : Ev → R D) (env : Ev) : R D := (f env).bind fun x => (h env).bind fun y => R.of (g x y)
theorem post_of {P : Hp → α → β → Hp → Hp → Prop} {F H : Hp} {σ : L2.St} {o : Option α} {Q : β → Hp → Prop} (h : Post X W P F H σ (R.of o) Q) : ∃ a, o = some a ∧ ∀ v F' H', Ext F H F' H' → P H a v F' H' → Q v H' := by
  cases o with
  | none => exact h.elim
  | some a => exact ⟨a, rfl, h⟩
theorem op_sm {r : R2} {g : D → D → Option D} (hs : OpS X.K r g) {ta tb : TE} {f h : Ev → R D} (sa : Sm X W (PVw X.K) ta f) (sb : Sm X W (PVw X.K) tb h) : Sm X W (PFz X.K) (tOp r ta tb) (eBin g f h) := by
  intro F H σ env fp Q sat hp
  refine sa.go sat hp fun d v F1 H1 sat1 q _ h1 => ?_
  refine sb.go sat1 h1 fun d' v' F2 H2 sat2 q' x2 h2 => ?_
  obtain ⟨z, hz, h3⟩ := post_of h2
  exact hs H2 v v' d d' z Q (dpUp q x2.hh) q' hz fun u hu => h3 u F2 H2 (.refl sat2.fh) (hu _)
theorem df_bin {op : Operator} {r : R2} {g : D → D → Option D} (ho : OpR X (binaryOp op) r) (hs : OpS X.K r g) {f h : Ev → R D} (ha : DV X W a f) (hb : DV X W b h) : DF X W (.BinOp a op b pos) (eBin g f h) := by
  obtain ⟨ta, pa, sa⟩ := ha
  obtain ⟨tb, pb, sb⟩ := hb
  exact ⟨_, pe_op ho pa pb, op_sm hs sa sb⟩
theorem df_cmp {op : CmpOp} {r : R2} {g : D → D → Option D} (ho : OpR X (compareOp op) r) (hs : OpS X.K r g) {f h : Ev → R D} (ha : DV X W a f) (hb : DV X W b h) (hm : behindInMarks op b = false := by first | exact nomark _ | rfl) :
    DF X W (.Compare a [op] [b] pos) (eBin g f h) := by
  obtain ⟨ta, pa, sa⟩ := ha
  obtain ⟨tb, pb, sb⟩ := hb
  exact ⟨_, pe_cmpR ho pa pb hm, op_sm hs sa sb⟩
def asB : D → R Bool
  | .bool b => .ok b
  | _ => .no
@[simp] theorem asB_bool (b : Bool) : asB (.bool b) = .ok b := rfl
theorem tb_sm {t : TE} {f : Ev → R D} (s : Sm X W (PVw X.K) t f) : Sm X W PTb (fun σ H Q => t σ H fun x H' => ∃ k, x = .bl k ∧ Q k H') (eB f asB) := by
  intro F H σ env fp Q sat hp
  refine s.go sat hp fun d v F1 H1 sat1 q _ h1 => ?_
  cases d with
  | bool b =>
    cases q
    exact ⟨b, rfl, h1 b F1 H1 (.refl sat1.fh) rfl⟩
  | _ => exact h1.elim
theorem dt_cmp {op : CmpOp} {r : R2} {g : D → D → Option D} (ho : OpR X (compareOp op) r) (hs : OpS X.K r g) {f h : Ev → R D} (ha : DV X W a f) (hb : DV X W b h) (hm : behindInMarks op b = false := by first | exact nomark _ | rfl) :
    DT X W (.Compare a [op] [b] pos) (eB (eBin g f h) asB) := by
  obtain ⟨ta, pa, sa⟩ := ha
  obtain ⟨tb, pb, sb⟩ := hb
  refine ⟨_, pt_cmpR ho pa pb hm, tb_sm ?_⟩
  intro F H σ env fp Q sat hp
  refine op_sm hs sa sb F H σ env fp Q sat ?_
  cases e : eBin g f h env with
  | no => rw [e] at hp; exact hp
  | ex c => rw [e] at hp; exact hp
  | ok d => rw [e] at hp; exact fun v F' H' x q => hp v F' H' x (dpUp q x.fh)
theorem dt_val {f : Ev → R D} (h : DV X W e f) (he : ∀ whole, isTrue e X.env whole = (do let v ← whole; standAt e.pos; holding [v] (truthy v)) := by intro _; rfl) : DT X W e (eB f asB) := by
  obtain ⟨t, p, s⟩ := h
  exact ⟨_, pt_val p he, tb_sm s⟩
def tNotE (f : Ev → R Bool) (env : Ev) : R Bool := (f env).map (!·)
theorem dt_not {f : Ev → R Bool} (h : DT X W a f) : DT X W (.UnaryOp .Not a pos) (tNotE f) := by
  obtain ⟨t, p, s⟩ := h
  refine ⟨_, pt_not p, fun F H σ env fp Q sat hp => ?_⟩
  refine s.go sat hp fun b v F1 H1 sat1 q _ h1 => ?_
  obtain rfl : v = b := q
  exact h1 _ F1 H1 (.refl sat1.fh) rfl
def tAndE (f g : Ev → R Bool) (env : Ev) : R Bool := (f env).bind fun b => if b = true then g env else .ok false
def tOrE (f g : Ev → R Bool) (env : Ev) : R Bool := (f env).bind fun b => if b = true then .ok true else g env
theorem dw_and1 {f : Ev → R Bool} (h : DT X W a f) : DW X W (.BoolOp .And [a] pos) f := by
  obtain ⟨t, p, s⟩ := h
  exact ⟨_, pw_and1 p, s⟩
theorem dw_or1 {f : Ev → R Bool} (h : DT X W a f) : DW X W (.BoolOp .Or [a] pos) f := by
  obtain ⟨t, p, s⟩ := h
  exact ⟨_, pw_or1 p, s⟩
theorem dw_and {rest : List Expr} {f g : Ev → R Bool} (h : DT X W a f) (h2 : DW X W (.BoolOp .And (b :: rest) pos) g) : DW X W (.BoolOp .And (a :: b :: rest) pos) (tAndE f g) := by
  obtain ⟨t, p, s⟩ := h
  obtain ⟨t', p', s'⟩ := h2
  refine ⟨_, pw_and p p', fun F H σ env fp Q sat hp => ?_⟩
  refine s.go sat hp fun b v F1 H1 sat1 q _ h1 => ?_
  obtain rfl : v = b := q
  cases v with
  | true => exact s' F1 H1 σ env fp Q sat1 h1
  | false => exact h1 false F1 H1 (.refl sat1.fh) rfl
theorem dw_or {rest : List Expr} {f g : Ev → R Bool} (h : DT X W a f) (h2 : DW X W (.BoolOp .Or (b :: rest) pos) g) : DW X W (.BoolOp .Or (a :: b :: rest) pos) (tOrE f g) := by
  obtain ⟨t, p, s⟩ := h
  obtain ⟨t', p', s'⟩ := h2
  refine ⟨_, pw_or p p', fun F H σ env fp Q sat hp => ?_⟩
  refine s.go sat hp fun b v F1 H1 sat1 q _ h1 => ?_
  obtain rfl : v = b := q
  cases v with
  | false => exact s' F1 H1 σ env fp Q sat1 h1
  | true => exact h1 true F1 H1 (.refl sat1.fh) rfl
theorem dt_dw {f : Ev → R Bool} (h : DW X W a f) : DT X W a f := by
  obtain ⟨t, p, s⟩ := h
  exact ⟨_, p.pt, s⟩
/-! and, or, not as values (bools) -/
def eAnd (f g : Ev → R D) (env : Ev) : R D := ((f env).bind asB).bind fun b => if b = true then g env else .ok (.bool false)
def eOr (f g : Ev → R D) (env : Ev) : R D := ((f env).bind asB).bind fun b => if b = true then .ok (.bool true) else g env
def eNot (f : Ev → R D) (env : Ev) : R D := ((f env).bind asB).bind fun b => .ok (.bool !b)
theorem R.bind_assoc {α β γ : Type} (r : R α) (f : α → R β) (g : β → R γ) : (r.bind f).bind g = r.bind fun a => (f a).bind g := by cases r <;> rfl
theorem df_one {op} {f : Ev → R D} (h : DF X W a f) : DF X W (.BoolOp op [a] pos) f := by
  obtain ⟨t, p, s⟩ := h
  exact ⟨_, pe_one p, s⟩
theorem df_and {rest : List Expr} {f g : Ev → R D} (h : DV X W a f) (h2 : DF X W (.BoolOp .And (b :: rest) pos) g) : DF X W (.BoolOp .And (a :: b :: rest) pos) (eAnd f g) := by
  obtain ⟨t, p, s⟩ := h
  obtain ⟨t', p', s'⟩ := h2
  refine ⟨_, pe_and p p', fun F H σ env fp Q sat hp => ?_⟩
  unfold eAnd at hp
  rw [R.bind_assoc] at hp
  refine s.go sat hp fun d v F1 H1 sat1 q _ h1 => ?_
  cases d with
  | bool b =>
    cases q
    refine ⟨b, rfl, ?_⟩
    cases b with
    | true => exact s' F1 H1 σ env fp Q sat1 h1
    | false => exact h1 _ F1 H1 (.refl sat1.fh) (.bl false)
  | _ => exact h1.elim
theorem df_or {rest : List Expr} {f g : Ev → R D} (h : DV X W a f) (h2 : DF X W (.BoolOp .Or (b :: rest) pos) g) : DF X W (.BoolOp .Or (a :: b :: rest) pos) (eOr f g) := by
  obtain ⟨t, p, s⟩ := h
  obtain ⟨t', p', s'⟩ := h2
  refine ⟨_, pe_or p p', fun F H σ env fp Q sat hp => ?_⟩
  unfold eOr at hp
  rw [R.bind_assoc] at hp
  refine s.go sat hp fun d v F1 H1 sat1 q _ h1 => ?_
  cases d with
  | bool b =>
    cases q
    refine ⟨b, rfl, ?_⟩
    cases b with
    | false => exact s' F1 H1 σ env fp Q sat1 h1
    | true => exact h1 _ F1 H1 (.refl sat1.fh) (.bl true)
  | _ => exact h1.elim
theorem df_not {f : Ev → R D} (h : DV X W a f) : DF X W (.UnaryOp .Not a pos) (eNot f) := by
  obtain ⟨t, p, s⟩ := h
  refine ⟨_, pe_not p, fun F H σ env fp Q sat hp => ?_⟩
  unfold eNot at hp
  rw [R.bind_assoc] at hp
  refine s.go sat hp fun d v F1 H1 sat1 q _ h1 => ?_
  cases d with
  | bool b =>
    cases q
    exact ⟨b, rfl, h1 _ F1 H1 (.refl sat1.fh) (.bl _)⟩
  | _ => exact h1.elim
def eIf (c : Ev → R Bool) (f g : Ev → R D) (env : Ev) : R D := (c env).bind fun b => if b = true then f env else g env
theorem df_if {c : Expr} {fc : Ev → R Bool} {f g : Ev → R D} (hc : DT X W c fc) (ha : DF X W a f) (hb : DF X W b g) : DF X W (.IfExp c a b pos) (eIf fc f g) := by
  obtain ⟨t, p, s⟩ := hc
  obtain ⟨ta, pa, sa⟩ := ha
  obtain ⟨tb, pb, sb⟩ := hb
  refine ⟨_, pe_ifExp p pa pb, fun F H σ env fp Q sat hp => ?_⟩
  refine s.go sat hp fun b v F1 H1 sat1 q _ h1 => ?_
  obtain rfl : v = b := q
  cases v with
  | true => exact sa F1 H1 σ env fp Q sat1 h1
  | false => exact sb F1 H1 σ env fp Q sat1 h1
end
end Mir
end
set_option Elab.async false
set_option linter.all false
set_option maxRecDepth 100000
set_option maxHeartbeats 4000000
noncomputable section
namespace Mir
open PySem PySem.Spec L2

section
variable {K : PySem.W.Frag}
/-! ### what data at hand tells of values -/
theorem dp_int {H : Hp} {v : V} {i : Int} (h : Dp K H v (.int i)) : v = .int i := by cases h; rfl
theorem dp_str {H : Hp} {v : V} {z : Str} (h : Dp K H v (.str z)) : v = .str z := by cases h; rfl
theorem dp_bool {H : Hp} {v : V} {z : Bool} (h : Dp K H v (.bool z)) : v = .bl z := by cases h; rfl
theorem dp_none {H : Hp} {v : V} (h : Dp K H v .none) : v = .non := by cases h; rfl
theorem dp_tup {H : Hp} {v : V} {ds : List D} (h : Dp K H v (.tuple ds)) : ∃ a vs, v = .ref a ∧ SqT K H a vs ∧ DpAll K H vs ds := by cases h with | tup a b => exact ⟨_, _, rfl, a, b⟩
theorem dp_lst {H : Hp} {v : V} {ds : List D} (h : Dp K H v (.list ds)) : ∃ a vs, v = .ref a ∧ SqL K H a vs ∧ DpAll K H vs ds := by cases h with | lst a b => exact ⟨_, _, rfl, a, b⟩

/-! ### whole numbers -/
open Classical in
def gI (C : Int → Int → Prop) (f : Int → Int → Int) : D → D → Option D
  | .int i, .int j => if C i j then some (.int (f i j)) else none
  | _, _ => none
def gI0 (f : Int → Int → Int) : D → D → Option D
  | .int i, .int j => some (.int (f i j))
  | _, _ => none
def gIB (f : Int → Int → Bool) : D → D → Option D
  | .int i, .int j => some (.bool (f i j))
  | _, _ => none
theorem opS_I {C : Int → Int → Prop} {f : Int → Int → Int} : OpS K (rI C fun i j => .int (f i j)) (gI C f) := by
  intro H x y dx dy d Q hx hy e q
  unfold gI at e
  split at e
  · rename_i i j
    split at e
    · rename_i c
      cases e
      cases dp_int hx
      cases dp_int hy
      exact ⟨i, j, rfl, rfl, c, q _ fun _ => .int _⟩
    · cases e
  · cases e
theorem opS_I0 {f : Int → Int → Int} : OpS K (rI0 fun i j => .int (f i j)) (gI0 f) := by
  intro H x y dx dy d Q hx hy e q
  unfold gI0 at e
  split at e
  · cases e
    cases dp_int hx
    cases dp_int hy
    exact ⟨_, _, rfl, rfl, q _ fun _ => .int _⟩
  · cases e
theorem opS_IB {f : Int → Int → Bool} : OpS K (rI0 fun i j => .bl (f i j)) (gIB f) := by
  intro H x y dx dy d Q hx hy e q
  unfold gIB at e
  split at e
  · cases e
    cases dp_int hx
    cases dp_int hy
    exact ⟨_, _, rfl, rfl, q _ fun _ => .bl _⟩
  · cases e
def gSub := gI0 fun i j => i - j
def gMul := gI (fun i j => CMul i j ∨ CMulW i j) fun i j => i * j
def gDiv := gI CDivW fun i j => i / j
def gMod := gI (fun _ j => 0 < j) fun i j => i % j
def gPow := gI CPow fun i j => i ^ j.toNat
def gLt := gIB fun i j => decide (i < j)
def gLe := gIB fun i j => decide (i ≤ j)
def gGt := gIB fun i j => decide (j < i)
def gGe := gIB fun i j => decide (j ≤ i)
@[simp] theorem gSub_int (i j : Int) : gSub (.int i) (.int j) = some (.int (i - j)) := rfl
theorem gMul_int {i j : Int} (h : CMulW i j) : gMul (.int i) (.int j) = some (.int (i * j)) := if_pos (.inr h)
theorem gMul_by {i j : Int} (h1 : -(2 ^ 64) < j) (h2 : j < 2 ^ 64) : gMul (.int i) (.int j) = some (.int (i * j)) := if_pos (.inl (.inr ⟨h1, h2⟩))
theorem gDiv_int {i j : Int} (h : CDivW i j) : gDiv (.int i) (.int j) = some (.int (i / j)) := if_pos h
theorem gMod_int {i j : Int} (h : 0 < j) : gMod (.int i) (.int j) = some (.int (i % j)) := if_pos h
theorem gPow_int {i j : Int} (h : CPow i j) : gPow (.int i) (.int j) = some (.int (i ^ j.toNat)) := if_pos h
@[simp] theorem gLt_int (i j : Int) : gLt (.int i) (.int j) = some (.bool (decide (i < j))) := rfl
@[simp] theorem gLe_int (i j : Int) : gLe (.int i) (.int j) = some (.bool (decide (i ≤ j))) := rfl
@[simp] theorem gGt_int (i j : Int) : gGt (.int i) (.int j) = some (.bool (decide (j < i))) := rfl
@[simp] theorem gGe_int (i j : Int) : gGe (.int i) (.int j) = some (.bool (decide (j ≤ i))) := rfl
end

section
variable {X : Cx} {W : WX} {e a b : Expr} {es : List Expr} {pos : Pos} {f g : Ev → R D}
theorem df_sub (ha : DV X W a f) (hb : DV X W b g) : DF X W (.BinOp a .Sub b pos) (eBin gSub f g) := df_bin op_sub opS_I0 ha hb
theorem op_mulV : OpR X (binaryOp .Mult) (rI (fun i j => CMul i j ∨ CMulW i j) fun i j => .int (i * j)) := by
  intro pins s σ H x y v u Q I rx ry h
  obtain ⟨i, j, e1, e2, c, q⟩ := h
  rcases c with c | c
  · exact op_mul pins s σ H x y v u Q I rx ry ⟨i, j, e1, e2, c, q⟩
  · exact op_mulW pins s σ H x y v u Q I rx ry ⟨i, j, e1, e2, c, q⟩
theorem df_mul (ha : DV X W a f) (hb : DV X W b g) : DF X W (.BinOp a .Mult b pos) (eBin gMul f g) := df_bin op_mulV opS_I ha hb
theorem df_div (ha : DV X W a f) (hb : DV X W b g) : DF X W (.BinOp a .FloorDiv b pos) (eBin gDiv f g) := df_bin op_fdivW opS_I ha hb
theorem df_mod (ha : DV X W a f) (hb : DV X W b g) : DF X W (.BinOp a .Mod b pos) (eBin gMod f g) := df_bin op_mod opS_I ha hb
theorem df_pow (ha : DV X W a f) (hb : DV X W b g) : DF X W (.BinOp a .Pow b pos) (eBin gPow f g) := df_bin op_pow opS_I ha hb
theorem df_lt (ha : DV X W a f) (hb : DV X W b g) : DF X W (.Compare a [.Lt] [b] pos) (eBin gLt f g) := df_cmp op_lt opS_IB ha hb
theorem df_le (ha : DV X W a f) (hb : DV X W b g) : DF X W (.Compare a [.LtE] [b] pos) (eBin gLe f g) := df_cmp op_le opS_IB ha hb
theorem df_gt (ha : DV X W a f) (hb : DV X W b g) : DF X W (.Compare a [.Gt] [b] pos) (eBin gGt f g) := df_cmp op_gt opS_IB ha hb
theorem df_ge (ha : DV X W a f) (hb : DV X W b g) : DF X W (.Compare a [.GtE] [b] pos) (eBin gGe f g) := df_cmp op_ge opS_IB ha hb
theorem dt_lt (ha : DV X W a f) (hb : DV X W b g) : DT X W (.Compare a [.Lt] [b] pos) (eB (eBin gLt f g) asB) := dt_cmp op_lt opS_IB ha hb
theorem dt_le (ha : DV X W a f) (hb : DV X W b g) : DT X W (.Compare a [.LtE] [b] pos) (eB (eBin gLe f g) asB) := dt_cmp op_le opS_IB ha hb
theorem dt_gt (ha : DV X W a f) (hb : DV X W b g) : DT X W (.Compare a [.Gt] [b] pos) (eB (eBin gGt f g) asB) := dt_cmp op_gt opS_IB ha hb
theorem dt_ge (ha : DV X W a f) (hb : DV X W b g) : DT X W (.Compare a [.GtE] [b] pos) (eB (eBin gGe f g) asB) := dt_cmp op_ge opS_IB ha hb
def gNeg : D → R D
  | .int i => .ok (.int (-i))
  | _ => .no
theorem df_neg (ha : DV X W a f) : DF X W (.UnaryOp .USub a pos) (eB f gNeg) := by
  obtain ⟨t, p, s⟩ := ha
  refine ⟨_, pe_un un_neg p, fun F H σ env fp Q sat hp => ?_⟩
  refine s.go sat hp fun d v F1 H1 sat1 q _ h1 => ?_
  cases d with
  | int i => cases dp_int q; exact ⟨i, rfl, h1 _ F1 H1 (.refl sat1.fh) (.int _)⟩
  | _ => exact h1.elim

/-! ### == and != at any depth, is None -/
def scalD : D → Bool
  | .none => true
  | .bool _ => true
  | .int _ => true
  | .str _ => true
  | _ => false
/-- a bool beside an int is left to the deep rule -/
def scal2 : D → D → Bool
  | .bool _, .int _ => false
  | .int _, .bool _ => false
  | a, b => scalD a && scalD b
def eqOk (a b : D) : Bool := a.canLay0 && b.canLay0 && decide (a.depth ≤ 130)
def gEq (a b : D) : Option D := if (scal2 a b || eqOk a b) = true then some (.bool (PyData.eqv a b)) else none
def gNe (a b : D) : Option D := if (scal2 a b || eqOk a b) = true then some (.bool (!PyData.eqv a b)) else none
def rEqA (K : PySem.W.Frag) (neg : Bool) : R2 := fun x y H Q => ∃ d e, Dp K H x d ∧ Dp K H y e ∧ eqOk d e = true ∧ Q (.bl (if neg then !PyData.eqv d e else PyData.eqv d e)) H
theorem eqOk_cases {a b : D} (h : eqOk a b = true) : a.canLay0 = true ∧ b.canLay0 = true ∧ a.depth ≤ 130 := by
  unfold eqOk at h
  simp only [Bool.and_eq_true, decide_eq_true_eq] at h
  exact ⟨h.1.1, h.1.2, h.2⟩
theorem op_eqA (hu : X.A.units + 140 < cLine) : OpR X (compareOp .Eq) (rEqA X.K false) := by
  intro pins s σ H x y v u Q I rx ry h
  obtain ⟨d, e, hd, he, sd, q⟩ := h
  obtain ⟨as, r1⟩ := Dp.reads I d x v hd rx
  obtain ⟨bs, r2⟩ := Dp.reads I e y u he ry
  obtain ⟨c1, c2, c3⟩ := eqOk_cases sd
  exact SeqAt.compareEq_reads r1 r2 c1 c2 (by have := Nat.min_le_left d.depth e.depth; omega) ⟨.bl _, H, I, rfl, q⟩
theorem op_neA (hu : X.A.units + 140 < cLine) : OpR X (compareOp .NotEq) (rEqA X.K true) := by
  intro pins s σ H x y v u Q I rx ry h
  obtain ⟨d, e, hd, he, sd, q⟩ := h
  obtain ⟨as, r1⟩ := Dp.reads I d x v hd rx
  obtain ⟨bs, r2⟩ := Dp.reads I e y u he ry
  obtain ⟨c1, c2, c3⟩ := eqOk_cases sd
  exact SeqAt.compareNe_reads r1 r2 c1 c2 (by have := Nat.min_le_left d.depth e.depth; omega) ⟨.bl _, H, I, rfl, q⟩
theorem scal_dp {K : PySem.W.Frag} {H : Hp} {x y : V} {a b : D} (ha : Dp K H x a) (hb : Dp K H y b) (h : scal2 a b = true) : scal x y = true ∧ decide (x = y) = PyData.eqv a b := by
  cases a <;> cases b <;> first
    | (cases h; done)
    | (cases ha; cases hb; refine ⟨rfl, ?_⟩; simp [PyData.eqv]; try rfl)
    | (cases ha; cases hb; refine ⟨rfl, ?_⟩; simp [PyData.eqv, dec_int, dec_bl, dec_str])
theorem opS_eq {K : PySem.W.Frag} : OpS K (fun x y H Q => rEq x y H Q ∨ rEqA K false x y H Q) gEq := by
  intro H x y dx dy d Q hx hy e q
  unfold gEq at e
  split at e
  · rename_i c
    cases e
    cases c1 : scal2 dx dy with
    | true =>
      obtain ⟨h1, h2⟩ := scal_dp hx hy c1
      exact .inl ⟨h1, by rw [h2]; exact q _ fun _ => .bl _⟩
    | false =>
      rw [c1, Bool.false_or] at c
      exact .inr ⟨dx, dy, hx, hy, c, q _ fun _ => .bl _⟩
  · cases e
theorem opS_ne {K : PySem.W.Frag} : OpS K (fun x y H Q => rNe x y H Q ∨ rEqA K true x y H Q) gNe := by
  intro H x y dx dy d Q hx hy e q
  unfold gNe at e
  split at e
  · rename_i c
    cases e
    cases c1 : scal2 dx dy with
    | true =>
      obtain ⟨h1, h2⟩ := scal_dp hx hy c1
      exact .inl ⟨h1, by rw [h2]; exact q _ fun _ => .bl _⟩
    | false =>
      rw [c1, Bool.false_or] at c
      exact .inr ⟨dx, dy, hx, hy, c, q _ fun _ => .bl _⟩
  · cases e
theorem df_eq (hu : X.A.units + 140 < cLine) (ha : DV X W a f) (hb : DV X W b g) : DF X W (.Compare a [.Eq] [b] pos) (eBin gEq f g) := df_cmp (OpR.or op_eq (op_eqA hu)) opS_eq ha hb
theorem df_ne (hu : X.A.units + 140 < cLine) (ha : DV X W a f) (hb : DV X W b g) : DF X W (.Compare a [.NotEq] [b] pos) (eBin gNe f g) := df_cmp (OpR.or op_ne (op_neA hu)) opS_ne ha hb
theorem dt_eq (hu : X.A.units + 140 < cLine) (ha : DV X W a f) (hb : DV X W b g) : DT X W (.Compare a [.Eq] [b] pos) (eB (eBin gEq f g) asB) := dt_cmp (OpR.or op_eq (op_eqA hu)) opS_eq ha hb
theorem dt_ne (hu : X.A.units + 140 < cLine) (ha : DV X W a f) (hb : DV X W b g) : DT X W (.Compare a [.NotEq] [b] pos) (eB (eBin gNe f g) asB) := dt_cmp (OpR.or op_ne (op_neA hu)) opS_ne ha hb
def isNone : D → Bool
  | .none => true
  | _ => false
def gIs (_ : D → D → Option D) : D → D → Option D
  | x, .none => some (.bool (isNone x))
  | _, _ => none
def gIsN : D → D → Option D
  | x, .none => some (.bool (isNone x))
  | _, _ => none
def gNotN : D → D → Option D
  | x, .none => some (.bool (!isNone x))
  | _, _ => none
@[simp] theorem gIsN_none (x : D) : gIsN x .none = some (.bool (isNone x)) := by cases x <;> rfl
@[simp] theorem gNotN_none (x : D) : gNotN x .none = some (.bool (!isNone x)) := by cases x <;> rfl
theorem isNone_dp {K : PySem.W.Frag} {H : Hp} {x : V} {d : D} (h : Dp K H x d) : decide (x = .non) = isNone d := by
  cases h <;> first | rfl | (simp [isNone]; done)
theorem opS_isN {K : PySem.W.Frag} : OpS K (fun x y H Q => y = .non ∧ Q (.bl (decide (x = .non))) H) gIsN := by
  intro H x y dx dy d Q hx hy e q
  cases dy with
  | none =>
    rw [gIsN_none] at e
    cases e
    exact ⟨dp_none hy, by rw [isNone_dp hx]; exact q _ fun _ => .bl _⟩
  | _ => cases dx <;> cases e
theorem opS_notN {K : PySem.W.Frag} : OpS K (fun x y H Q => y = .non ∧ Q (.bl (!decide (x = .non))) H) gNotN := by
  intro H x y dx dy d Q hx hy e q
  cases dy with
  | none =>
    rw [gNotN_none] at e
    cases e
    exact ⟨dp_none hy, by rw [isNone_dp hx]; exact q _ fun _ => .bl _⟩
  | _ => cases dx <;> cases e
theorem df_isN (ha : DV X W a f) (hb : DV X W b g) : DF X W (.Compare a [.Is] [b] pos) (eBin gIsN f g) := df_cmp op_isN opS_isN ha hb
theorem df_notN (ha : DV X W a f) (hb : DV X W b g) : DF X W (.Compare a [.IsNot] [b] pos) (eBin gNotN f g) := df_cmp op_notN opS_notN ha hb
theorem dt_isN (ha : DV X W a f) (hb : DV X W b g) : DT X W (.Compare a [.Is] [b] pos) (eB (eBin gIsN f g) asB) := dt_cmp op_isN opS_isN ha hb
theorem dt_notN (ha : DV X W a f) (hb : DV X W b g) : DT X W (.Compare a [.IsNot] [b] pos) (eB (eBin gNotN f g) asB) := dt_cmp op_notN opS_notN ha hb

/-! ### + of numbers, texts, tuples, lists -/
def gAdd : D → D → Option Ow
  | .int i, .int j => some (.d (.int (i + j)))
  | .str x, .str y => if x.length + y.length ≤ sizeLine then some (.d (.str (x ++ y))) else none
  | .tuple xs, .tuple ys => if xs.length + ys.length ≤ sizeLine then some (.d (.tuple (xs ++ ys))) else none
  | .list xs, .list ys => if xs.length + ys.length ≤ sizeLine then some (.l ((xs ++ ys).map Ow.d)) else none
  | _, _ => none
@[simp] theorem gAdd_int (i j : Int) : gAdd (.int i) (.int j) = some (.d (.int (i + j))) := rfl
theorem gAdd_str {x y : Str} (h : x.length + y.length ≤ sizeLine) : gAdd (.str x) (.str y) = some (.d (.str (x ++ y))) := if_pos h
theorem gAdd_tup {xs ys : List D} (h : xs.length + ys.length ≤ sizeLine) : gAdd (.tuple xs) (.tuple ys) = some (.d (.tuple (xs ++ ys))) := if_pos h
theorem gAdd_lst {xs ys : List D} (h : xs.length + ys.length ≤ sizeLine) : gAdd (.list xs) (.list ys) = some (.l ((xs ++ ys).map Ow.d)) := if_pos h
def rCatL (K : PySem.W.Frag) : R2 := fun x y H Q => ∃ a b xs ys, x = .ref a ∧ y = .ref b ∧ SqL K H a xs ∧ SqL K H b ys ∧ xs.length + ys.length ≤ sizeLine ∧ ∀ p, H p = none → Q (.ref p) (upd H p (.lst (xs ++ ys)))
theorem op_catL : OpR X (binaryOp .Add) (rCatL X.K) := by
  intro pins s σ H x y v u Q I rx ry h
  obtain ⟨l, b, xs, zs, rfl, rfl, hH, hB, hz, q⟩ := h
  cases rx
  cases ry
  obtain ⟨its, r, pl, hl⟩ := I.list hH
  obtain ⟨its2, r2, pl2, hl2⟩ := I.list hB
  obtain ⟨⟨c1, d1, t1, s1⟩, g1, k1, n1, m1⟩ := pl.isList
  obtain ⟨⟨c2, d2, t2, s2⟩, g2, k2, n2, m2⟩ := pl2.isList
  simp only at k1 m1 k2 m2
  subst k1 m1 k2 m2
  refine PySem.concat_meets ⟨_, g1, rfl⟩ ⟨_, g2, rfl⟩ PySem.noFill_list_add PySem.seq_list_add PySem.F.slot_list_add PySem.F.entry_list_add (PySem.F.args_list_add_2 _ _)
    (PyProof.Rows.list_addW l b its.toArray its2.toArray n1 n2 d1 d2 s1 s2 (by rw [List.size_toArray, List.size_toArray, ← r.length, ← r2.length]; exact hz)) ⟨g1, g2, ?_⟩
  have ea : its.toArray ++ its2.toArray = (its ++ its2).toArray := by simp
  rw [ea]
  exact ⟨.ref _, _, I.lnew (t' := s.toks) (r.append r2) (by rw [List.length_append]; omega), rfl, q _ I.fresh⟩
abbrev rAddAll (K : PySem.W.Frag) : R2 := fun x y H Q => rI0 (fun i j => .int (i + j)) x y H Q ∨ (fun x y H Q => (∃ i j, x = V.str i ∧ y = V.str j ∧ i.length + j.length ≤ sizeLine ∧ Q (.str (i ++ j)) H) ∨ (fun x y H Q => rCatA K x y H Q ∨ rCatL K x y H Q) x y H Q) x y H Q
theorem op_addAll : OpR X (binaryOp .Add) (rAddAll X.K) := OpR.or op_add (OpR.or op_add_str (OpR.or op_catA op_catL))
def eBinO (g : D → D → Option Ow) (f h : Ev → R D) (env : Ev) : R Ow := (f env).bind fun x => (h env).bind fun y => R.of (g x y)
/-- two operands with frozen items, a new value -/
def OpG (K : PySem.W.Frag) (r : R2) (g : D → D → Option Ow) : Prop := ∀ F H x y dx dy o Q, Same F H → PSq K H dx x F H → PSq K H dy y F H → g dx dy = some o → (∀ v F' H', Ext F H F' H' → POw K H o v F' H' → Q v H') → r x y H Q
theorem opG_sm {r : R2} {g : D → D → Option Ow} (hs : OpG X.K r g) {ta tb : TE} {f h : Ev → R D} (sa : Sm X W (PSq X.K) ta f) (sb : Sm X W (PSq X.K) tb h) : Sm X W (POw X.K) (tOp r ta tb) (eBinO g f h) := by
  intro F H σ env fp Q sat hp
  refine sa.go sat hp fun d v F1 H1 sat1 q _ h1 => ?_
  refine sb.go sat1 h1 fun d' v' F2 H2 sat2 q' x2 h2 => ?_
  obtain ⟨z, hz, h3⟩ := post_of h2
  exact hs F2 H2 v v' d d' z Q sat2.fh (q.ext x2) q' hz h3
theorem de_bin {op : Operator} {r : R2} {g : D → D → Option Ow} (ho : OpR X (binaryOp op) r) (hs : OpG X.K r g) {f h : Ev → R D} (ha : DL X W a f) (hb : DL X W b h) : DE X W (.BinOp a op b pos) (eBinO g f h) := by
  obtain ⟨ta, pa, sa⟩ := ha
  obtain ⟨tb, pb, sb⟩ := hb
  exact ⟨_, pe_op ho pa pb, opG_sm hs sa sb⟩
theorem own_d {K : PySem.W.Frag} {H0 F H : Hp} {v : V} {d : D} (h : Dp K F v d) : POw K H0 (.d d) v F H := ⟨[], .d h, List.nodup_nil, fun _ z => nomatch z⟩
theorem own_l {K : PySem.W.Frag} {F H : Hp} {p : Addr} {vs : List V} {ds : List D} (s : Same F H) (hp : H p = none) (h : DpAll K F vs ds) : POw K H (.l (ds.map Ow.d)) (.ref p) F (upd H p (.lst vs)) :=
  ⟨[p], .l (free_of s hp) upd_same (OwnAll.of_dp h), by simp, by simpa using hp⟩
theorem opG_add {K : PySem.W.Frag} : OpG K (rAddAll K) gAdd := by
  intro F H x y dx dy o Q s hx hy e q
  unfold gAdd at e
  split at e
  · cases e
    cases dp_int hx
    cases dp_int hy
    exact .inl ⟨_, _, rfl, rfl, q _ _ _ (.refl s) (own_d (.int _))⟩
  · split at e
    · cases e
      cases dp_str hx
      cases dp_str hy
      exact .inr (.inl ⟨_, _, rfl, rfl, ‹_›, q _ _ _ (.refl s) (own_d (.str _))⟩)
    · cases e
  · split at e
    · rename_i xs ys c
      cases e
      obtain ⟨a, vs, rfl, h1, h2⟩ := dp_tup hx
      obtain ⟨b, ws, rfl, g1, g2⟩ := dp_tup hy
      refine .inr (.inr (.inl ⟨a, b, vs, ws, rfl, rfl, SqT_mono s h1, SqT_mono s g1, by rw [DpAll.len h2, DpAll.len g2]; exact c, fun e0 => ?_, fun n0 e0 => ?_, fun n0 n1 p hp => ?_⟩))
      · have l := DpAll.len h2
        rw [e0] at l
        have z : xs = [] := List.length_eq_zero_iff.mp l.symm
        subst z
        exact q _ _ _ (.refl s) (own_d hy)
      · have l := DpAll.len g2
        rw [e0] at l
        have z : ys = [] := List.length_eq_zero_iff.mp l.symm
        subst z
        rw [List.append_nil] at q
        exact q _ _ _ (.refl s) (own_d hx)
      · have x := Ext.frz s hp (.tup (vs ++ ws))
        exact q _ _ _ x (own_d (.tup (SqT.of upd_same) (dpaUp (DpAll.append h2 g2) x.ff)))
    · cases e
  · split at e
    · rename_i xs ys c
      cases e
      obtain ⟨a, vs, rfl, h1, h2⟩ := hx
      obtain ⟨b, ws, rfl, g1, g2⟩ := hy
      refine .inr (.inr (.inr ⟨a, b, vs, ws, rfl, rfl, h1, g1, by rw [DpAll.len h2, DpAll.len g2]; exact c, fun p hp => ?_⟩))
      exact q _ _ _ (Ext.own s hp _) (own_l s hp (DpAll.append h2 g2))
    · cases e
  · cases e
theorem de_add (ha : DL X W a f) (hb : DL X W b g) : DE X W (.BinOp a .Add b pos) (eBinO gAdd f g) := de_bin op_addAll opG_add ha hb
end
end Mir
end
set_option Elab.async false
set_option linter.all false
set_option maxRecDepth 100000
set_option maxHeartbeats 4000000
noncomputable section
namespace Mir
open PySem PySem.Spec L2

section
variable {X : Cx} {W : WX} {e a b : Expr} {es : List Expr} {pos : Pos} {f g : Ev → R D}
/-! ### items and slices -/
theorem ixN_len {m n : Nat} {i : Int} (h : m = n) : ixN m i = ixN n i := by rw [h]
theorem atI_dp {K : PySem.W.Frag} {F : Hp} {vs : List V} {ds : List D} {i : Int} {d : D} (h : DpAll K F vs ds) (e : atI ds i = some d) : ∃ v, atI vs i = some v ∧ Dp K F v d := by
  unfold atI at e ⊢
  rw [DpAll.len h]
  cases q : ixN ds.length i with
  | none => rw [q] at e; cases e
  | some j =>
    rw [q] at e
    exact DpAll.get h e
def gIx : D → D → Option D
  | .list ds, .int i => atI ds i
  | .tuple ds, .int i => atI ds i
  | .str z, .int i => if z.length ≤ sizeLine then (atI z.cps.toList i).map fun c => .str ⟨#[c]⟩ else none
  | _, _ => none
@[simp] theorem gIx_list (ds : List D) (i : Int) : gIx (.list ds) (.int i) = atI ds i := rfl
@[simp] theorem gIx_tup (ds : List D) (i : Int) : gIx (.tuple ds) (.int i) = atI ds i := rfl
theorem df_ix (ha : DL X W a f) (hb : DV X W b g) (hs : PlainIx b := by exact fun _ _ => rfl) : DF X W (.Subscript a b pos) (eBin gIx f g) := by
  obtain ⟨ta, pa, sa⟩ := ha
  obtain ⟨tb, pb, sb⟩ := hb
  refine ⟨_, pe_ix ix_seq pa pb hs, fun F H σ env fp Q sat hp => ?_⟩
  refine sa.go sat hp fun d v F1 H1 sat1 q _ h1 => ?_
  refine sb.go sat1 h1 fun d' v' F2 H2 sat2 q' x2 h2 => ?_
  obtain ⟨z, hz, h3⟩ := post_of h2
  unfold gIx at hz
  split at hz
  · rename_i ds i
    cases dp_int q'
    obtain ⟨p, vs, rfl, p1, p2⟩ := q
    obtain ⟨w, w1, w2⟩ := atI_dp p2 hz
    exact .inl ⟨p, vs, i, w, rfl, rfl, x2.hh.seq p1, w1, h3 _ _ _ (.refl sat2.fh) (dpUp w2 x2.ff)⟩
  · rename_i ds i
    cases dp_int q'
    obtain ⟨p, vs, rfl, p1, p2⟩ := dp_tup q
    obtain ⟨w, w1, w2⟩ := atI_dp p2 hz
    exact .inr (.inl ⟨p, vs, i, w, rfl, rfl, SqT_mono (x2.ff.trans sat2.fh) p1, w1, h3 _ _ _ (.refl sat2.fh) (dpUp w2 x2.ff)⟩)
  · split at hz
    · rename_i zz i c
      cases dp_int q'
      cases dp_str q
      obtain ⟨cc, c1, c2⟩ := Option.map_eq_some_iff.mp hz
      subst c2
      exact .inr (.inr ⟨_, _, cc, rfl, rfl, c, c1, h3 _ _ _ (.refl sat2.fh) (.str _)⟩)
    · cases hz
  · cases hz
/-- a slice's part -/
def DO (X : Cx) (W : WX) (e : Option Expr) (f : Ev → R (Option Int)) : Prop := ∃ t, PO X e t ∧ Sm X W (fun _ a v _ _ => v = a) t f
instance : Anti (fun (_ : Hp) (a v : Option Int) (_ _ : Hp) => v = a) := ⟨fun _ h => h⟩
def oNone (_ : Ev) : R (Option Int) := .ok none
def asI : D → R (Option Int)
  | .int i => .ok (some i)
  | _ => .no
@[simp] theorem asI_int (i : Int) : asI (.int i) = .ok (some i) := rfl
theorem do_none : DO X W none oNone := ⟨_, po_none, fun F H σ env fp Q sat hp => hp none F H (.refl sat.fh) rfl⟩
theorem do_some (h : DV X W e f) : DO X W (some e) (eB f asI) := by
  obtain ⟨t, p, s⟩ := h
  refine ⟨_, po_some p, fun F H σ env fp Q sat hp => ?_⟩
  refine s.go sat hp fun d v F1 H1 sat1 q _ h1 => ?_
  cases d with
  | int i => cases dp_int q; exact ⟨i, rfl, h1 _ F1 H1 (.refl sat1.fh) rfl⟩
  | _ => exact h1.elim
def cutL {α : Type} (xs : List α) (lo hi : Option Int) : List α := (xs.drop (HT.sIx xs.length 0 lo)).take (HT.sIx xs.length xs.length hi - HT.sIx xs.length 0 lo)
theorem cutL_dp {K : PySem.W.Frag} {F : Hp} {vs : List V} {ds : List D} {lo hi : Option Int} (h : DpAll K F vs ds) : DpAll K F (cutV vs lo hi) (cutL ds lo hi) := by
  unfold cutV cutL
  rw [DpAll.len h]
  exact DpAll.take _ (DpAll.drop _ h)
def gSl : D → Option Int → Option Int → Option Ow
  | .list ds, lo, hi => some (.l ((cutL ds lo hi).map Ow.d))
  | .tuple ds, lo, hi => some (.d (.tuple (cutL ds lo hi)))
  | .str z, lo, hi => if z.length ≤ sizeLine then some (.d (.str (cutS z lo hi))) else none
  | _, _, _ => none
@[simp] theorem gSl_list (ds : List D) (lo hi : Option Int) : gSl (.list ds) lo hi = some (.l ((cutL ds lo hi).map Ow.d)) := rfl
@[simp] theorem gSl_tup (ds : List D) (lo hi : Option Int) : gSl (.tuple ds) lo hi = some (.d (.tuple (cutL ds lo hi))) := rfl
def eSl (f : Ev → R D) (l h : Ev → R (Option Int)) (env : Ev) : R Ow := (f env).bind fun x => (l env).bind fun i => (h env).bind fun j => R.of (gSl x i j)
theorem de_slice {lo hi : Option Expr} {l h : Ev → R (Option Int)} {p2 : Pos} (ha : DL X W a f) (hl : DO X W lo l) (hh : DO X W hi h) : DE X W (.Subscript a (.Slice lo hi none p2) pos) (eSl f l h) := by
  obtain ⟨ta, pa, sa⟩ := ha
  obtain ⟨tl, pl, sl⟩ := hl
  obtain ⟨th, ph, sh⟩ := hh
  refine ⟨_, pe_slice (SlR.or sl_list (SlR.or sl_tupA sl_str)) pa pl ph, fun F H σ env fp Q sat hp => ?_⟩
  refine sa.go sat hp fun d v F1 H1 sat1 q _ h1 => ?_
  refine sl.go sat1 h1 fun i i' F2 H2 sat2 q' x2 h2 => ?_
  obtain rfl : i' = i := q'
  refine sh.go sat2 h2 fun j j' F3 H3 sat3 q' x3 h3 => ?_
  obtain rfl : j' = j := q'
  obtain ⟨z, hz, h4⟩ := post_of h3
  have x := x2.trans x3
  unfold gSl at hz
  split at hz
  · cases hz
    obtain ⟨p, vs, rfl, p1, p2⟩ := q
    refine .inl ⟨p, vs, rfl, x.hh.seq p1, fun r hr => ?_⟩
    exact h4 _ _ _ (Ext.own sat3.fh hr _) (own_l sat3.fh hr (cutL_dp (dpaUp p2 x.ff)))
  · cases hz
    obtain ⟨p, vs, rfl, p1, p2⟩ := dp_tup q
    have p3 := DpAll.len p2
    refine .inr (.inl ⟨p, vs, rfl, SqT_mono (x.ff.trans sat3.fh) p1, fun c => ?_, fun _ r hr => ?_⟩)
    · refine h4 _ _ _ (.refl sat3.fh) (own_d ?_)
      rename_i ds
      have e : cutL ds i' j' = ds := by
        unfold cutL
        rw [← p3, c.1, c.2, List.drop_zero, Nat.sub_zero, p3, List.take_length]
      rw [e]
      exact dpUp q x.ff
    · have y := Ext.frz sat3.fh hr (.tup (cutV vs i' j'))
      exact h4 _ _ _ y (own_d (.tup (SqT.of upd_same) (cutL_dp (dpaUp p2 (x.ff.trans y.ff)))))
  · split at hz
    · cases hz
      cases dp_str q
      exact .inr (.inr ⟨_, rfl, ‹_›, h4 _ _ _ (.refl sat3.fh) (own_d (.str _))⟩)
    · cases hz
  · cases hz

/-! ### built-ins by name -/
inductive PSqs (K : PySem.W.Frag) (F H : Hp) : List D → List V → Prop
  | nil : PSqs K F H [] []
  | cons {d : D} {ds : List D} {v : V} {vs : List V} : PSq K H d v F H → PSqs K F H ds vs → PSqs K F H (d :: ds) (v :: vs)
def PAl (K : PySem.W.Frag) (_ : Hp) (ds : List D) (vs : List V) (F' H' : Hp) : Prop := PSqs K F' H' ds vs
instance {K : PySem.W.Frag} : Anti (PAl K) := ⟨fun _ h => h⟩
def DAl (X : Cx) (W : WX) (es : List Expr) (f : Ev → R (List D)) : Prop := ∃ t, PA X es t ∧ Sm X W (PAl X.K) t f
theorem dal_nil : DAl X W [] aNil := ⟨_, pa_nil, fun F H σ env fp Q sat h => h _ F H (.refl sat.fh) .nil⟩
theorem dal_cons {f : Ev → R D} {g : Ev → R (List D)} (hf : DL X W e f) (hg : DAl X W es g) (hs : starEach (e :: es) X.env = (false, eval e X.env) :: starEach es X.env := by rfl) : DAl X W (e :: es) (aCons f g) := by
  obtain ⟨t, p, s⟩ := hf
  obtain ⟨t', p', s'⟩ := hg
  refine ⟨_, pa_cons p p' hs, fun F H σ env fp Q sat h => ?_⟩
  refine s.go sat h fun d v F1 H1 sat1 q _ h1 => ?_
  refine s'.go sat1 h1 fun ds vs F2 H2 sat2 q' x2 h2 => ?_
  exact h2 _ F2 H2 (.refl sat2.fh) (.cons (q.ext x2) q')
def CaG (K : PySem.W.Frag) (r : List V → Hp → VK → Prop) (g : List D → Option Ow) : Prop := ∀ F H vs ds o Q, Same F H → PSqs K F H ds vs → g ds = some o → (∀ v F' H', Ext F H F' H' → POw K H o v F' H' → Q v H') → r vs H Q
def eCa (g : List D → Option Ow) (f : Ev → R (List D)) (env : Ev) : R Ow := (f env).bind fun ds => R.of (g ds)
theorem ca_sm {r : List V → Hp → VK → Prop} {g : List D → Option Ow} {t : TA} {f : Ev → R (List D)} (hs : CaG X.K r g) (s : Sm X W (PAl X.K) t f) : Sm X W (POw X.K) (tCB r t) (eCa g f) := by
  intro F H σ env fp Q sat hp
  refine s.go sat hp fun ds vs F1 H1 sat1 q _ h1 => ?_
  obtain ⟨z, hz, h2⟩ := post_of h1
  exact hs F1 H1 vs ds z Q sat1.fh q hz h2
theorem de_callB {id : String} {r : List V → Hp → VK → Prop} {g : List D → Option Ow} {x : Str} {p : Pos} {f : Ev → R (List D)} (hc : CallR X (.builtin id) r) (hs : CaG X.K r g) (hg : Gl X x) (hm : X.mg x = none) (hv : bootBuiltins x = some (.builtin id)) (ha : DAl X W (e :: es) f)
    (hn : x ≠ "__name__" := by decide) (hdb : (x == ("__debug__" : Str)) = false := by decide)
    (he : starEach (e :: es) X.env = (false, eval e X.env) :: starEach es X.env := by rfl) (hpl : (backTo pos (starEach es X.env)).any (·.1) = false := by rfl) : DE X W (.Call (.Name x p) (e :: es) [] pos) (eCa g f) := by
  obtain ⟨t, pa, s⟩ := ha
  exact ⟨_, pe_callB hc hg hm hv pa hn hdb he hpl, ca_sm hs s⟩
theorem de_callTy {T : String} {r : List V → Hp → VK → Prop} {g : List D → Option Ow} {x : Str} {p : Pos} {f : Ev → R (List D)} (hc : CallR X (.type T) r) (hs : CaG X.K r g) (hg : Gl X x) (hm : X.mg x = none) (hv : bootBuiltins x = some (.type T)) (ha : DAl X W (e :: es) f)
    (hn : x ≠ "__name__" := by decide) (hdb : (x == ("__debug__" : Str)) = false := by decide)
    (he : starEach (e :: es) X.env = (false, eval e X.env) :: starEach es X.env := by rfl) (hpl : (backTo pos (starEach es X.env)).any (·.1) = false := by rfl) : DE X W (.Call (.Name x p) (e :: es) [] pos) (eCa g f) := by
  obtain ⟨t, pa, s⟩ := ha
  exact ⟨_, pe_callTy hc hg hm hv pa hn hdb he hpl, ca_sm hs s⟩
theorem psqs1 {K : PySem.W.Frag} {F H : Hp} {d : D} {vs : List V} (h : PSqs K F H [d] vs) : ∃ v, vs = [v] ∧ PSq K H d v F H := by
  cases h with | cons a b => cases b; exact ⟨_, rfl, a⟩
theorem psqs2 {K : PySem.W.Frag} {F H : Hp} {d d' : D} {vs : List V} (h : PSqs K F H [d, d'] vs) : ∃ v w, vs = [v, w] ∧ PSq K H d v F H ∧ PSq K H d' w F H := by
  cases h with | cons a b => cases b with | cons a' b' => cases b'; exact ⟨_, _, rfl, a, a'⟩
def gLen : List D → Option Ow
  | [.list ds] => some (.d (.int ds.length))
  | [.tuple ds] => some (.d (.int ds.length))
  | [.str z] => if z.length ≤ sizeLine then some (.d (.int z.length)) else none
  | _ => none
@[simp] theorem gLen_list (ds : List D) : gLen [.list ds] = some (.d (.int ds.length)) := rfl
@[simp] theorem gLen_tup (ds : List D) : gLen [.tuple ds] = some (.d (.int ds.length)) := rfl
theorem caG_len {K : PySem.W.Frag} : CaG K (fun xs H Q => ∃ x n, xs = [x] ∧ LenV K x H n ∧ Q (.int n) H) gLen := by
  intro F H vs ds o Q s h e q
  unfold gLen at e
  split at e
  · cases e
    obtain ⟨v, rfl, p, ws, rfl, p1, p2⟩ := psqs1 h
    exact ⟨_, _, rfl, .inl ⟨ws, p1, (DpAll.len p2).symm⟩, q _ _ _ (.refl s) (own_d (.int _))⟩
  · cases e
    obtain ⟨v, rfl, w⟩ := psqs1 h
    obtain ⟨p, ws, rfl, p1, p2⟩ := dp_tup w
    exact ⟨_, _, rfl, .inr ⟨ws, SqT_mono s p1, (DpAll.len p2).symm⟩, q _ _ _ (.refl s) (own_d (.int _))⟩
  · split at e
    · rename_i c
      cases e
      obtain ⟨v, rfl, w⟩ := psqs1 h
      cases dp_str w
      exact ⟨_, _, rfl, ⟨c, rfl⟩, q _ _ _ (.refl s) (own_d (.int _))⟩
    · cases e
  · cases e
def gMax2 : List D → Option Ow
  | [.int i, .int j] => some (.d (.int (if j > i then j else i)))
  | _ => none
def gMin2 : List D → Option Ow
  | [.int i, .int j] => some (.d (.int (if j < i then j else i)))
  | _ => none
@[simp] theorem gMax2_int (i j : Int) : gMax2 [.int i, .int j] = some (.d (.int (if j > i then j else i))) := rfl
@[simp] theorem gMin2_int (i j : Int) : gMin2 [.int i, .int j] = some (.d (.int (if j < i then j else i))) := rfl
theorem caG_max2 {K : PySem.W.Frag} : CaG K (fun xs H Q => ∃ i j, xs = [.int i, .int j] ∧ Q (.int (if j > i then j else i)) H) gMax2 := by
  intro F H vs ds o Q s h e q
  unfold gMax2 at e
  split at e
  · cases e
    obtain ⟨v, w, rfl, h1, h2⟩ := psqs2 h
    cases dp_int h1
    cases dp_int h2
    exact ⟨_, _, rfl, q _ _ _ (.refl s) (own_d (.int _))⟩
  · cases e
theorem caG_min2 {K : PySem.W.Frag} : CaG K (fun xs H Q => ∃ i j, xs = [.int i, .int j] ∧ Q (.int (if j < i then j else i)) H) gMin2 := by
  intro F H vs ds o Q s h e q
  unfold gMin2 at e
  split at e
  · cases e
    obtain ⟨v, w, rfl, h1, h2⟩ := psqs2 h
    cases dp_int h1
    cases dp_int h2
    exact ⟨_, _, rfl, q _ _ _ (.refl s) (own_d (.int _))⟩
  · cases e
def intsD : List D → Option (List Int)
  | [] => some []
  | .int i :: ds => (intsD ds).map fun is => i :: is
  | _ :: _ => none
@[simp] theorem intsD_map : ∀ ns : List Int, intsD (ns.map PyData.int) = some ns
  | [] => rfl
  | n :: ns => by simp [intsD, intsD_map ns]
theorem intsD_eq : ∀ {ds : List D} {ns : List Int}, intsD ds = some ns → ds = ns.map PyData.int
  | [], ns, h => by cases h; rfl
  | d :: ds, ns, h => by
    unfold intsD at h
    split at h
    · rename_i e; cases e
    · rename_i e
      cases e
      obtain ⟨is, h1, h2⟩ := Option.map_eq_some_iff.mp h
      subst h2
      rw [intsD_eq h1]; rfl
    · cases h
theorem PSq.ints {K : PySem.W.Frag} {F H H0 : Hp} {v : V} {ns : List Int} (h : PSq K H0 (.list (ns.map PyData.int)) v F H) : ∃ a, v = .ref a ∧ SqL K H a (ns.map V.int) := by
  obtain ⟨a, vs, rfl, h1, h2⟩ := h
  rw [DpAll.ints _ h2] at h1
  exact ⟨a, rfl, h1⟩
def maxI : List Int → Int
  | [] => 0
  | [a] => a
  | a :: r => max a (maxI r)
theorem maxI_cons (a b : Int) (r : List Int) : maxI (a :: b :: r) = max a (maxI (b :: r)) := rfl
theorem maxI_ge : ∀ {ns : List Int} {y : Int}, y ∈ ns → y ≤ maxI ns
  | [a], y, h => by simp at h; subst h; exact Int.le_refl _
  | a :: b :: r, y, h => by
    rw [maxI_cons]
    rcases List.mem_cons.mp h with e | e
    · omega
    · have := maxI_ge e; omega
theorem maxI_mem : ∀ {ns : List Int}, ns ≠ [] → maxI ns ∈ ns
  | [a], _ => by simp [maxI]
  | a :: b :: r, _ => by
    rw [maxI_cons]
    by_cases h : a ≤ maxI (b :: r)
    · rw [Int.max_eq_right h]; exact List.mem_cons_of_mem _ (maxI_mem (by simp))
    · rw [Int.max_eq_left (by omega)]; exact List.mem_cons_self
def gMaxL : List D → Option Ow
  | [.list ds] => match intsD ds with
    | some (n :: ns) => some (.d (.int (maxI (n :: ns))))
    | _ => none
  | _ => none
theorem caG_maxL {K : PySem.W.Frag} : CaG K (rMax K) gMaxL := by
  intro F H vs ds o Q s h e q
  unfold gMaxL at e
  split at e
  · split at e
    · rename_i ds' _ n ns e2
      cases e
      rw [intsD_eq e2] at h
      obtain ⟨v, rfl, w⟩ := psqs1 h
      obtain ⟨a, rfl, h1⟩ := w.ints
      refine ⟨a, n :: ns, rfl, h1, by simp, fun m hm hy => ?_⟩
      have : m = maxI (n :: ns) := Int.le_antisymm (maxI_ge hm) (hy _ (maxI_mem (by simp)))
      subst this
      exact q _ _ _ (.refl s) (own_d (.int _))
    · cases e
  · cases e
def gSum : List D → Option Ow
  | [.list ds] => (intsD ds).map fun ns => .d (.int ns.sum)
  | _ => none
theorem caG_sum {K : PySem.W.Frag} : CaG K (rSum K) gSum := by
  intro F H vs ds o Q s h e q
  unfold gSum at e
  split at e
  · obtain ⟨ns, e2, rfl⟩ := Option.map_eq_some_iff.mp e
    rw [intsD_eq e2] at h
    obtain ⟨v, rfl, w⟩ := psqs1 h
    obtain ⟨a, rfl, h1⟩ := w.ints
    exact ⟨a, ns, rfl, h1, q _ _ _ (.refl s) (own_d (.int _))⟩
  · cases e
def gList : List D → Option Ow
  | [.list ds] => some (.l (ds.map Ow.d))
  | [.tuple ds] => some (.l (ds.map Ow.d))
  | _ => none
@[simp] theorem gList_list (ds : List D) : gList [.list ds] = some (.l (ds.map Ow.d)) := rfl
@[simp] theorem gList_tup (ds : List D) : gList [.tuple ds] = some (.l (ds.map Ow.d)) := rfl
theorem caG_list {K : PySem.W.Frag} : CaG K (fun xs H Q => ∃ p ys, xs = [.ref p] ∧ (SqL K H p ys ∨ SqT K H p ys) ∧ ∀ l, H l = none → Q (.ref l) (upd H l (.lst ys))) gList := by
  intro F H vs ds o Q s h e q
  unfold gList at e
  split at e
  · cases e
    obtain ⟨v, rfl, p, ws, rfl, p1, p2⟩ := psqs1 h
    exact ⟨p, ws, rfl, .inl p1, fun l hl => q _ _ _ (Ext.own s hl _) (own_l s hl p2)⟩
  · cases e
    obtain ⟨v, rfl, w⟩ := psqs1 h
    obtain ⟨p, ws, rfl, p1, p2⟩ := dp_tup w
    exact ⟨p, ws, rfl, .inr (SqT_mono s p1), fun l hl => q _ _ _ (Ext.own s hl _) (own_l s hl p2)⟩
  · cases e
def gTuple : List D → Option Ow
  | [.list ds] => some (.d (.tuple ds))
  | [.tuple ds] => some (.d (.tuple ds))
  | _ => none
@[simp] theorem gTuple_list (ds : List D) : gTuple [.list ds] = some (.d (.tuple ds)) := rfl
@[simp] theorem gTuple_tup (ds : List D) : gTuple [.tuple ds] = some (.d (.tuple ds)) := rfl
theorem caG_tuple {K : PySem.W.Frag} : CaG K (fun xs H Q => ∃ p ys, xs = [.ref p] ∧ ((SqL K H p ys ∧ ∀ l, H l = none → Q (.ref l) (upd H l (.tup ys))) ∨ (SqT K H p ys ∧ Q (.ref p) H))) gTuple := by
  intro F H vs ds o Q s h e q
  unfold gTuple at e
  split at e
  · cases e
    obtain ⟨v, rfl, p, ws, rfl, p1, p2⟩ := psqs1 h
    refine ⟨p, ws, rfl, .inl ⟨p1, fun l hl => ?_⟩⟩
    have y := Ext.frz s hl (.tup ws)
    exact q _ _ _ y (own_d (.tup (SqT.of upd_same) (dpaUp p2 y.ff)))
  · cases e
    obtain ⟨v, rfl, w⟩ := psqs1 h
    obtain ⟨p, ws, rfl, p1, p2⟩ := dp_tup w
    exact ⟨p, ws, rfl, .inr ⟨SqT_mono s p1, q _ _ _ (.refl s) (own_d (.tup p1 p2))⟩⟩
  · cases e
def gInt : List D → Option Ow
  | [.int i] => some (.d (.int i))
  | [.bool b] => some (.d (.int (if b then 1 else 0)))
  | [.str z] => if z.length ≤ 640 then (PySem.intText? z).map fun n => .d (.int n) else none
  | _ => none
@[simp] theorem gInt_int (i : Int) : gInt [.int i] = some (.d (.int i)) := rfl
@[simp] theorem gInt_bool (b : Bool) : gInt [.bool b] = some (.d (.int (if b then 1 else 0))) := rfl
theorem caG_int {K : PySem.W.Frag} : CaG K (fun xs H Q => ((∃ i, xs = [.int i] ∧ Q (.int i) H) ∨ ∃ k, xs = [.bl k] ∧ Q (.int (if k then 1 else 0)) H) ∨ ∃ a n, xs = [.str a] ∧ PySem.intText? a = some n ∧ a.length ≤ 640 ∧ Q (.int n) H) gInt := by
  intro F H vs ds o Q s h e q
  unfold gInt at e
  split at e
  · cases e
    obtain ⟨v, rfl, w⟩ := psqs1 h
    cases dp_int w
    exact .inl (.inl ⟨_, rfl, q _ _ _ (.refl s) (own_d (.int _))⟩)
  · cases e
    obtain ⟨v, rfl, w⟩ := psqs1 h
    cases dp_bool w
    exact .inl (.inr ⟨_, rfl, q _ _ _ (.refl s) (own_d (.int _))⟩)
  · split at e
    · obtain ⟨n, e2, rfl⟩ := Option.map_eq_some_iff.mp e
      obtain ⟨v, rfl, w⟩ := psqs1 h
      cases dp_str w
      exact .inr ⟨_, n, rfl, e2, ‹_›, q _ _ _ (.refl s) (own_d (.int _))⟩
    · cases e
  · cases e
def gStr : List D → Option Ow
  | [.int i] => if i.natAbs.log2 < 1920 then some (.d (.str (toString i))) else none
  | _ => none
theorem caG_str {K : PySem.W.Frag} : CaG K (fun xs H Q => ∃ i, xs = [.int i] ∧ i.natAbs.log2 < 1920 ∧ Q (.str (toString i)) H) gStr := by
  intro F H vs ds o Q s h e q
  unfold gStr at e
  split at e
  · split at e
    · cases e
      obtain ⟨v, rfl, w⟩ := psqs1 h
      cases dp_int w
      exact ⟨_, rfl, ‹_›, q _ _ _ (.refl s) (own_d (.str _))⟩
    · cases e
  · cases e
theorem de_len {x : Expr} {p : Pos} {f : Ev → R (List D)} (hg : Gl X "len") (hm : X.mg "len" = none) (ha : DAl X W [x] f) (hpl : starEach [x] X.env = (false, eval x X.env) :: starEach [] X.env := by rfl) : DE X W (.Call (.Name "len" p) [x] [] pos) (eCa gLen f) :=
  de_callB call_len caG_len hg hm PySem.boot_len ha (he := hpl)
theorem de_max2 {x y : Expr} {p : Pos} {f : Ev → R (List D)} (hc : X.calm = true) (hg : Gl X "max") (hm : X.mg "max" = none) (ha : DAl X W [x, y] f) (he : starEach [x, y] X.env = (false, eval x X.env) :: starEach [y] X.env := by rfl) (hpl : (backTo pos (starEach [y] X.env)).any (·.1) = false := by rfl) : DE X W (.Call (.Name "max" p) [x, y] [] pos) (eCa gMax2 f) :=
  de_callB (call_max2 hc) caG_max2 hg hm (by decide +kernel) ha (he := he) (hpl := hpl)
theorem de_min2 {x y : Expr} {p : Pos} {f : Ev → R (List D)} (hc : X.calm = true) (hg : Gl X "min") (hm : X.mg "min" = none) (ha : DAl X W [x, y] f) (he : starEach [x, y] X.env = (false, eval x X.env) :: starEach [y] X.env := by rfl) (hpl : (backTo pos (starEach [y] X.env)).any (·.1) = false := by rfl) : DE X W (.Call (.Name "min" p) [x, y] [] pos) (eCa gMin2 f) :=
  de_callB (call_min2 hc) caG_min2 hg hm (by decide +kernel) ha (he := he) (hpl := hpl)
theorem de_maxL {x : Expr} {p : Pos} {f : Ev → R (List D)} (hc : X.calm = true) (hg : Gl X "max") (hm : X.mg "max" = none) (ha : DAl X W [x] f) (he : starEach [x] X.env = (false, eval x X.env) :: starEach [] X.env := by rfl) : DE X W (.Call (.Name "max" p) [x] [] pos) (eCa gMaxL f) :=
  de_callB (cr_max hc) caG_maxL hg hm (by decide +kernel) ha (he := he)
theorem de_sum {x : Expr} {p : Pos} {f : Ev → R (List D)} (hc : X.calm = true) (hg : Gl X "sum") (hm : X.mg "sum" = none) (ha : DAl X W [x] f) (he : starEach [x] X.env = (false, eval x X.env) :: starEach [] X.env := by rfl) : DE X W (.Call (.Name "sum" p) [x] [] pos) (eCa gSum f) :=
  de_callB (cr_sum hc) caG_sum hg hm (by decide +kernel) ha (he := he)
theorem de_list {x : Expr} {p : Pos} {f : Ev → R (List D)} (hg : Gl X "list") (hm : X.mg "list" = none) (ha : DAl X W [x] f) (he : starEach [x] X.env = (false, eval x X.env) :: starEach [] X.env := by rfl) : DE X W (.Call (.Name "list" p) [x] [] pos) (eCa gList f) :=
  de_callTy call_list_of caG_list hg hm (by decide +kernel) ha (he := he)
theorem de_tuple {x : Expr} {p : Pos} {f : Ev → R (List D)} (hg : Gl X "tuple") (hm : X.mg "tuple" = none) (ha : DAl X W [x] f) (he : starEach [x] X.env = (false, eval x X.env) :: starEach [] X.env := by rfl) : DE X W (.Call (.Name "tuple" p) [x] [] pos) (eCa gTuple f) :=
  de_callTy call_tuple_of caG_tuple hg hm (by decide +kernel) ha (he := he)
theorem de_int {x : Expr} {p : Pos} {f : Ev → R (List D)} (hg : Gl X "int") (hm : X.mg "int" = none) (ha : DAl X W [x] f) (he : starEach [x] X.env = (false, eval x X.env) :: starEach [] X.env := by rfl) : DE X W (.Call (.Name "int" p) [x] [] pos) (eCa gInt f) :=
  de_callTy (CallR.or call_int1 call_int_str) caG_int hg hm (by decide +kernel) ha (he := he)
theorem de_str {x : Expr} {p : Pos} {f : Ev → R (List D)} (hg : Gl X "str") (hm : X.mg "str" = none) (ha : DAl X W [x] f) (he : starEach [x] X.env = (false, eval x X.env) :: starEach [] X.env := by rfl) : DE X W (.Call (.Name "str" p) [x] [] pos) (eCa gStr f) :=
  de_callTy call_str_int caG_str hg hm (by decide +kernel) ha (he := he)

/-! ### isinstance, of a built-in type -/
def dTy : D → String
  | .none => "NoneType"
  | .bool _ => "bool"
  | .int _ => "int"
  | .str _ => "str"
  | .list _ => "list"
  | .tuple _ => "tuple"
  | .dict _ => "dict"
theorem sqL_ty {K : PySem.W.Frag} {H : Hp} {a : Addr} {xs : List V} (h : SqL K H a xs) : TyX K H (.ref a) (.type "list") := by
  rcases h with (h | ⟨o, h⟩) | ⟨o, its, n, hk, hc, _⟩
  · exact .base (.lst h)
  · exact .base (.frz h)
  · exact .kList hk hc
theorem sqT_ty {K : PySem.W.Frag} {H : Hp} {a : Addr} {xs : List V} (h : SqT K H a xs) : TyX K H (.ref a) (.type "tuple") := by
  rcases h with (h | ⟨o, h⟩) | ⟨o, its, n, hk, hc, _⟩
  · exact .base (.tup h)
  · exact .fTuple h
  · exact .kTuple hk hc
theorem dp_ty {K : PySem.W.Frag} {H : Hp} {v : V} {d : D} (h : Dp K H v d) : TyX K H v (.type (dTy d)) := by
  cases h with
  | non => exact .base .non
  | bl b => exact .base (.bl b)
  | int i => exact .base (.int i)
  | str i => exact .base (.str i)
  | lst a b => exact sqL_ty a
  | tup a b => exact sqT_ty a
def gIsi (T : String) (d : D) : R D := match kitB (dTy d) T with
  | some b => .ok (.bool b)
  | none => .no
theorem df_isi {T : String} {y : Str} {p p2 : Pos} (ha : DV X W a f) (hg : Gl X "isinstance") (hm : X.mg "isinstance" = none) (gT : Gl X y) (mT : X.mg y = none) (bT : bootBuiltins y = some (.type T))
    (he : starEach [a, .Name y p2] X.env = (false, eval a X.env) :: starEach [.Name y p2] X.env := by rfl) (he2 : starEach [.Name y p2] X.env = (false, eval (.Name y p2) X.env) :: starEach [] X.env := by rfl) (hpl : (backTo pos (starEach [.Name y p2] X.env)).any (·.1) = false := by rfl)
    (hn : y ≠ "__name__" := by decide) (hd : (y == ("__debug__" : Str)) = false := by decide) : DF X W (.Call (.Name "isinstance" p) [a, .Name y p2] [] pos) (eB f (gIsi T)) := by
  obtain ⟨t, pa, s⟩ := ha
  refine ⟨_, pe_callB call_isi hg hm (by decide +kernel) (pa_cons pa (pa_cons (pe_bltn (v := .ty T) gT mT bT rfl hn hd) pa_nil he2) he) (he := he) (hpl := hpl), fun F H σ env fp Q sat hp => ?_⟩
  refine s.go sat hp fun d v F1 H1 sat1 q _ h1 => ?_
  unfold gIsi at h1
  split at h1
  · rename_i b hb
    exact ⟨v, .ty T, _, _, b, rfl, .ty T, dp_ty q, hb, h1 _ F1 H1 (.refl sat1.fh) (.bl _)⟩
  · exact h1.elim
end
end Mir
end
set_option Elab.async false
set_option linter.all false
set_option maxRecDepth 100000
set_option maxHeartbeats 4000000
noncomputable section
namespace Mir
open PySem PySem.Spec L2

/-! ### what is walked: lists (false) and tuples (true) alike -/
def ItP (t : Bool) (h : Heap) (it a : Addr) (i : Nat) : Prop := match t with
  | true => h.IsTupleIter it a i
  | false => h.IsListIter it a i
def CoP (t : Bool) (h : Heap) (a : Addr) (its : Array Value) : Prop := match t with
  | true => h.IsTuple a its
  | false => h.IsList a its
def Sqq (t : Bool) (K : PySem.W.Frag) (H : Hp) (a : Addr) (vs : List V) : Prop := match t with
  | true => SqT K H a vs
  | false => SqL K H a vs
theorem Sqq.mono {t : Bool} {K : PySem.W.Frag} {H H' : Hp} {a : Addr} {vs : List V} (s : Same H H') (h : Sqq t K H a vs) : Sqq t K H' a vs := by
  cases t with
  | true => exact SqT_mono s h
  | false => exact s.seq h
section
variable {X : Cx} {pins : List (Addr × Obj)} {σ : L2.St} {H : Hp} {s : Shared} {a : Addr} {xs ys : List V} {t : Bool}
theorem Sqq.at (I : Inv X pins σ H s) (h : Sqq t X.K H a xs) : ∃ its : List Value, Vals xs its ∧ CoP t s.heap a its.toArray := by
  cases t with
  | true =>
    obtain ⟨its, r, p, _⟩ := I.tuple h
    exact ⟨its, r, p⟩
  | false =>
    obtain ⟨its, r, p, _⟩ := I.list h
    exact ⟨its, r, p.isList⟩
theorem Sqq.inj (I : Inv X pins σ H s) (h : Sqq t X.K H a xs) (h' : Sqq t X.K H a ys) : xs = ys := by
  cases t with
  | true => exact I.tuple_inj h h'
  | false => exact I.list_inj h h'
end
theorem co_ne {t t' : Bool} {h : Heap} {a it b : Addr} {its : Array Value} {i : Nat} (c : CoP t h a its) (p : ItP t' h it b i) : a ≠ it := by
  rintro rfl
  have e1 : ∃ o, h.get? a = some o ∧ (o.cls = .type "tuple" ∨ o.cls = .type "list") := by
    cases t with
    | true => obtain ⟨o, e, c, _⟩ := c; exact ⟨o, e, .inl c⟩
    | false => obtain ⟨o, e, c, _⟩ := c; exact ⟨o, e, .inr c⟩
  have e2 : ∃ o, h.get? a = some o ∧ (o.cls = .type "tuple_iterator" ∨ o.cls = .type "list_iterator") := by
    cases t' with
    | true => obtain ⟨o, e, c, _⟩ := p; exact ⟨o, e, .inl c⟩
    | false => obtain ⟨o, e, c, _⟩ := p; exact ⟨o, e, .inr c⟩
  obtain ⟨o, g1, c1⟩ := e1
  obtain ⟨o', g2, c2⟩ := e2
  rw [g1] at g2
  cases g2
  rcases c1 with c1 | c1 <;> rcases c2 with c2 | c2 <;> · rw [c1] at c2; revert c2; decide +kernel
theorem co_cls {t : Bool} {h : Heap} {a : Addr} {its : Array Value} (c : CoP t h a its) : ∃ o, h.get? a = some o ∧ (o.cls = .type "tuple" ∨ o.cls = .type "list") := by
  cases t with
  | true => obtain ⟨o, e, c, _⟩ := c; exact ⟨o, e, .inl c⟩
  | false => obtain ⟨o, e, c, _⟩ := c; exact ⟨o, e, .inr c⟩
theorem it_obj {t : Bool} {h : Heap} {it a : Addr} {i : Nat} (p : ItP t h it a i) : ∃ o, h.get? it = some o ∧ ∀ v, o.data ≠ .cell v := by
  cases t with
  | true => obtain ⟨o, e, _, d⟩ := p; exact ⟨o, e, fun v z => by rw [d] at z; cases z⟩
  | false => obtain ⟨o, e, _, d⟩ := p; exact ⟨o, e, fun v z => by rw [d] at z; cases z⟩
theorem ItP.at {t : Bool} {h h' : Heap} {it a : Addr} {i : Nat} (p : ItP t h it a i) (k : ∀ o, h.get? it = some o → h'.get? it = some o) : ItP t h' it a i := by
  cases t with
  | true => obtain ⟨o, e, q⟩ := p; exact ⟨o, k o e, q⟩
  | false => obtain ⟨o, e, q⟩ := p; exact ⟨o, k o e, q⟩
theorem drawsP {P : Program} {w : World} {A : Around} (hh : A.handled = none) (t : Bool) {it a : Addr} (hne : a ≠ it) (its : Array Value) :
    Draws P w A it [it, a] its.size (fun i v => its[i]? = some v) (fun i h => ItP t h it a i ∧ CoP t h a its) := by
  cases t with
  | true => exact Draws.tuple hh it a hne its
  | false => exact Draws.list hh it a hne its
def objP (t : Bool) (a : Addr) : Obj := match t with
  | true => { cls := .type "tuple_iterator", data := .fields #[.ref a, .int 0 0] }
  | false => { cls := .type "list_iterator", data := .fields #[.ref a, .int 0 0] }
theorem beginsP (t : Bool) (a : Addr) (its : Array Value) : Begins (.ref a) (objP t a) (fun h => CoP t h a its) := by
  cases t with
  | true => exact begins_tuple a its
  | false => exact begins_list a its
theorem itP_new {t : Bool} {h : Heap} {it a : Addr} (e : h.get? it = some (objP t a)) : ItP t h it a 0 := by
  cases t with
  | true => exact ⟨_, e, rfl, rfl⟩
  | false => exact ⟨_, e, rfl, rfl⟩

/-! ### enumerate -/
def Jen (t : Bool) (K : PySem.W.Frag) (a : Addr) : It :=
  ⟨fun i H => ∃ xs x, Sqq t K H a xs ∧ xs[i]? = some x, fun i H v H' => ∃ T x, v = .ref T ∧ H T = none ∧ H' = upd H T (.tup [.int (i : Nat), x]) ∧ ∀ xs, Sqq t K H a xs → xs[i]? = some x,
    fun i H => ∃ xs, Sqq t K H a xs ∧ xs.length = i⟩
theorem turn_en {P : Program} {w : World} {K : PySem.W.Frag} {elts : List Expr} {kk : Nat} {tpos : Pos} (t : Bool) (a e it : Addr) (hei : e ≠ it) :
    Turn P w K (.Tuple elts kk tpos) (Jen t K a) [e, it] e (fun i h => (∃ old, IsEnum h e it (0 + (i : Int)) old) ∧ ItP t h it a i) where
  mem := by simp
  obj := fun i h st b hb => by
    obtain ⟨⟨old, he⟩, hi⟩ := st
    rcases List.mem_cons.mp hb with z | z
    · rw [z]; exact ⟨_, he, fun v q => nomatch q⟩
    · rw [List.mem_singleton.mp z]; exact it_obj hi
  keep := fun i h h' st k => let ⟨⟨old, he⟩, hi⟩ := st; ⟨⟨old, k e (by simp) _ he⟩, hi.at fun o q => k it (by simp) o q⟩
  item := by
    intro X hP hw hK hc i pins s σ H E I hf st hg
    subst hP hw hK
    obtain ⟨hen, hit⟩ := st
    obtain ⟨xs, x, hq, hx⟩ := hg
    obtain ⟨its, rv, hco⟩ := hq.at I
    obtain ⟨u, hu, ru⟩ := rv.get hx
    have hne := co_ne hco hit
    have hea : e ≠ a := by
      rintro rfl
      obtain ⟨old, he⟩ := hen
      obtain ⟨o, g, c⟩ := co_cls hco
      have g' : s.heap.get? e = some _ := he
      rw [g] at g'
      cases g'
      rcases c with c | c
      · exact absurd (show Value.type "enumerate" = .type "tuple" from c) (by decide +kernel)
      · exact absurd (show Value.type "enumerate" = .type "list" from c) (by decide +kernel)
    have hlt : i < its.toArray.size := by rw [List.size_toArray]; exact (List.getElem?_eq_some_iff.mp hu).1
    refine (GoesN.enumFrom (prog := X.prog) (w := X.w) (elts := elts) (x1 := kk) (pos := tpos) 0 (drawsP (A := X.A.in1) (I.ok.hd hc) t hne its.toArray) e hei (by simp [hei, hea]) (by simp)).goes i s _ _ hlt ⟨hen, hit, hco⟩ fun v h' tk ⟨T, tk', y, ev, hT, hy, hTup⟩ st' hk _ => ?_
    subst ev
    have hyu : y = u := by
      have hy' : its[i]? = some y := by simpa using hy
      rw [hu] at hy'
      exact (Option.some.inj hy').symm
    subst hyu
    have new : ObjOk X.prog X.w (upd H T (.tup [.int (i : Nat), x])) h' T (.tup [.int (i : Nat), x]) :=
      ⟨by show 2 ≤ sizeLine; decide, [.int (0 + (i : Int)) tk', y], .cons ⟨tk', by rw [Int.zero_add]⟩ (.cons ru .nil), hTup⟩
    have hb' : ∀ b ∈ [e, it], b < s.heap.objs.size := fun b hb => by
      obtain ⟨o, g, _⟩ := (show ∃ o, s.heap.get? b = some o ∧ True from by
        rcases List.mem_cons.mp hb with z | z
        · rw [z]; obtain ⟨old, he⟩ := hen; exact ⟨_, he, trivial⟩
        · rw [List.mem_singleton.mp z]; obtain ⟨o, g, _⟩ := it_obj hit; exact ⟨o, g, trivial⟩)
      exact Heap.lt_size g
    refine ⟨.ref T, _, I.turnedNew (ch := [e, it]) hk hf hT new, rfl, ⟨T, x, rfl, I.hok.fresh hT, rfl, fun ys hys => by rw [hys.inj I hq]; exact hx⟩, ⟨st'.1, st'.2.1⟩, fun b hb => ?_⟩
    rw [upd_ne (Nat.ne_of_lt (Nat.lt_of_lt_of_le (hb' b hb) hT))]
    exact (hf b hb).1
  done := by
    intro X hP hw hK hc i pins s σ H E I hf st hg
    subst hP hw hK
    obtain ⟨hen, hit⟩ := st
    obtain ⟨xs, hq, hl⟩ := hg
    obtain ⟨its, rv, hco⟩ := hq.at I
    have hne := co_ne hco hit
    have hea : e ≠ a := by
      rintro rfl
      obtain ⟨old, he⟩ := hen
      obtain ⟨o, g, c⟩ := co_cls hco
      have g' : s.heap.get? e = some _ := he
      rw [g] at g'
      cases g'
      rcases c with c | c
      · exact absurd (show Value.type "enumerate" = .type "tuple" from c) (by decide +kernel)
      · exact absurd (show Value.type "enumerate" = .type "list" from c) (by decide +kernel)
    have hs : i = its.toArray.size := by rw [List.size_toArray, ← rv.length]; exact hl.symm
    subst hs
    exact (GoesN.enumFrom (prog := X.prog) (w := X.w) (elts := elts) (x1 := kk) (pos := tpos) 0 (drawsP (A := X.A.in1) (I.ok.hd hc) t hne its.toArray) e hei (by simp [hei, hea]) (by simp)).stops s _ _ ⟨hen, hit, hco⟩ fun h' tk hk _ => I.turnedL (ch := [e, it]) hk hf
  self := fun A i s Q E st h => let ⟨⟨_, he⟩, _⟩ := st; wpAny_pyIter_enum he h
theorem meets_en {v : Value} {o : Obj} {H : Heap → Prop} (B : Begins v o H) : Meets (Builtin.«enumerate.__new__» ⟨[.type "enumerate", v], []⟩) (fun _ R s => H s.heap ∧
      R (.ok (.ret (.ref (s.heap.push o).objs.size))) { s with heap := (s.heap.push o).push { cls := .type "enumerate", data := .fields #[.none, .bool false, .ref s.heap.objs.size, rawInt 0, .none, .none] } }) :=
  .of_wp fun prog w A R s h => by
    obtain ⟨hp, g, d, tk, os⟩ := s; obtain ⟨h1, h⟩ := h; have hsub := sub_enumerate
    have q1 : ∀ {A' : Around} {E Q : Value → Shared → Prop}, Q (.ref hp.objs.size) ⟨hp.push o, g, d, tk, os⟩ → wpAny (model prog w) A' (pyIter v) Q E ⟨hp, g, d, tk, os⟩ := fun q => B.iter prog w _ _ ⟨hp, g, d, tk, os⟩ _ h1 q
    wp_walk using q1
    refine wpAny_stack_any (fun st => wpAny_pure ?_); split
    · rename_i c _ _ _ _ _; cases (c == Value.type "enumerate") <;> (wp_walk using q1; exact ⟨_, rfl, h⟩)
    · wp_walk using q1; exact ⟨_, rfl, h⟩
theorem call_en {prog : Program} {w : World} {A : Around} {E : Value → Shared → Prop} {s : Shared} {v : Value} {o : Obj} {H : Heap → Prop} {Q : Value → Shared → Prop} (B : Begins v o H) (h1 : H s.heap)
    (h : ∀ h', IsEnum h' (s.heap.objs.size + 1) s.heap.objs.size 0 .none → h'.get? s.heap.objs.size = some o → (∀ b o, s.heap.get? b = some o → h'.get? b = some o) → Q (.ref (s.heap.objs.size + 1)) { s with heap := h' }) :
    wpAny (model prog w) A (call (.type "enumerate") [v]) Q E s := by
  refine callType_new F.called_enumerate (by decide) (F.typeCall_enumerate_1 _) (F.newCall_enumerate_1 _) (fun obj => F.args_object_init_2 obj _) F.entry_enumerate_new (meets_en B) ⟨h1, ?_⟩
  have hz : (s.heap.push o).objs.size = s.heap.objs.size + 1 := Heap.size_push ..
  show _ ∧ _; rw [hz]
  have g1 : (s.heap.push o).get? s.heap.objs.size = some o := Heap.get?_push_size _ B.free
  have he : IsEnum ((s.heap.push o).push { cls := .type "enumerate", data := .fields #[.none, .bool false, .ref s.heap.objs.size, rawInt 0, .none, .none] }) (s.heap.objs.size + 1) s.heap.objs.size 0 .none := by
    have := Heap.get?_push_size (s.heap.push o) (o := { cls := .type "enumerate", data := .fields #[.none, .bool false, .ref s.heap.objs.size, rawInt 0, .none, .none] }) rfl
    rw [hz] at this; exact this
  exact ⟨⟨_, he, rfl⟩, h _ he (Heap.get?_push_of_some _ g1) fun b o x => Heap.get?_push_of_some _ (Heap.get?_push_of_some _ x)⟩
def iEn (K : PySem.W.Frag) (ta : TA) : TI := fun σ H R => ta σ H fun vs H1 => ∃ t a xs, vs = [.ref a] ∧ Sqq t K H1 a xs ∧ R (Jen t K a) H1
theorem pi_en {X : Cx} {e : Expr} {ta : TA} {p pos tpos : Pos} {elts : List Expr} {kk : Nat} (hg : Gl X "enumerate") (hm : X.mg "enumerate" = none) (ha : PA X [e] ta) (hs : starEach [e] X.env = [(false, eval e X.env)] := by rfl) :
    PI X (.Tuple elts kk tpos) (.Call (.Name "enumerate" p) [e] [] pos) (iEn X.K ta) := by
  refine ⟨fun pins s σ H R I h => ?_⟩
  refine PyProof.Rows.Call_ (ld_blt I hg hm PyProof.Rows.boot_enumerate (PyProof.Rows.callWith_type1 (thn (ha.run pos pins s σ H _ I h) fun us s1 ⟨vs, H1, I1, r1, t, a, xs, ex, hq, q⟩ => ?_) hs rfl))
  subst ex
  cases r1 with
  | cons r rr =>
    cases rr
    cases r
    obtain ⟨its, rv, hco⟩ := hq.at I1
    refine call_en (beginsP t a its.toArray) hco fun h' he hit hk => wpAny_pyIter_enum he ?_
    have I2 : Inv X pins σ H1 { s1 with heap := h' } := I1.kept (t' := s1.toks) hk
    refine ⟨s1.heap.objs.size + 1, [s1.heap.objs.size + 1, s1.heap.objs.size], _, _, H1, rfl, I2, turn_en t a _ _ (Nat.succ_ne_self _), ⟨⟨.none, he⟩, itP_new hit⟩, fun b hb => ?_, q⟩
    have hle : s1.heap.objs.size ≤ b := by
      rcases List.mem_cons.mp hb with z | z
      · rw [z]; exact Nat.le_add_right _ _
      · rw [List.mem_singleton.mp z]; exact Nat.le_refl _
    exact I1.fpOk hle (I1.hok.fresh hle)
end Mir
end
set_option Elab.async false
set_option linter.all false
set_option maxRecDepth 100000
set_option maxHeartbeats 4000000
noncomputable section
namespace Mir
open PySem PySem.Spec L2

theorem fp_ne {X : Cx} {pins : List (Addr × Obj)} {σ : L2.St} {H : Hp} {s : Shared} {t : Bool} {a b : Addr} {xs : List V} (I : Inv X pins σ H s) (hf : FpOk X pins H b) (hq : Sqq t X.K H a xs) : a ≠ b := by
  rintro rfl
  have kk : ∀ o, X.K.lookup a = some o → False := fun o e => by
    have e1 := I.mod.kin a o e
    obtain ⟨_, _, _, q, _, _⟩ := hf
    rcases q with q | q
    · exact I.ok.noex a o e1 q
    · exact absurd (Nat.lt_of_lt_of_le (Heap.lt_size e1) (Nat.le_trans I.ok.bsz q)) (Nat.lt_irrefl _)
  cases t with
  | true =>
    rcases hq with (h | ⟨o, h⟩) | ⟨o, its, n, h, _⟩
    · rw [hf.1] at h; cases h
    · rw [hf.1] at h; cases h
    · exact kk o h
  | false =>
    rcases hq with (h | ⟨o, h⟩) | ⟨o, its, n, h, _⟩
    · rw [hf.1] at h; cases h
    · rw [hf.1] at h; cases h
    · exact kk o h

/-! ### zip -/
def Jzp (t u : Bool) (K : PySem.W.Frag) (a b : Addr) : It :=
  ⟨fun i H => ∃ xs ys x y, Sqq t K H a xs ∧ Sqq u K H b ys ∧ xs[i]? = some x ∧ ys[i]? = some y,
    fun i H v H' => ∃ T x y, v = .ref T ∧ H T = none ∧ H' = upd H T (.tup [x, y]) ∧ (∀ xs, Sqq t K H a xs → xs[i]? = some x) ∧ ∀ ys, Sqq u K H b ys → ys[i]? = some y,
    fun i H => ∃ xs ys, Sqq t K H a xs ∧ Sqq u K H b ys ∧ min xs.length ys.length = i⟩
theorem turn_zp {P : Program} {w : World} {K : PySem.W.Frag} {elts : List Expr} {kk : Nat} {tpos : Pos} (t u : Bool) (a b z TI TO i1 i2 : Addr) (nd : [z, TI, TO, i1, i2].Nodup) :
    Turn P w K (.Tuple elts kk tpos) (Jzp t u K a b) [z, TI, TO, i1, i2] z (fun i h => IsZip h z TI TO .none ∧ IsTupOf2 h TI (.ref i1) (.ref i2) ∧ (∃ a1 a2, IsTupOf2 h TO a1 a2) ∧ ItP t h i1 a i ∧ ItP u h i2 b i) := by
  have sep : a ∉ [z, TI, TO, i1, i2] → b ∉ [z, TI, TO, i1, i2] → ZipSep2 z TI TO i1 i2 [i1, a] [i2, b] := fun ha hb => by
    simp only [List.nodup_cons, List.mem_cons, List.not_mem_nil, or_false, not_or, List.nodup_nil, and_true, not_false_eq_true] at nd ha hb
    obtain ⟨⟨n1, n2, n3, n4⟩, ⟨n5, n6, n7⟩, ⟨n8, n9⟩, n10⟩ := nd
    obtain ⟨a1, a2, a3, a4, a5⟩ := ha
    obtain ⟨b1, b2, b3, b4, b5⟩ := hb
    refine ⟨Ne.symm n1, Ne.symm n2, n5, n6, by simp, ?_, ?_, n7, by simp, ?_, ?_, ?_, ?_⟩ <;> simp only [List.mem_cons, List.not_mem_nil, or_false, not_or]
    · exact ⟨n3, Ne.symm a1⟩
    · exact ⟨n8, Ne.symm a3⟩
    · exact ⟨n4, Ne.symm b1⟩
    · exact ⟨n9, Ne.symm b3⟩
    · exact ⟨n10, Ne.symm b4⟩
    · exact ⟨Ne.symm n10, Ne.symm a5⟩
  have live : ∀ {i : Nat} {h : Heap}, (IsZip h z TI TO .none ∧ IsTupOf2 h TI (.ref i1) (.ref i2) ∧ (∃ a1 a2, IsTupOf2 h TO a1 a2) ∧ ItP t h i1 a i ∧ ItP u h i2 b i) → ∀ c ∈ [z, TI, TO, i1, i2], ∃ o, h.get? c = some o ∧ ∀ v, o.data ≠ .cell v := fun st c hc => by
    obtain ⟨h1, h2, ⟨x1, x2, h3⟩, h4, h5⟩ := st
    simp only [List.mem_cons, List.not_mem_nil, or_false] at hc
    rcases hc with rfl | rfl | rfl | rfl | rfl
    · exact ⟨_, h1, fun v q => nomatch q⟩
    · exact ⟨_, h2, fun v q => nomatch q⟩
    · exact ⟨_, h3, fun v q => nomatch q⟩
    · exact it_obj h4
    · exact it_obj h5
  have wrs : ∀ c ∈ [z, TO, i1, i2], c ∈ [z, TI, TO, i1, i2] := fun c hc => by
    simp only [List.mem_cons, List.not_mem_nil, or_false] at hc ⊢
    rcases hc with rfl | rfl | rfl | rfl <;> simp
  refine ⟨by simp, fun i h st => live st, fun i h h' st k => ?_, ?_, ?_, fun A i s Q E st h => wpAny_pyIter_zip st.1 h⟩
  · obtain ⟨h1, h2, ⟨x1, x2, h3⟩, h4, h5⟩ := st
    exact ⟨k z (by simp) _ h1, k TI (by simp) _ h2, ⟨x1, x2, k TO (by simp) _ h3⟩, h4.at fun o q => k i1 (by simp) o q, h5.at fun o q => k i2 (by simp) o q⟩
  · intro X hP hw hK hc i pins s σ H E I hf st hg
    subst hP hw hK
    have hst := live st
    obtain ⟨h1, h2, h3, h4, h5⟩ := st
    obtain ⟨xs, ys, x, y, hq, hr, hx, hy⟩ := hg
    obtain ⟨its, rv, hco⟩ := hq.at I
    obtain ⟨jts, rw', hco'⟩ := hr.at I
    obtain ⟨u1, hu, ru⟩ := rv.get hx
    obtain ⟨u2, hu', ru'⟩ := rw'.get hy
    have S := sep (fun z => fp_ne I (hf a z) hq rfl) (fun z => fp_ne I (hf b z) hr rfl)
    have n1 : i < its.toArray.size := by rw [List.size_toArray]; exact (List.getElem?_eq_some_iff.mp hu).1
    have n2 : i < jts.toArray.size := by rw [List.size_toArray]; exact (List.getElem?_eq_some_iff.mp hu').1
    refine (GoesN.zip2 (prog := X.prog) (w := X.w) (elts := elts) (x1 := kk) (pos := tpos) S (drawsP (A := X.A.in1) (I.ok.hd hc) t (fp_ne I (hf i1 (by simp)) hq) its.toArray) (drawsP (A := X.A.in1) (I.ok.hd hc) u (fp_ne I (hf i2 (by simp)) hr) jts.toArray)).goes i s _ _ (by omega) ⟨h1, h2, h3, ⟨h4, hco⟩, h5, hco'⟩
      fun v h' tk ⟨T, p, q, ev, hT, hp, hq', hTup⟩ st' hk _ => ?_
    subst ev
    have e1 : p = u1 := by
      have hp' : its[i]? = some p := by simpa using hp
      rw [hu] at hp'
      exact (Option.some.inj hp').symm
    have e2 : q = u2 := by
      have hp' : jts[i]? = some q := by simpa using hq'
      rw [hu'] at hp'
      exact (Option.some.inj hp').symm
    subst e1 e2
    have new : ObjOk X.prog X.w (upd H T (.tup [x, y])) h' T (.tup [x, y]) := ⟨by show 2 ≤ sizeLine; decide, [p, q], .cons ru (.cons ru' .nil), hTup⟩
    refine ⟨.ref T, _, I.turnedNew (ch := [z, TI, TO, i1, i2]) (fun b o hb e => hk b o (fun m => hb (wrs b m)) e) hf hT new, rfl, ⟨T, x, y, rfl, I.hok.fresh hT, rfl, fun zs hz => by rw [hz.inj I hq]; exact hx, fun zs hz => by rw [hz.inj I hr]; exact hy⟩,
      ⟨st'.1, st'.2.1, st'.2.2.1, st'.2.2.2.1.1, st'.2.2.2.2.1⟩, fun c hc => ?_⟩
    obtain ⟨o, g, _⟩ := hst c hc
    rw [upd_ne (Nat.ne_of_lt (Nat.lt_of_lt_of_le (Heap.lt_size g) hT))]
    exact (hf c hc).1
  · intro X hP hw hK hc i pins s σ H E I hf st hg
    subst hP hw hK
    obtain ⟨h1, h2, h3, h4, h5⟩ := st
    obtain ⟨xs, ys, hq, hr, hl⟩ := hg
    obtain ⟨its, rv, hco⟩ := hq.at I
    obtain ⟨jts, rw', hco'⟩ := hr.at I
    have S := sep (fun z => fp_ne I (hf a z) hq rfl) (fun z => fp_ne I (hf b z) hr rfl)
    have hs : i = min its.toArray.size jts.toArray.size := by rw [List.size_toArray, List.size_toArray, ← rv.length, ← rw'.length]; exact hl.symm
    subst hs
    exact (GoesN.zip2 (prog := X.prog) (w := X.w) (elts := elts) (x1 := kk) (pos := tpos) S (drawsP (A := X.A.in1) (I.ok.hd hc) t (fp_ne I (hf i1 (by simp)) hq) its.toArray) (drawsP (A := X.A.in1) (I.ok.hd hc) u (fp_ne I (hf i2 (by simp)) hr) jts.toArray)).stops s _ _ ⟨h1, h2, h3, ⟨h4, hco⟩, h5, hco'⟩
      fun h' tk hk _ => I.turnedL (ch := [z, TI, TO, i1, i2]) (fun b o hb e => hk b o (fun m => hb (wrs b m)) e) hf
def iZp (K : PySem.W.Frag) (ta : TA) : TI := fun σ H R => ta σ H fun vs H1 => ∃ t u a b xs ys, vs = [.ref a, .ref b] ∧ Sqq t K H1 a xs ∧ Sqq u K H1 b ys ∧ R (Jzp t u K a b) H1
theorem pi_zp {X : Cx} {e e2 : Expr} {ta : TA} {p pos tpos : Pos} {elts : List Expr} {kk : Nat} (hg : Gl X "zip") (hm : X.mg "zip" = none) (ha : PA X [e, e2] ta) (hs : starEach [e, e2] X.env = (false, eval e X.env) :: starEach [e2] X.env := by rfl)
    (hpl : (backTo pos (starEach [e2] X.env)).any (·.1) = false := by rfl) : PI X (.Tuple elts kk tpos) (.Call (.Name "zip" p) [e, e2] [] pos) (iZp X.K ta) := by
  refine ⟨fun pins s σ H R I h => ?_⟩
  refine PyProof.Rows.Call_ (ld_blt I hg hm PyProof.Rows.boot_zip (PyProof.Rows.callWith_type1 (thn (ha.run pos pins s σ H _ I h) fun us s1 ⟨vs, H1, I1, r1, t, u, a, b, xs, ys, ex, hq, hr, q⟩ => ?_) hs hpl))
  subst ex
  cases r1 with
  | cons r rr =>
    cases rr with
    | cons r' rr =>
      cases rr
      cases r
      cases r'
      obtain ⟨its, rv, hco⟩ := hq.at I1
      obtain ⟨jts, rw', hco'⟩ := hr.at I1
      refine zip_begins2 (beginsP t a its.toArray) (beginsP u b jts.toArray) hco hco' fun h' hz hTI hTO g1 g2 _ hk => wpAny_pyIter_zip hz ?_
      have I2 : Inv X pins σ H1 { s1 with heap := h' } := I1.kept (t' := s1.toks) hk
      have le5 : ∀ c ∈ [s1.heap.objs.size + 4, s1.heap.objs.size + 2, s1.heap.objs.size + 3, s1.heap.objs.size, s1.heap.objs.size + 1], s1.heap.objs.size ≤ c := fun c hc => by
        simp only [List.mem_cons, List.not_mem_nil, or_false] at hc
        rcases hc with z | z | z | z | z <;> (rw [z]; first | exact Nat.le_refl _ | exact Nat.le_add_right _ _)
      have nd5 : ∀ n : Nat, [n + 4, n + 2, n + 3, n, n + 1].Nodup := fun n => by
        simp only [List.nodup_cons, List.mem_cons, List.not_mem_nil, or_false, not_or, List.nodup_nil, and_true, not_false_eq_true]
        omega
      exact ⟨_, _, _, _, H1, rfl, I2, turn_zp t u a b _ _ _ _ _ (nd5 s1.heap.objs.size), ⟨hz, hTI, ⟨_, _, hTO⟩, itP_new g1, itP_new g2⟩, fun c hc => I1.fpOk (le5 c hc) (I1.hok.fresh (le5 c hc)), q⟩
end Mir
end
set_option Elab.async false
set_option linter.all false
set_option maxRecDepth 100000
set_option maxHeartbeats 4000000
noncomputable section
namespace Mir
open PySem PySem.Spec L2

/-! ### what a for or a comprehension walks: frozen items -/
structure WalkF (K : PySem.W.Frag) (J : It) (F0 : Hp) (items : List D) : Prop where
  go : ∀ i F H, i < items.length → Same F0 F → Same F H → J.go i H
  yld : ∀ i F H x H', i < items.length → Same F0 F → Same F H → J.yld i H x H' → ∃ d F', items[i]? = some d ∧ Ext F H F' H' ∧ Dp K F' x d
  stop : ∀ F H, Same F0 F → Same F H → J.stop items.length H
def PIt (K : PySem.W.Frag) (_ : Hp) (items : List D) (J : It) (F' _ : Hp) : Prop := WalkF K J F' items
instance {K : PySem.W.Frag} : Anti (PIt K) := ⟨fun _ h => h⟩
def DI (X : Cx) (W : WX) (tg e : Expr) (f : Ev → R (List D)) : Prop := ∃ wi, PI X tg e wi ∧ Sm X W (PIt X.K) wi f
section
variable {K : PySem.W.Frag} {F0 : Hp} {a b : Addr} {vs ws : List V} {ds es : List D}
theorem walkF_l (h1 : SqL K F0 a vs) (h2 : DpAll K F0 vs ds) : WalkF K (Itl K a) F0 ds where
  go := fun i F H hi s1 s2 => by
    rw [← DpAll.len h2] at hi
    exact ⟨vs, vs[i], (s1.trans s2).seq h1, by simp [hi]⟩
  yld := fun i F H x H' hi s1 s2 ⟨e, q⟩ => by
    subst e
    obtain ⟨d, e1, e2⟩ := DpAll.getV h2 (q vs ((s1.trans s2).seq h1))
    exact ⟨d, F, e1, .refl s2, dpUp e2 s1⟩
  stop := fun F H s1 s2 => ⟨vs, (s1.trans s2).seq h1, by rw [DpAll.len h2]; exact Nat.le_refl _⟩
theorem walkF_t (h1 : SqT K F0 a vs) (h2 : DpAll K F0 vs ds) : WalkF K (Itt K a) F0 ds where
  go := fun i F H hi s1 s2 => by
    rw [← DpAll.len h2] at hi
    exact ⟨vs, vs[i], SqT_mono (s1.trans s2) h1, by simp [hi]⟩
  yld := fun i F H x H' hi s1 s2 ⟨e, q⟩ => by
    subst e
    obtain ⟨d, e1, e2⟩ := DpAll.getV h2 (q vs (SqT_mono (s1.trans s2) h1))
    exact ⟨d, F, e1, .refl s2, dpUp e2 s1⟩
  stop := fun F H s1 s2 => ⟨vs, SqT_mono (s1.trans s2) h1, by rw [DpAll.len h2]; exact Nat.le_refl _⟩
def charsD (z : Str) : List D := z.cps.toList.map fun c => .str ⟨#[c]⟩
theorem walkF_s (z : Str) : WalkF K (Its z) F0 (charsD z) where
  go := fun i F H hi s1 s2 => walk_str.goes i H (by simpa [charsD] using hi) trivial
  yld := fun i F H x H' hi s1 s2 h => by
    have hi' : i < z.cps.size := by simpa [charsD] using hi
    obtain ⟨e, c, e1, e2⟩ := walk_str.yields i H x H' hi' trivial h
    subst e e2
    exact ⟨_, F, by simp [charsD, e1], .refl s2, .str _⟩
  stop := fun F H s1 s2 => by
    have := (walk_str (z := z)).stops H trivial
    simpa [charsD] using this
def rangeD (lo : Int) (n : Nat) : List D := (List.range n).map fun i => .int (lo + (i : Nat))
def rangeCD (lo c : Int) (n : Nat) : List D := (List.range n).map fun i => .int (lo + (i : Nat) * c)
theorem walkF_r (lo : Int) (n : Nat) : WalkF K (Itr lo n) F0 (rangeD lo n) where
  go := fun i F H hi s1 s2 => walk_range.goes i H (by simpa [rangeD] using hi) trivial
  yld := fun i F H x H' hi s1 s2 h => by
    have hi' : i < n := by simpa [rangeD] using hi
    obtain ⟨e, e1⟩ := walk_range.yields i H x H' hi' trivial h
    subst e e1
    exact ⟨_, F, by simp [rangeD, hi'], .refl s2, .int _⟩
  stop := fun F H s1 s2 => by
    have := (walk_range (lo := lo) (n := n)).stops H trivial
    simpa [rangeD] using this
theorem walkF_rc (lo c : Int) (n : Nat) : WalkF K (Itc lo c n) F0 (rangeCD lo c n) where
  go := fun i F H hi s1 s2 => walk_rangeC.goes i H (by simpa [rangeCD] using hi) trivial
  yld := fun i F H x H' hi s1 s2 h => by
    have hi' : i < n := by simpa [rangeCD] using hi
    obtain ⟨e, e1⟩ := walk_rangeC.yields i H x H' hi' trivial h
    subst e e1
    exact ⟨_, F, by simp [rangeCD, hi'], .refl s2, .int _⟩
  stop := fun F H s1 s2 => by
    have := (walk_rangeC (lo := lo) (c := c) (n := n)).stops H trivial
    simpa [rangeCD] using this
def enumD : Nat → List D → List D
  | _, [] => []
  | n, d :: ds => .tuple [.int n, d] :: enumD (n + 1) ds
theorem enumD_len : ∀ (n : Nat) (ds : List D), (enumD n ds).length = ds.length
  | _, [] => rfl
  | n, d :: ds => by simp [enumD, enumD_len (n + 1) ds]
theorem enumD_get : ∀ (n i : Nat) (ds : List D) (d : D), ds[i]? = some d → (enumD n ds)[i]? = some (.tuple [.int (n + i : Nat), d])
  | n, i, [], d, h => by simp at h
  | n, 0, x :: ds, d, h => by simp at h; subst h; simp [enumD]
  | n, i + 1, x :: ds, d, h => by
    have := enumD_get (n + 1) i ds d (by simpa using h)
    simp only [enumD, List.getElem?_cons_succ, this]
    congr 3; congr 2; omega
def zipD : List D → List D → List D
  | x :: xs, y :: ys => .tuple [x, y] :: zipD xs ys
  | _, _ => []
@[simp] theorem zipD_nil (ys : List D) : zipD [] ys = [] := by cases ys <;> rfl
@[simp] theorem zipD_nil2 (ys : List D) : zipD ys [] = [] := by cases ys <;> rfl
@[simp] theorem zipD_cons (x y : D) (xs ys : List D) : zipD (x :: xs) (y :: ys) = .tuple [x, y] :: zipD xs ys := rfl
theorem zipD_len : ∀ (xs ys : List D), (zipD xs ys).length = min xs.length ys.length
  | [], ys => by simp
  | x :: xs, [] => by simp
  | x :: xs, y :: ys => by simp [zipD_len xs ys]
theorem zipD_get : ∀ (i : Nat) (xs ys : List D) (x y : D), xs[i]? = some x → ys[i]? = some y → (zipD xs ys)[i]? = some (.tuple [x, y])
  | i, [], ys, x, y, h, g => by simp at h
  | i, x :: xs, [], _, y, h, g => by simp at g
  | 0, a :: xs, b :: ys, x, y, h, g => by simp at h g; subst h g; rfl
  | i + 1, a :: xs, b :: ys, x, y, h, g => by
    have := zipD_get i xs ys x y (by simpa using h) (by simpa using g)
    simpa using this
theorem walkF_en {t : Bool} (h1 : Sqq t K F0 a vs) (h2 : DpAll K F0 vs ds) : WalkF K (Jen t K a) F0 (enumD 0 ds) where
  go := fun i F H hi s1 s2 => by
    rw [enumD_len, ← DpAll.len h2] at hi
    exact ⟨vs, vs[i], h1.mono (s1.trans s2), by simp [hi]⟩
  yld := fun i F H x H' hi s1 s2 ⟨T, y, e, hT, eH, q⟩ => by
    subst e eH
    obtain ⟨d, e1, e2⟩ := DpAll.getV h2 (q vs (h1.mono (s1.trans s2)))
    have x := Ext.frz s2 hT (.tup [.int (i : Nat), y])
    refine ⟨_, _, enumD_get 0 i ds d e1, x, ?_⟩
    rw [Nat.zero_add]
    exact .tup (SqT.of upd_same) (.cons (.int _) (.cons (dpUp e2 (s1.trans x.ff)) .nil))
  stop := fun F H s1 s2 => ⟨vs, h1.mono (s1.trans s2), by rw [enumD_len, DpAll.len h2]⟩
theorem walkF_zp {t u : Bool} (h1 : Sqq t K F0 a vs) (h2 : DpAll K F0 vs ds) (g1 : Sqq u K F0 b ws) (g2 : DpAll K F0 ws es) : WalkF K (Jzp t u K a b) F0 (zipD ds es) where
  go := fun i F H hi s1 s2 => by
    rw [zipD_len, ← DpAll.len h2, ← DpAll.len g2] at hi
    exact ⟨vs, ws, vs[i]'(by omega), ws[i]'(by omega), h1.mono (s1.trans s2), g1.mono (s1.trans s2), by simp, by simp⟩
  yld := fun i F H x H' hi s1 s2 ⟨T, y, z, e, hT, eH, q, q'⟩ => by
    subst e eH
    obtain ⟨d, e1, e2⟩ := DpAll.getV h2 (q vs (h1.mono (s1.trans s2)))
    obtain ⟨d', e1', e2'⟩ := DpAll.getV g2 (q' ws (g1.mono (s1.trans s2)))
    have x := Ext.frz s2 hT (.tup [y, z])
    exact ⟨_, _, zipD_get i ds es d d' e1 e1', x, .tup (SqT.of upd_same) (.cons (dpUp e2 (s1.trans x.ff)) (.cons (dpUp e2' (s1.trans x.ff)) .nil))⟩
  stop := fun F H s1 s2 => ⟨vs, ws, h1.mono (s1.trans s2), g1.mono (s1.trans s2), by rw [zipD_len, DpAll.len h2, DpAll.len g2]⟩
end
section
variable {X : Cx} {W : WX} {tg e e2 : Expr} {es : List Expr} {pos p : Pos} {f g : Ev → R D}
theorem PI.or {wi wj : TI} (h : PI X tg e wi) (h' : PI X tg e wj) : PI X tg e (fun σ H R => wi σ H R ∨ wj σ H R) := ⟨fun pins s σ H R I q => by
  rcases q with q | q
  · exact h.run pins s σ H R I q
  · exact h'.run pins s σ H R I q⟩
def itD : D → R (List D)
  | .list ds => .ok ds
  | .tuple ds => .ok ds
  | .str z => .ok (charsD z)
  | _ => .no
@[simp] theorem itD_list (ds : List D) : itD (.list ds) = .ok ds := rfl
@[simp] theorem itD_tup (ds : List D) : itD (.tuple ds) = .ok ds := rfl
@[simp] theorem itD_str (z : Str) : itD (.str z) = .ok (charsD z) := rfl
/-- go on by what the first part is -/
theorem Sm.choose {α β γ δ : Type} {P : Hp → α → β → Hp → Hp → Prop} {P2 : Hp → γ → δ → Hp → Hp → Prop} [Anti P2] {t : L2.St → Hp → (β → Hp → Prop) → Prop} {f : Ev → R α} (s : Sm X W P t f) {g : α → R γ} {F H : Hp} {σ : L2.St} {env : Ev} {fp : List Addr} {Q : δ → Hp → Prop} {G : Prop}
    (sat : Sat X.K F H σ env fp) (h : Post X W P2 F H σ ((f env).bind g) Q) (no : (∀ T, t σ H T) → G)
    (k : ∀ a, f env = .ok a → (∀ T, (∀ v F1 H1, Sat X.K F1 H1 σ env fp → P H a v F1 H1 → Ext F H F1 H1 → Post X W P2 F1 H1 σ (g a) Q → T v H1) → t σ H T) → G) : G := by
  cases e : f env with
  | no => rw [e] at h; exact h.elim
  | ok a =>
    refine k a e fun T hT => s F H σ env fp T sat ?_
    rw [e] at h ⊢
    exact fun v F' H' x p => hT v F' H' (sat.ext x) p x (Post.ext (show Post X W P2 F H σ (g a) Q from h) x)
  | ex c =>
    refine no fun T => s F H σ env fp T sat ?_
    rw [e] at h ⊢
    exact h
theorem di_seq (h : DF X W e f) : DI X W tg e (eB f itD) := by
  obtain ⟨t, p, s⟩ := h
  refine ⟨_, PI.or (pi_list p) (PI.or (pi_tup p) (pi_str p)), fun F H σ env fp Q sat hp => ?_⟩
  refine s.choose sat hp (fun z => .inl (z _)) fun d e k => ?_
  cases d with
  | list ds =>
    refine .inl (k _ fun v F1 H1 sat1 q _ h1 => ?_)
    obtain ⟨a, vs, rfl, q1, q2⟩ := dp_lst q
    exact ⟨a, rfl, ⟨vs, sat1.fh.seq q1⟩, h1 _ F1 H1 (.refl sat1.fh) (walkF_l q1 q2)⟩
  | tuple ds =>
    refine .inr (.inl (k _ fun v F1 H1 sat1 q _ h1 => ?_))
    obtain ⟨a, vs, rfl, q1, q2⟩ := dp_tup q
    exact ⟨a, rfl, ⟨vs, SqT_mono sat1.fh q1⟩, h1 _ F1 H1 (.refl sat1.fh) (walkF_t q1 q2)⟩
  | str z =>
    refine .inr (.inr (k _ fun v F1 H1 sat1 q _ h1 => ?_))
    cases dp_str q
    exact ⟨z, rfl, h1 _ F1 H1 (.refl sat1.fh) (walkF_s z)⟩
  | _ =>
    refine .inl (k _ fun v F1 H1 sat1 q _ h1 => h1.elim)
def rg1 : List D → R (List D)
  | [.int j] => guard (-(2 ^ 62) ≤ j ∧ j < 2 ^ 62) (.ok (rangeD 0 j.toNat))
  | _ => .no
def rg2 : List D → R (List D)
  | [.int i, .int j] => guard (-(2 ^ 62) ≤ i ∧ i < 2 ^ 62 ∧ -(2 ^ 62) ≤ j ∧ j < 2 ^ 62) (.ok (rangeD i (j - i).toNat))
  | _ => .no
def rg3 : List D → R (List D)
  | [.int i, .int j, .int c] => guard (c = -1 ∧ -(2 ^ 62) ≤ i ∧ i < 2 ^ 62 ∧ -(2 ^ 62) ≤ j ∧ j < 2 ^ 62) (.ok (rangeCD i (-1) (i - j).toNat))
  | _ => .no
theorem daf1 {K : PySem.W.Frag} {F : Hp} {d : D} {vs : List V} (h : DpAll K F vs [d]) : ∃ v, vs = [v] ∧ Dp K F v d := by
  cases h with | cons a b => cases b; exact ⟨_, rfl, a⟩
theorem daf2 {K : PySem.W.Frag} {F : Hp} {d d' : D} {vs : List V} (h : DpAll K F vs [d, d']) : ∃ v w, vs = [v, w] ∧ Dp K F v d ∧ Dp K F w d' := by
  cases h with | cons a b => cases b with | cons a' b' => cases b'; exact ⟨_, _, rfl, a, a'⟩
theorem daf3 {K : PySem.W.Frag} {F : Hp} {d d' d2 : D} {vs : List V} (h : DpAll K F vs [d, d', d2]) : ∃ v w u, vs = [v, w, u] ∧ Dp K F v d ∧ Dp K F w d' ∧ Dp K F u d2 := by
  cases h with | cons a b => cases b with | cons a' b' => cases b' with | cons a2 b2 => cases b2; exact ⟨_, _, _, rfl, a, a', a2⟩
variable {fa : Ev → R (List D)}
theorem di_range1 (hg : Gl X "range") (hm : X.mg "range" = none) (h : DA X W [e] fa) (hs : starEach [e] X.env = [(false, eval e X.env)] := by rfl) : DI X W tg (.Call (.Name "range" p) [e] [] pos) (eB fa rg1) := by
  obtain ⟨t, pa, s⟩ := h
  refine ⟨_, pi_range1 hg hm pa hs, fun F H σ env fp Q sat hp => ?_⟩
  refine s.go sat hp fun ds vs F1 H1 sat1 q _ h1 => ?_
  unfold rg1 at h1
  split at h1
  · obtain ⟨c, h2⟩ := guard_post h1
    obtain ⟨v, rfl, w⟩ := daf1 q
    cases dp_int w
    exact ⟨_, rfl, c.1, c.2, h2 _ F1 H1 (.refl sat1.fh) (walkF_r _ _)⟩
  · exact h1.elim
theorem di_range2 (hg : Gl X "range") (hm : X.mg "range" = none) (h : DA X W [e, e2] fa) (hs : starEach [e, e2] X.env = [(false, eval e X.env), (false, eval e2 X.env)] := by rfl) (hs2 : starEach [e2] X.env = [(false, eval e2 X.env)] := by rfl) : DI X W tg (.Call (.Name "range" p) [e, e2] [] pos) (eB fa rg2) := by
  obtain ⟨t, pa, s⟩ := h
  refine ⟨_, pi_range2 hg hm pa hs hs2, fun F H σ env fp Q sat hp => ?_⟩
  refine s.go sat hp fun ds vs F1 H1 sat1 q _ h1 => ?_
  unfold rg2 at h1
  split at h1
  · obtain ⟨c, h2⟩ := guard_post h1
    obtain ⟨v, w, rfl, w1, w2⟩ := daf2 q
    cases dp_int w1
    cases dp_int w2
    exact ⟨_, _, rfl, c, h2 _ F1 H1 (.refl sat1.fh) (walkF_r _ _)⟩
  · exact h1.elim
theorem di_range3 {e3 : Expr} (hg : Gl X "range") (hm : X.mg "range" = none) (h : DA X W [e, e2, e3] fa) (hs : starEach [e, e2, e3] X.env = (false, eval e X.env) :: starEach [e2, e3] X.env := by rfl) (hs2 : (backTo pos (starEach [e2, e3] X.env)).any (·.1) = false := by rfl) : DI X W tg (.Call (.Name "range" p) [e, e2, e3] [] pos) (eB fa rg3) := by
  obtain ⟨t, pa, s⟩ := h
  refine ⟨_, pi_range3 hg hm pa hs hs2, fun F H σ env fp Q sat hp => ?_⟩
  refine s.go sat hp fun ds vs F1 H1 sat1 q _ h1 => ?_
  unfold rg3 at h1
  split at h1
  · obtain ⟨⟨c, c1, c2, c3, c4⟩, h2⟩ := guard_post h1
    obtain ⟨v, w, u, rfl, w1, w2, w3⟩ := daf3 q
    cases dp_int w1
    cases dp_int w2
    cases dp_int w3
    subst c
    exact ⟨_, _, _, _, rfl, RgC.neg c1 c2 c3 c4, h2 _ F1 H1 (.refl sat1.fh) (walkF_rc _ _ _)⟩
  · exact h1.elim
def sqqD : D → Option (Bool × List D)
  | .list ds => some (false, ds)
  | .tuple ds => some (true, ds)
  | _ => none
theorem sqq_dp {K : PySem.W.Frag} {F : Hp} {v : V} {d : D} {t : Bool} {ds : List D} (h : Dp K F v d) (e : sqqD d = some (t, ds)) : ∃ a vs, v = .ref a ∧ Sqq t K F a vs ∧ DpAll K F vs ds := by
  cases d with
  | list es => cases e; exact dp_lst h
  | tuple es => cases e; exact dp_tup h
  | _ => cases e
def enArg : List D → R (List D)
  | [d] => match sqqD d with
    | some (_, ds) => .ok (enumD 0 ds)
    | none => .no
  | _ => .no
@[simp] theorem enArg_list (ds : List D) : enArg [.list ds] = .ok (enumD 0 ds) := rfl
@[simp] theorem enArg_tup (ds : List D) : enArg [.tuple ds] = .ok (enumD 0 ds) := rfl
def zpArg : List D → R (List D)
  | [d, e] => match sqqD d, sqqD e with
    | some (_, ds), some (_, es) => .ok (zipD ds es)
    | _, _ => .no
  | _ => .no
theorem di_enum {elts : List Expr} {kk : Nat} {tpos : Pos} (hg : Gl X "enumerate") (hm : X.mg "enumerate" = none) (h : DA X W [e] fa) (hs : starEach [e] X.env = [(false, eval e X.env)] := by rfl) : DI X W (.Tuple elts kk tpos) (.Call (.Name "enumerate" p) [e] [] pos) (eB fa enArg) := by
  obtain ⟨t, pa, s⟩ := h
  refine ⟨_, pi_en hg hm pa hs, fun F H σ env fp Q sat hp => ?_⟩
  refine s.go sat hp fun ds vs F1 H1 sat1 q _ h1 => ?_
  unfold enArg at h1
  split at h1
  · split at h1
    · rename_i t es e2
      obtain ⟨v, rfl, w⟩ := daf1 q
      obtain ⟨a, us, rfl, q1, q2⟩ := sqq_dp w e2
      exact ⟨t, a, us, rfl, q1.mono sat1.fh, h1 _ F1 H1 (.refl sat1.fh) (walkF_en q1 q2)⟩
    · exact h1.elim
  · exact h1.elim
theorem di_zip {elts : List Expr} {kk : Nat} {tpos : Pos} (hg : Gl X "zip") (hm : X.mg "zip" = none) (h : DA X W [e, e2] fa) (hs : starEach [e, e2] X.env = (false, eval e X.env) :: starEach [e2] X.env := by rfl)
    (hpl : (backTo pos (starEach [e2] X.env)).any (·.1) = false := by rfl) : DI X W (.Tuple elts kk tpos) (.Call (.Name "zip" p) [e, e2] [] pos) (eB fa zpArg) := by
  obtain ⟨t, pa, s⟩ := h
  refine ⟨_, pi_zp hg hm pa hs hpl, fun F H σ env fp Q sat hp => ?_⟩
  refine s.go sat hp fun ds vs F1 H1 sat1 q _ h1 => ?_
  unfold zpArg at h1
  split at h1
  · split at h1
    · rename_i t es u gs e2 e3
      obtain ⟨v, w, rfl, w1, w2⟩ := daf2 q
      obtain ⟨a, us, rfl, q1, q2⟩ := sqq_dp w1 e2
      obtain ⟨b, us', rfl, q3, q4⟩ := sqq_dp w2 e3
      exact ⟨t, u, a, b, us, us', rfl, q1.mono sat1.fh, q3.mono sat1.fh, h1 _ F1 H1 (.refl sat1.fh) (walkF_zp q1 q2 q3 q4)⟩
    · exact h1.elim
  · exact h1.elim
end
end Mir
end
set_option Elab.async false
set_option linter.all false
set_option maxRecDepth 100000
set_option maxHeartbeats 4000000
noncomputable section
namespace Mir
open PySem PySem.Spec L2

/-! ### a slot stored -/
section
variable {K : PySem.W.Frag} {F H : Hp} {σ : L2.St} {env : Ev} {fp : List Addr}
/-- store an own value; fx: the value's new footprint -/
theorem Sat.put (s : Sat K F H σ env fp) {i : Nat} (hi : i < env.length) {v : V} {o : Ow} {fx : List Addr} (h : OwnAt K F H v o fx) (nd : fx.Nodup) (dj : ∀ b ∈ fx, b ∉ fp) :
    ∃ fp', Sat K F H (σ.set i (some v)) (env.set i (some o)) fp' ∧ ∀ b ∈ fp', b ∈ fx ∨ b ∈ fp := by
  obtain ⟨fr, fo, a1, a2, a3, a4, a5, a6, a7⟩ := s.en.put hi s.nd
  obtain ⟨fp', b1, b2, b3⟩ := (a7 F H [] [] (StepS.of_ext (.refl s.fh) []) fun _ _ => by simp).2 v o fx h nd fun b hb z => dj b hb (a1 b z)
  exact ⟨fp', ⟨s.fh, b3, b1⟩, fun b hb => (b2 b hb).imp id (a1 b)⟩
end

/-! ### targets: ix the slots that are stored -/
def Off (ix : List Nat) (σ σ' : L2.St) : Prop := σ'.length = σ.length ∧ ∀ j, j ∉ ix → σ'[j]? = σ[j]?
theorem Off.refl (σ : L2.St) (ix : List Nat) : Off ix σ σ := ⟨rfl, fun _ _ => rfl⟩
theorem Off.trans {ix jx : List Nat} {σ σ1 σ2 : L2.St} (a : Off ix σ σ1) (b : Off jx σ1 σ2) : Off (ix ++ jx) σ σ2 :=
  ⟨b.1.trans a.1, fun j h => (b.2 j fun z => h (List.mem_append_right _ z)).trans (a.2 j fun z => h (List.mem_append_left _ z))⟩
/-- the reading of a target, by its mirror -/
def tgOf (K : PySem.W.Frag) (ix : List Nat) (g : D → Ev → Option Ev) : TG := fun v σ H Q => ∃ F env fp d env', Sat K F H σ env fp ∧ Dp K F v d ∧ g d env = some env' ∧ ∀ σ' fp', Sat K F H σ' env' fp' → (∀ b ∈ fp', b ∈ fp) → Off ix σ σ' → Q σ' H
def tgsOf (K : PySem.W.Frag) (ix : List Nat) (g : List D → Ev → Option Ev) : TGs := fun v σ H Q => ∃ F env fp d env', Sat K F H σ env fp ∧ DpAll K F v d ∧ g d env = some env' ∧ ∀ σ' fp', Sat K F H σ' env' fp' → (∀ b ∈ fp', b ∈ fp) → Off ix σ σ' → Q σ' H
def DG (X : Cx) (tg : Expr) (ix : List Nat) (g : D → Ev → Option Ev) : Prop := PG X tg (tgOf X.K ix g)
def DGs (X : Cx) (tg : List Expr) (ix : List Nat) (g : List D → Ev → Option Ev) : Prop := PGs X tg (tgsOf X.K ix g)
theorem PG.imp {X : Cx} {tg : Expr} {t t' : TG} (h : PG X tg t) (k : ∀ v σ H Q, t' v σ H Q → t v σ H Q) : PG X tg t' := ⟨fun pins s σ H v u Q I r q => h.run pins s σ H v u Q I r (k v σ H Q q)⟩
theorem PGs.imp {X : Cx} {tg : List Expr} {t t' : TGs} (h : PGs X tg t) (k : ∀ v σ H Q, t' v σ H Q → t v σ H Q) : PGs X tg t' := ⟨fun pins s σ H v u Q I r q => h.run pins s σ H v u Q I r (k v σ H Q q)⟩
def gtName (i : Nat) (d : D) (env : Ev) : Option Ev := if i < env.length then some (env.set i (some (.d d))) else none
def gtNil : List D → Ev → Option Ev
  | [], env => some env
  | _, _ => none
def gtCons (g : D → Ev → Option Ev) (h : List D → Ev → Option Ev) : List D → Ev → Option Ev
  | d :: ds, env => (g d env).bind (h ds)
  | _, _ => none
def gtTup (n : Nat) (h : List D → Ev → Option Ev) : D → Ev → Option Ev
  | .tuple ds, env => if ds.length = n then h ds env else none
  | _, _ => none
section
variable {X : Cx} {e : Expr} {es : List Expr} {pos : Pos}
theorem dg_name (i : Nat) {x : Str} (hN : X.N.Nodup) (hi : X.N[i]? = some x := by rfl) (hx : Loc X.env.scope x := by first | exact Or.inl rfl | exact Or.inr rfl) (hf : X.fn x = true ∨ X.env.scope.names.lookup x = some .local := by first | exact .inl rfl | exact .inr rfl | assumption) : DG X (.Name x pos) [i] (gtName i) := by
  refine PG.imp (pg_name hN hi hx hf) ?_
  rintro v σ H Q ⟨F, env, fp, d, env', sat, hd, he, q⟩
  unfold gtName at he
  split at he
  · cases he
    obtain ⟨fp', s', h'⟩ := sat.put ‹_› (OwnAt.d hd) List.nodup_nil (fun _ z => nomatch z)
    exact q _ fp' s' (fun b hb => (h' b hb).elim (fun z => nomatch z) id) ⟨by simp, fun j hj => List.getElem?_set_ne (fun z => hj (by simp [z]))⟩
  · cases he
theorem dgs_nil : DGs X [] [] gtNil := by
  refine PGs.imp pgs_nil ?_
  rintro v σ H Q ⟨F, env, fp, d, env', sat, hd, he, q⟩
  cases d with
  | nil => cases hd; cases he; exact ⟨rfl, q σ fp sat (fun _ z => z) (.refl _ _)⟩
  | cons d ds => cases he
theorem dgs_cons {ix jx : List Nat} {g : D → Ev → Option Ev} {h : List D → Ev → Option Ev} (h1 : DG X e ix g) (h2 : DGs X es jx h) (hs : (assignEach (e :: es) X.env).map (·.2) = assign e X.env :: (assignEach es X.env).map (·.2) := by rfl) : DGs X (e :: es) (ix ++ jx) (gtCons g h) := by
  refine PGs.imp (pgs_cons h1 h2 hs) ?_
  rintro v σ H Q ⟨F, env, fp, d, env', sat, hd, he, q⟩
  cases d with
  | nil => cases he
  | cons d ds =>
    cases hd with
    | cons d1 d2 =>
      cases e1 : g d env with
      | none => unfold gtCons at he; simp only at he; rw [e1] at he; cases he
      | some env1 =>
        unfold gtCons at he; simp only at he; rw [e1] at he
        refine ⟨_, _, rfl, F, env, fp, d, env1, sat, d1, e1, fun σ1 fp1 sat1 sub1 o1 => ?_⟩
        exact ⟨F, env1, fp1, ds, env', sat1, d2, he, fun σ2 fp2 sat2 sub2 o2 => q σ2 fp2 sat2 (fun b hb => sub1 b (sub2 b hb)) (o1.trans o2)⟩
theorem dg_tup {k n : Nat} {ix : List Nat} {h : List D → Ev → Option Ev} (hc : X.calm = true) (hs : DGs X es ix h) (hn : (assignEach es X.env).length = n := by rfl) (hst : (assignEach es X.env).findIdx? (·.1) = none := by rfl) : DG X (.Tuple es k pos) ix (gtTup n h) := by
  refine PG.imp (pg_tup hc hs hn hst) ?_
  rintro v σ H Q ⟨F, env, fp, d, env', sat, hd, he, q⟩
  unfold gtTup at he
  split at he
  · split at he
    · rename_i ds c
      obtain ⟨a, vs, rfl, h1, h2⟩ := dp_tup hd
      exact ⟨a, vs, rfl, SqT_mono sat.fh h1, (DpAll.len h2).trans c, F, env, fp, ds, env', sat, h2, he, q⟩
    · cases he
  · cases he
end

/-! ### statements -/
inductive SR where
  | no
  | nx (env : Ev)
  | rt (r : Ow) (env : Ev)
  | bk (env : Ev)
  | ct (env : Ev)
  | ex (c : Str) (env : Ev)
def SR.andThen : SR → (Ev → SR) → SR
  | .nx env, f => f env
  | r, _ => r
@[simp] theorem SR.andThen_nx (env : Ev) (f : Ev → SR) : (SR.nx env).andThen f = f env := rfl
@[simp] theorem SR.andThen_rt (r : Ow) (env : Ev) (f : Ev → SR) : (SR.rt r env).andThen f = .rt r env := rfl
@[simp] theorem SR.andThen_ex (c : Str) (env : Ev) (f : Ev → SR) : (SR.ex c env).andThen f = .ex c env := rfl
@[simp] theorem SR.andThen_bk (env : Ev) (f : Ev → SR) : (SR.bk env).andThen f = .bk env := rfl
@[simp] theorem SR.andThen_ct (env : Ev) (f : Ev → SR) : (SR.ct env).andThen f = .ct env := rfl
@[simp] theorem SR.andThen_no (f : Ev → SR) : SR.no.andThen f = .no := rfl
/-- a pure part, then a statement's outcome -/
def R.st {α : Type} (env : Ev) : R α → (α → SR) → SR
  | .no, _ => .no
  | .ok a, f => f a
  | .ex c, _ => .ex c env
@[simp] theorem R.st_ok {α : Type} (env : Ev) (a : α) (f : α → SR) : (R.ok a).st env f = f a := rfl
@[simp] theorem R.st_ex {α : Type} (env : Ev) (c : Str) (f : α → SR) : (R.ex c : R α).st env f = .ex c env := rfl
/-- S: the slots that may be stored -/
def OffS (S : Nat → Bool) (σ σ' : L2.St) : Prop := ∀ j, S j = false → σ'[j]? = σ[j]?
theorem OffS.refl (S : Nat → Bool) (σ : L2.St) : OffS S σ σ := fun _ _ => rfl
theorem OffS.trans {S : Nat → Bool} {σ σ1 σ2 : L2.St} (a : OffS S σ σ1) (b : OffS S σ1 σ2) : OffS S σ σ2 := fun j h => (b j h).trans (a j h)
theorem OffS.set {S : Nat → Bool} {σ : L2.St} {i : Nat} (h : S i = true) (x : Option V) : OffS S σ (σ.set i x) := fun j hj => List.getElem?_set_ne fun z => by rw [z, hj] at h; cases h
theorem OffS.of {S : Nat → Bool} {σ σ' : L2.St} {ix : List Nat} (h : Off ix σ σ') (k : ix.all S = true) : OffS S σ σ' := fun j hj => h.2 j fun z => by
  rw [List.all_eq_true] at k
  rw [k j z] at hj; cases hj
def PostS (X : Cx) (W : WX) (S : Nat → Bool) (σ0 : L2.St) (F H : Hp) (fp : List Addr) (D : Ends) : SR → Prop
  | .no => False
  | .nx env => ∀ σ F' H' fp', OffS S σ0 σ → StepS F H fp F' H' fp' → Sat X.K F' H' σ env fp' → D.nx σ H'
  | .bk env => ∀ σ F' H' fp', OffS S σ0 σ → StepS F H fp F' H' fp' → Sat X.K F' H' σ env fp' → D.bk σ H'
  | .ct env => ∀ σ F' H' fp', OffS S σ0 σ → StepS F H fp F' H' fp' → Sat X.K F' H' σ env fp' → D.ct σ H'
  | .rt r env => ∀ v σ F' H' fx fp', StepS F H fp F' H' (fx ++ fp') → Sat X.K F' H' σ env fp' → OwnAt X.K F' H' v r fx → (fx ++ fp').Nodup → D.rt v H'
  | .ex c env => ∀ C σ F' H' fp', X.mg c = some (.ref C) → OffS S σ0 σ → StepS F H fp F' H' fp' → Sat X.K F' H' σ env fp' → W (.ref C) none σ H'
def SmS (X : Cx) (W : WX) (S : Nat → Bool) (t : TS) (f : Ev → SR) : Prop := ∀ F H σ env fp D, Sat X.K F H σ env fp → PostS X W S σ F H fp D (f env) → t D σ H
def DS (X : Cx) (W : WX) (S : Nat → Bool) (st : Stmt) (f : Ev → SR) : Prop := ∃ t, PS X st t ∧ SmS X W S t f
def DSs (X : Cx) (W : WX) (S : Nat → Bool) (st : List Stmt) (f : Ev → SR) : Prop := ∃ t, PSs X st t ∧ SmS X W S t f
section
variable {X : Cx} {W : WX} {S : Nat → Bool} {σ0 σ1 : L2.St} {F H F1 H1 : Hp} {fp fp1 : List Addr} {D : Ends}
theorem PostS.step {r : SR} (h : PostS X W S σ0 F H fp D r) (o : OffS S σ0 σ1) (s : StepS F H fp F1 H1 fp1) : PostS X W S σ1 F1 H1 fp1 D r := by
  cases r with
  | no => exact h
  | nx env => exact fun σ F' H' fp' o' s' => h σ F' H' fp' (o.trans o') (s.trans s')
  | bk env => exact fun σ F' H' fp' o' s' => h σ F' H' fp' (o.trans o') (s.trans s')
  | ct env => exact fun σ F' H' fp' o' s' => h σ F' H' fp' (o.trans o') (s.trans s')
  | rt r env => exact fun v σ F' H' fx fp' s' => h v σ F' H' fx fp' (s.trans s')
  | ex c env => exact fun C σ F' H' fp' m o' s' => h C σ F' H' fp' m (o.trans o') (s.trans s')
theorem PostS.ext {r : SR} (h : PostS X W S σ0 F H fp D r) (e : Ext F H F1 H1) : PostS X W S σ0 F1 H1 fp D r := h.step (.refl _ _) (StepS.of_ext e fp)
theorem PostS.sub {S' : Nat → Bool} {r : SR} (h : PostS X W S σ0 F H fp D r) (k : ∀ j, S j = false → S' j = false) : PostS X W S' σ0 F H fp D r := by
  have o : ∀ {σ : L2.St}, OffS S' σ0 σ → OffS S σ0 σ := fun o j hj => o j (k j hj)
  cases r with
  | no => exact h
  | nx env => exact fun σ F' H' fp' o' s' => h σ F' H' fp' (o o') s'
  | bk env => exact fun σ F' H' fp' o' s' => h σ F' H' fp' (o o') s'
  | ct env => exact fun σ F' H' fp' o' s' => h σ F' H' fp' (o o') s'
  | rt r env => exact h
  | ex c env => exact fun C σ F' H' fp' m o' s' => h C σ F' H' fp' m (o o') s'
/-- a pure part within a statement -/
theorem Sm.st {α β : Type} {P : Hp → α → β → Hp → Hp → Prop} {t : L2.St → Hp → (β → Hp → Prop) → Prop} {f : Ev → R α} (s : Sm X W P t f) {g : α → SR} {σ : L2.St} {env : Ev} {T : β → Hp → Prop} (sat : Sat X.K F H σ env fp)
    (h : PostS X W S σ F H fp D ((f env).st env g)) (k : ∀ a v F1 H1, Sat X.K F1 H1 σ env fp → P H a v F1 H1 → Ext F H F1 H1 → PostS X W S σ F1 H1 fp D (g a) → T v H1) : t σ H T := by
  refine s F H σ env fp T sat ?_
  cases e : f env with
  | no => rw [e] at h; exact h
  | ok a =>
    rw [e] at h
    exact fun v F' H' x p => k a v F' H' (sat.ext x) p x (PostS.ext (show PostS X W S σ F H fp D (g a) from h) x)
  | ex c =>
    rw [e] at h
    exact fun C F' H' m x => h C σ F' H' fp m (.refl _ _) (StepS.of_ext x fp) (sat.ext x)
end
section
variable {X : Cx} {W : WX} {S : Nat → Bool} {st : Stmt} {sts : List Stmt} {e : Expr} {pos : Pos} {fs gs : Ev → SR}
def sSkip (env : Ev) : SR := .nx env
def sSeq (f g : Ev → SR) (env : Ev) : SR := (f env).andThen g
theorem dss_nil : DSs X W S [] sSkip := ⟨_, pss_nil, fun F H σ env fp D sat h => h σ F H fp (.refl _ _) (StepS.of_ext (.refl sat.fh) fp) sat⟩
theorem dss_one (h : DS X W S st fs) : DSs X W S [st] fs := by
  obtain ⟨t, p, s⟩ := h
  exact ⟨_, pss_one p, s⟩
theorem seq_sm {t u : TS} (s : SmS X W S t fs) (s' : SmS X W S u gs) : SmS X W S (tSeq t u) (sSeq fs gs) := by
  intro F H σ env fp D sat h
  refine s F H σ env fp _ sat ?_
  unfold sSeq at h
  cases e : fs env with
  | no => rw [e] at h; exact h
  | nx env1 =>
    rw [e] at h
    exact fun σ1 F1 H1 fp1 o1 st1 sat1 => s' F1 H1 σ1 env1 fp1 D sat1 (PostS.step (show PostS X W S σ F H fp D (gs env1) from h) o1 st1)
  | bk env1 => rw [e] at h; exact h
  | ct env1 => rw [e] at h; exact h
  | rt r env1 => rw [e] at h; exact h
  | ex c env1 => rw [e] at h; exact h
theorem dss_cons (h : DS X W S st fs) (h2 : DSs X W S sts gs) : DSs X W S (st :: sts) (sSeq fs gs) := by
  obtain ⟨t, p, s⟩ := h
  obtain ⟨t', p', s'⟩ := h2
  exact ⟨_, pss_cons p p', seq_sm s s'⟩
theorem ds_pass : DS X W S (.Pass pos) sSkip := ⟨_, ps_pass, fun F H σ env fp D sat h => h σ F H fp (.refl _ _) (StepS.of_ext (.refl sat.fh) fp) sat⟩
theorem ds_doc {x j pos'} : DS X W S (.Expr (.Constant (.str x) j pos) pos') sSkip := ⟨_, ps_doc, fun F H σ env fp D sat h => h σ F H fp (.refl _ _) (StepS.of_ext (.refl sat.fh) fp) sat⟩
def sBreak (env : Ev) : SR := .bk env
def sCont (env : Ev) : SR := .ct env
theorem ds_break : DS X W S (.Break pos) sBreak := ⟨_, ps_break, fun F H σ env fp D sat h => h σ F H fp (.refl _ _) (StepS.of_ext (.refl sat.fh) fp) sat⟩
theorem ds_cont : DS X W S (.Continue pos) sCont := ⟨_, ps_continue, fun F H σ env fp D sat h => h σ F H fp (.refl _ _) (StepS.of_ext (.refl sat.fh) fp) sat⟩
/-- name = e -/
def sSet (i : Nat) (f : Ev → R Ow) (env : Ev) : SR := (f env).st env fun r => if i < env.length then .nx (env.set i (some r)) else .no
theorem fresh_dj {K : PySem.W.Frag} {H F' H' : Hp} {F : Hp} {σ : L2.St} {env : Ev} {fp fx : List Addr} (sat : Sat K F H σ env fp) (n : ∀ b ∈ fx, H b = none) : ∀ b ∈ fx, b ∉ fp := fun b hb z => by
  obtain ⟨_, vs, e⟩ := sat.en.there b z
  rw [n b hb] at e
  cases e
theorem put_step {K : PySem.W.Frag} {F H F1 H1 : Hp} {σ : L2.St} {env : Ev} {fp fx : List Addr} {i : Nat} {v : V} {r : Ow} (sat : Sat K F H σ env fp) (x : Ext F H F1 H1) (h : OwnAt K F1 H1 v r fx) (nd : fx.Nodup) (n : ∀ b ∈ fx, H b = none) (hi : i < env.length) :
    ∃ fp', StepS F H fp F1 H1 fp' ∧ Sat K F1 H1 (σ.set i (some v)) (env.set i (some r)) fp' := by
  obtain ⟨fp', s', h'⟩ := (sat.ext x).put hi h nd (fresh_dj (F' := F) (H' := H) sat n)
  exact ⟨fp', ⟨x.ff, fun b o e _ => x.hh b o e, fun b o e => (x.fn b o e).imp id .inr, fun b hb => (h' b hb).elim (fun z => .inr (n b z)) .inl⟩, s'⟩
theorem ds_set {f : Ev → R Ow} {x : Str} {pos' : Pos} (i : Nat) (hN : X.N.Nodup) (he : DE X W e f) (hi : X.N[i]? = some x := by rfl) (hx : Loc X.env.scope x := by first | exact Or.inl rfl | exact Or.inr rfl)
    (hs : swapsWith e (some (.Name x pos')) pos.line X.env = pure false := by rfl) (hf : X.fn x = true ∨ X.env.scope.names.lookup x = some .local := by first | exact .inl rfl | exact .inr rfl | assumption) (hS : S i = true := by rfl) : DS X W S (.Assign [.Name x pos'] e pos) (sSet i f) := by
  obtain ⟨t, p, s⟩ := he
  refine ⟨_, ps_set hN hi hx p hs hf, fun F H σ env fp D sat h => ?_⟩
  refine s F H σ env fp _ sat ?_
  unfold sSet at h
  cases e : f env with
  | no => rw [e] at h; exact h
  | ex c => rw [e] at h; exact fun C F' H' m x => h C σ F' H' fp m (.refl _ _) (StepS.of_ext x fp) (sat.ext x)
  | ok r =>
    rw [e] at h
    intro v F' H' x ⟨fx, q, nd, n⟩
    have h' : PostS X W S σ F H fp D (if i < env.length then .nx (env.set i (some r)) else .no) := h
    split at h'
    · obtain ⟨fp', s1, s2⟩ := put_step sat x q nd n ‹_›
      exact h' _ F' H' fp' (.set hS _) s1 s2
    · exact h'.elim
/-- targets = e, e frozen -/
def sAsg (g : D → Ev → Option Ev) (f : Ev → R D) (env : Ev) : SR := (f env).st env fun d => match g d env with
  | some env' => .nx env'
  | none => .no
theorem ds_asg {f : Ev → R D} {g : D → Ev → Option Ev} {tg : Expr} {ix : List Nat} (he : DF X W e f) (hg : DG X tg ix g) (hs : swapsWithSole [tg] e pos.line X.env = pure false := by rfl) (hw : swappedStores [tg] e X.env = pure none := by rfl)
    (h1 : (assignEach [tg] X.env).map (·.2) = [assign tg X.env] := by rfl) (hS : ix.all S = true := by rfl) : DS X W S (.Assign [tg] e pos) (sAsg g f) := by
  obtain ⟨t, p, s⟩ := he
  refine ⟨_, ps_asg p hg hs hw h1, fun F H σ env fp D sat h => ?_⟩
  refine s.st sat h fun d v F1 H1 sat1 q _ h1 => ?_
  split at h1
  · rename_i env' e
    exact ⟨F1, env, fp, d, env', sat1, q, e, fun σ' fp' sat' sub off => h1 σ' F1 H1 fp' (.of off hS) ((StepS.of_ext (.refl sat1.fh) fp).subset sub) sat'⟩
  · exact h1.elim
/-- an expression whose value is dropped -/
def sDrop (f : Ev → R D) (env : Ev) : SR := (f env).st env fun _ => .nx env
theorem ds_expr {f : Ev → R D} (he : DF X W e f) (hs : swapsWith e none pos.line X.env = pure false := by rfl) : DS X W S (.Expr e pos) (sDrop f) := by
  obtain ⟨t, p, s⟩ := he
  refine ⟨_, ps_expr p hs, fun F H σ env fp D sat h => ?_⟩
  exact s.st sat h fun d v F1 H1 sat1 q _ h1 => h1 σ F1 H1 fp (.refl _ _) (StepS.of_ext (.refl sat1.fh) fp) sat1
def sRet (f : Ev → R Ow) (env : Ev) : SR := (f env).st env fun r => .rt r env
theorem ds_ret {f : Ev → R Ow} (he : DE X W e f) : DS X W S (.Return (some e) pos) (sRet f) := by
  obtain ⟨t, p, s⟩ := he
  refine ⟨_, ps_ret p, fun F H σ env fp D sat h => ?_⟩
  refine s F H σ env fp _ sat ?_
  unfold sRet at h
  cases e : f env with
  | no => rw [e] at h; exact h
  | ex c => rw [e] at h; exact fun C F' H' m x => h C σ F' H' fp m (.refl _ _) (StepS.of_ext x fp) (sat.ext x)
  | ok r =>
    rw [e] at h
    intro v F' H' x ⟨fx, q, nd, n⟩
    have dj := fresh_dj (F' := F) (H' := H) sat n
    refine h v σ F' H' fx fp ⟨x.ff, fun b o e _ => x.hh b o e, fun b o e => (x.fn b o e).imp id .inr, fun b hb => ?_⟩ (sat.ext x) q ?_
    · rcases List.mem_append.mp hb with z | z
      · exact .inr (n b z)
      · exact .inl z
    · rw [List.nodup_append]; exact ⟨nd, sat.nd, fun a ha b hb e => dj a ha (e ▸ hb)⟩
def sRetN (env : Ev) : SR := .rt (.d .none) env
theorem ds_retN : DS X W S (.Return none pos) sRetN := ⟨_, ps_retN, fun F H σ env fp D sat h => h _ σ F H [] fp (StepS.of_ext (.refl sat.fh) fp) sat (.d .non) sat.nd⟩
/-- return x, x given away -/
def sRetV (i : Nat) (env : Ev) : SR := match env[i]? with
  | some (some o) => .rt o (env.set i none)
  | _ => .no
theorem ds_retV (i : Nat) {x : Str} {pos' : Pos} (hN : X.N[i]? = some x := by rfl) (hv : Vis X.env.scope x := by first | exact Or.inl rfl | exact Or.inr (Or.inl rfl) | exact Or.inr (Or.inr rfl)) (hd : (x == ("__debug__" : Str)) = false := by decide)
    (hcd : (x == ("__classdict__" : Str)) = false := by decide) : DS X W S (.Return (some (.Name x pos')) pos) (sRetV i) := by
  refine ⟨_, ps_ret (pe_var hN hv hd hcd), fun F H σ env fp D sat h => ?_⟩
  unfold sRetV at h
  split at h
  · rename_i o he
    have hi : i < env.length := (List.getElem?_eq_some_iff.mp he).1
    obtain ⟨fr, fo, a1, a2, a3, a3', a4, a5, a6⟩ := sat.en.put hi sat.nd
    obtain ⟨v, e1, e2⟩ := a5 o he
    have e3 := (a6 F H [] [] (StepS.of_ext (.refl sat.fh) []) fun _ _ => by simp).1 none
    refine ⟨v, e1, h v _ F H fo fr ((StepS.of_ext (.refl sat.fh) fp).subset fun b hb => ?_) ⟨sat.fh, e3, a3⟩ e2 ?_⟩
    · exact (List.mem_append.mp hb).elim (a2 b) (a1 b)
    · rw [List.nodup_append]; exact ⟨a3', a3, fun a ha b hb e => a4 a ha (e ▸ hb)⟩
  · exact h.elim
/-- a def's own list made data, ahead of a statement -/
def frzV (i : Nat) (env : Ev) : Ev := match env[i]? with
  | some (some o) => env.set i (some (.d (viewD o)))
  | _ => env
theorem frz_sat {K : PySem.W.Frag} {F H : Hp} {σ : L2.St} {env : Ev} {fp : List Addr} (i : Nat) (sat : Sat K F H σ env fp) : ∃ F' fp', StepS F H fp F' H fp' ∧ Sat K F' H σ (frzV i env) fp' := by
  unfold frzV
  split
  · rename_i o he
    have hi : i < env.length := (List.getElem?_eq_some_iff.mp he).1
    obtain ⟨fr, fo, a1, a2, a3, a3', a4, a5, a6⟩ := sat.en.put hi sat.nd
    obtain ⟨v, e1, e2⟩ := a5 o he
    have nx : ∀ b ∈ fo, F b = none := fun b hb => (OwnAt.there _ _ _ e2 b hb).1
    have st : StepS F H fo (frzAt F H fo) H [] := ⟨frzAt_same nx, fun b o e _ => e, fun b o e => (frzAt_of e).imp id .inl, fun b z => nomatch z⟩
    obtain ⟨fp', b1, b2, b3⟩ := (a6 (frzAt F H fo) H fo [] st fun b hb z => a4 b z hb).2 v _ [] (.d (OwnAt.frz nx _ _ _ e2 fun _ z => z)) List.nodup_nil (fun _ z => nomatch z)
    have es : σ.set i (some v) = σ := by
      refine List.ext_getElem? fun j => ?_
      by_cases hj : i = j
      · subst hj
        rw [List.getElem?_set_self (by rw [sat.en.len]; exact hi)]
        exact e1.symm
      · rw [List.getElem?_set_ne hj]
    rw [es] at b3
    exact ⟨_, fp', ⟨frzAt_same nx, fun b o e _ => e, fun b o e => (frzAt_of e).imp id fun z => .inl (a2 b z), fun b hb => .inl ((b2 b hb).elim (fun z => nomatch z) (a1 b))⟩, ⟨frzAt_in sat.fh, b3, b1⟩⟩
  · exact ⟨F, fp, StepS.of_ext (.refl sat.fh) fp, sat⟩
def sFrz (i : Nat) (f : Ev → SR) (env : Ev) : SR := f (frzV i env)
theorem frz_sm {t : TS} (i : Nat) (s : SmS X W S t fs) : SmS X W S t (sFrz i fs) := by
  intro F H σ env fp D sat h
  obtain ⟨F', fp', s1, s2⟩ := frz_sat i sat
  exact s F' H σ _ fp' D s2 (PostS.step h (.refl _ _) s1)
theorem ds_frz (i : Nat) (h : DS X W S st fs) : DS X W S st (sFrz i fs) := by
  obtain ⟨t, p, s⟩ := h
  exact ⟨t, p, frz_sm i s⟩
def sIf (c : Ev → R Bool) (f g : Ev → SR) (env : Ev) : SR := (c env).st env fun b => if b = true then f env else g env
theorem ds_if {c : Expr} {a b : List Stmt} {fc : Ev → R Bool} (hc : DT X W c fc) (ha : DSs X W S a fs) (hb : DSs X W S b gs) : DS X W S (.If c a b pos) (sIf fc fs gs) := by
  obtain ⟨t, p, s⟩ := hc
  obtain ⟨ta, pa, sa⟩ := ha
  obtain ⟨tb, pb, sb⟩ := hb
  refine ⟨_, ps_if p pa pb, fun F H σ env fp D sat h => ?_⟩
  refine s.st sat h fun k v F1 H1 sat1 q _ h1 => ?_
  obtain rfl : v = k := q
  cases v with
  | true => exact sa F1 H1 σ env fp D sat1 h1
  | false => exact sb F1 H1 σ env fp D sat1 h1
/-- for target in ..: body -/
def forL (g : D → Ev → Option Ev) (f : Ev → SR) : List D → Ev → SR
  | [], env => .nx env
  | d :: ds, env => match g d env with
    | none => .no
    | some env1 => match f env1 with
      | .nx env2 => forL g f ds env2
      | .ct env2 => forL g f ds env2
      | .bk env2 => .nx env2
      | .rt r env2 => .rt r env2
      | .ex c env2 => .ex c env2
      | .no => .no
def sFor (it : Ev → R (List D)) (g : D → Ev → Option Ev) (f : Ev → SR) (env : Ev) : SR := (it env).st env fun ds => forL g f ds env
theorem ds_for {tg iter : Expr} {body : List Stmt} {fi : Ev → R (List D)} {g : D → Ev → Option Ev} (hp : PassesOwn (model X.prog X.w) X.A X.env X.xe) (hc : X.calm = true) {ix : List Nat} (hi : DI X W tg iter fi) (hg : DG X tg ix g) (hb : DSs X W S body fs)
    (hs : ∀ x, foldedSetIterable iter X.env x = pure x := by intro _; rfl) (hS : ix.all S = true := by rfl) : DS X W S (.For tg iter body [] pos) (sFor fi g fs) := by
  obtain ⟨wi, pi, si⟩ := hi
  obtain ⟨tb, pb, sb⟩ := hb
  refine ⟨_, ps_for hp hc pi hg pb hs, fun F H σ env fp D sat h => ?_⟩
  refine si.st sat h fun items J F1 H1 sat1 wk _ h1 => ?_
  have wk : WalkF X.K J F1 items := wk
  refine ⟨fun i m σ' H' => m = items.length - i ∧ i ≤ items.length ∧ ∃ F' env' fp', Same F1 F' ∧ Sat X.K F' H' σ' env' fp' ∧ PostS X W S σ' F' H' fp' D (forL g fs (items.drop i) env'),
    ⟨items.length, by simp, Nat.zero_le _, F1, env, fp, Same.refl _, sat1, h1⟩, ?_⟩
  rintro i m σ' H' ⟨rfl, hi, F', env', fp', st, sat', h2⟩
  by_cases hlt : i < items.length
  · refine .inr ⟨wk.go i F' H' hlt st sat'.fh, fun σ2 H2 => ∃ F2 env2 fp2, Same F1 F2 ∧ Sat X.K F2 H2 σ2 env2 fp2 ∧ PostS X W S σ2 F2 H2 fp2 D (forL g fs (items.drop (i + 1)) env2), ?_, ?_⟩
    · rintro σ2 H2 ⟨F2, env2, fp2, a, b, c⟩
      exact ⟨items.length - (i + 1), by omega, rfl, hlt, F2, env2, fp2, a, b, c⟩
    · intro x H3 y
      obtain ⟨d, F3, e1, x3, dp⟩ := wk.yld i F' H' x H3 hlt st sat'.fh y
      have ed : items.drop i = d :: items.drop (i + 1) := by
        rw [List.drop_eq_getElem_cons hlt]
        have : items[i] = d := by rw [List.getElem?_eq_getElem hlt] at e1; exact Option.some.inj e1
        rw [this]
      rw [ed] at h2
      unfold forL at h2
      cases eg : g d env' with
      | none => rw [eg] at h2; exact h2.elim
      | some env1 =>
        rw [eg] at h2
        simp only at h2
        refine ⟨F3, env', fp', d, env1, sat'.ext x3, dp, eg, fun σ4 fp4 sat4 sub4 off4 => ?_⟩
        have st4 : StepS F' H' fp' F3 H3 fp4 := (StepS.of_ext x3 fp').subset sub4
        have h4 := PostS.step h2 (.of off4 hS) st4
        refine sb F3 H3 σ4 env1 fp4 _ sat4 ?_
        cases ef : fs env1 with
        | no => rw [ef] at h4; exact h4
        | nx env2 => rw [ef] at h4; exact fun σ5 F5 H5 fp5 o5 s5 sat5 => ⟨F5, env2, fp5, st.trans (x3.ff.trans s5.ff), sat5, PostS.step h4 o5 s5⟩
        | ct env2 => rw [ef] at h4; exact fun σ5 F5 H5 fp5 o5 s5 sat5 => ⟨F5, env2, fp5, st.trans (x3.ff.trans s5.ff), sat5, PostS.step h4 o5 s5⟩
        | bk env2 => rw [ef] at h4; exact h4
        | rt r env2 => rw [ef] at h4; exact h4
        | ex c env2 => rw [ef] at h4; exact h4
  · have e : i = items.length := by omega
    subst e
    rw [List.drop_length] at h2
    exact .inl ⟨wk.stop F' H' st sat'.fh, h2 σ' F' H' fp' (.refl _ _) (StepS.of_ext (.refl sat'.fh) fp') sat'⟩
/-- while c: body, at most n turns -/
def whileN (c : Ev → R Bool) (f : Ev → SR) : Nat → Ev → SR
  | 0, _ => .no
  | n + 1, env => (c env).st env fun b => if b = true then (match f env with
      | .nx env2 => whileN c f n env2
      | .ct env2 => whileN c f n env2
      | .bk env2 => .nx env2
      | .rt r env2 => .rt r env2
      | .ex c env2 => .ex c env2
      | .no => .no) else .nx env
theorem ds_while {c : Expr} {body : List Stmt} {fc : Ev → R Bool} (n : Nat) (hp : PassesOwn (model X.prog X.w) X.A X.env X.xe) (hc : DT X W c fc) (hb : DSs X W S body fs) : DS X W S (.While c body [] pos) (whileN fc fs n) := by
  obtain ⟨tc, pc, sc⟩ := hc
  obtain ⟨tb, pb, sb⟩ := hb
  refine ⟨_, ps_while hp pc pb, fun F H σ env fp D sat h => ?_⟩
  refine ⟨fun m σ' H' => ∃ F' env' fp', Sat X.K F' H' σ' env' fp' ∧ PostS X W S σ' F' H' fp' D (whileN fc fs m env'), ⟨n, F, env, fp, sat, h⟩, ?_⟩
  rintro m σ' H' ⟨F', env', fp', sat', h2⟩
  cases m with
  | zero => exact h2.elim
  | succ m =>
    unfold whileN at h2
    refine sc.st sat' h2 fun k v F1 H1 sat1 q x1 h3 => ?_
    obtain rfl : v = k := q
    cases v with
    | false => exact h3 σ' F1 H1 fp' (.refl _ _) (StepS.of_ext (.refl sat1.fh) fp') sat1
    | true =>
      rw [if_pos rfl] at h3 ⊢
      refine ⟨fun σ5 H5 => ∃ F5 env2 fp5, Sat X.K F5 H5 σ5 env2 fp5 ∧ PostS X W S σ5 F5 H5 fp5 D (whileN fc fs m env2), fun σ5 H5 z => ⟨m, Nat.lt_succ_self m, z⟩, ?_⟩
      refine sb F1 H1 σ' env' fp' _ sat1 ?_
      cases ef : fs env' with
      | no => rw [ef] at h3; exact h3
      | nx env2 => rw [ef] at h3; exact fun σ5 F5 H5 fp5 o5 s5 sat5 => ⟨F5, env2, fp5, sat5, PostS.step h3 o5 s5⟩
      | ct env2 => rw [ef] at h3; exact fun σ5 F5 H5 fp5 o5 s5 sat5 => ⟨F5, env2, fp5, sat5, PostS.step h3 o5 s5⟩
      | bk env2 => rw [ef] at h3; exact h3
      | rt r env2 => rw [ef] at h3; exact h3
      | ex c env2 => rw [ef] at h3; exact h3
end
end Mir
end
set_option Elab.async false
set_option linter.all false
set_option maxRecDepth 100000
set_option maxHeartbeats 4000000
noncomputable section
namespace Mir
open PySem PySem.Spec L2

/-! ### a def's promise, by its mirror -/
def PostF (K : PySem.W.Frag) (mg : Str → Option Value) (F H : Hp) : R Ow → VK → XK → Prop
  | .no, _, _ => False
  | .ok r, Q, _ => ∀ v F' H', Ext F H F' H' → POw K H r v F' H' → Q v H'
  | .ex c, _, E => ∀ C F' H', mg c = some (.ref C) → Ext F H F' H' → E (.ref C) none H'
def spM (K : PySem.W.Frag) (mg : Str → Option Value) (n : Nat) (m : List D → R Ow) : Sp := fun vs H Q E => ∃ F ds, Same F H ∧ DpAll K F vs ds ∧ ds.length = n ∧ PostF K mg F H (m ds) Q E
theorem spM_len {K : PySem.W.Frag} {mg : Str → Option Value} {n : Nat} {m : List D → R Ow} {vs : List V} {H : Hp} {Q : VK} {E : XK} (h : spM K mg n m vs H Q E) : vs.length = n := by
  obtain ⟨F, ds, _, h1, h2, _⟩ := h
  rw [DpAll.len h1, h2]
def envOf (k : Nat) (ds : List D) : Ev := ds.map (fun d => some (Ow.d d)) ++ List.replicate k none
def runB (k : Nat) (f : Ev → SR) (ds : List D) : R Ow := match f (envOf k ds) with
  | .nx _ => .ok (.d .none)
  | .rt r _ => .ok r
  | .ex c _ => .ex c
  | _ => .no
theorem env_start {K : PySem.W.Frag} {F H : Hp} (k : Nat) : ∀ {vs : List V} {ds : List D}, DpAll K F vs ds → EnvAt K F H (vs.map some ++ List.replicate k none) (envOf k ds) []
  | vs, [], h => by
    cases h
    show EnvAt K F H (List.replicate k none) (List.replicate k none) []
    induction k with
    | zero => exact .nil
    | succ k ih => exact .non ih
  | vs, d :: ds, h => by
    cases h with
    | cons h1 h2 => exact .som (fp := []) (.d h1) (env_start k h2)
section
variable {P : Program} {w : World} {K : PySem.W.Frag} {mg : Str → Option Value} {base : Heap}
theorem mk_fn {x qual : Str} {st : Stmt} {f : Addr} {fd : FuncData} {N ps : List Str} {k l : Nat} {fb : Ev → SR} {m : List D → R Ow} (F : Fun K x qual st f fd) (S : FnScope N ps (defScope st)) (hl : N.length = ps.length + l) (hm : ∀ ds, m ds = runB l fb ds)
    (hb : ∀ (cdv : Value) (A : Around) (outer : List Env) (s : Shared) (H : Hp) (E : XK), Room k (A.deeper (PyProof.Rows.envOfC qual (defScope st) s.heap.objs.size f cdv)) →
      DSs (cxOf (L2.CX P w) P w K mg base N qual (defScope st) f cdv A outer s H E) (fun cls d _ H => E cls d H) (fun _ => true) (defBody st) fb) : FnOk P w K mg base (L2.CX P w) (k + 1) f fd ps (spM K mg ps.length m) := by
  refine F.okX S (fun vs H Q E h => spM_len h) (fun cdv A outer s H vs Q E hr h => ?_)
  obtain ⟨t, p, sm⟩ := hb cdv A outer s H E hr
  refine ⟨t, p, ?_⟩
  have hlen := spM_len h
  obtain ⟨F0, ds, s1, s2, s3, s4⟩ := h
  have e0 : start N vs = vs.map some ++ List.replicate l none := by
    show vs.map some ++ List.replicate (N.length - vs.length) none = _
    rw [hl, hlen, Nat.add_sub_cancel_left]
  rw [e0]
  have sat : Sat K F0 H (vs.map some ++ List.replicate l none) (envOf l ds) [] := ⟨s1, env_start l s2, List.nodup_nil⟩
  rw [hm] at s4
  unfold runB at s4
  have ext : ∀ {F' H' : Hp} {fp' : List Addr}, StepS F0 H [] F' H' fp' → Same F' H' → Ext F0 H F' H' := fun st sf => ⟨st.ff, fun b o e => st.fr b o e (by simp), fun b o e => (st.fn b o e).imp id fun z => z.elim (fun z => nomatch z) id, sf⟩
  refine sm F0 H _ _ [] _ sat ?_
  cases e : fb (envOf l ds) with
  | no => rw [e] at s4; exact s4
  | bk env => rw [e] at s4; exact s4.elim
  | ct env => rw [e] at s4; exact s4.elim
  | nx env => rw [e] at s4; exact fun σ' F' H' fp' _ st sat' => s4 .non F' H' (ext st sat'.fh) (own_d .non)
  | rt r env =>
    rw [e] at s4
    intro v σ' F' H' fx fp' st sat' ow nd
    refine s4 v F' H' (ext st sat'.fh) ⟨fx, ow, (List.nodup_append.mp nd).1, fun b hb => ?_⟩
    exact (st.sub b (List.mem_append_left _ hb)).elim (fun z => nomatch z) id
  | ex c env => rw [e] at s4; exact fun C σ' F' H' fp' m _ st sat' => s4 C F' H' m (ext st sat'.fh)
end
section
variable {X : Cx} {W : WX} {e : Expr} {es : List Expr} {pos p : Pos}
theorem de_call {k n : Nat} {f : Addr} {fd : FuncData} {ps : List Str} {x : Str} {m : List D → R Ow} {fa : Ev → R (List D)} (F : FnOk X.prog X.w X.K X.mg X.base (L2.CX X.prog X.w) k f fd ps (spM X.K X.mg n m)) (tk : Takes X W) (hr : Room k X.A) (hg : Gl X x) (hm : X.mg x = some (.ref f))
    (hk : PySem.W.keepIn X.K (.ref f) = true) (hb : Binds X.K fd ps []) (ha : DA X W (e :: es) fa) (hn : ∀ ds env, fa env = .ok ds → ds.length = n)
    (hdb : (x == ("__debug__" : Str)) = false := by decide) (he : starEach (e :: es) X.env = (false, eval e X.env) :: starEach es X.env := by rfl) (hpl : (backTo pos (starEach es X.env)).any (·.1) = false := by rfl) :
    DE X W (.Call (.Name x p) (e :: es) [] pos) (eB fa m) := by
  obtain ⟨t, pa, s⟩ := ha
  refine ⟨_, pe_callS F hr hg hm hk hb (fun σ => passAt tk σ) pa hdb he hpl, fun F0 H σ env fp Q sat hp => ?_⟩
  refine s.choose sat hp (fun z => z _) fun ds ed k => k _ fun vs F1 H1 sat1 q _ h1 => ?_
  refine ⟨F1, ds, sat1.fh, q, hn ds env ed, ?_⟩
  cases em : m ds with
  | no => rw [em] at h1; exact h1
  | ok r => rw [em] at h1; exact h1
  | ex c => rw [em] at h1; exact h1
theorem aNil_len {ds : List D} {env : Ev} (h : aNil env = .ok ds) : ds.length = 0 := by cases h; rfl
theorem aCons_len {n : Nat} {f : Ev → R D} {g : Ev → R (List D)} (ih : ∀ ds env, g env = .ok ds → ds.length = n) : ∀ ds env, aCons f g env = .ok ds → ds.length = n + 1 := fun ds env h => by
  unfold aCons at h
  cases e1 : f env with
  | no => rw [e1] at h; cases h
  | ex c => rw [e1] at h; cases h
  | ok d =>
    rw [e1] at h
    have h' : (g env).map (fun ds => d :: ds) = .ok ds := h
    cases e2 : g env with
    | no => rw [e2] at h'; cases h'
    | ex c => rw [e2] at h'; cases h'
    | ok es =>
      rw [e2] at h'
      cases h'
      simp [ih es env e2]

/-! ### list comprehensions -/
/-- the reading that a mirror is -/
def tOf (K : PySem.W.Frag) (Pst : Hp → Hp → L2.St → R α → (β → Hp → Prop) → Prop) (f : Ev → R α) : L2.St → Hp → (β → Hp → Prop) → Prop := fun σ H Q => ∃ F env fp, Sat K F H σ env fp ∧ Pst F H σ (f env) Q
def W0 : WX := fun _ _ _ _ => False
theorem PE.imp {X : Cx} {e : Expr} {t t' : TE} (h : PE X e t) (k : ∀ σ H Q, t' σ H Q → t σ H Q) : PE X e t' := ⟨fun pins s σ H Q I q => h.run pins s σ H Q I (k σ H Q q)⟩
theorem PTs.imp {X : Cx} {e : List Expr} {t t' : TT} (h : PTs X e t) (k : ∀ σ H Q, t' σ H Q → t σ H Q) : PTs X e t' := ⟨fun pins s σ H Q I q => h.run pins s σ H Q I (k σ H Q q)⟩
theorem DE.can {X : Cx} {W : WX} {e : Expr} {f : Ev → R Ow} (h : DE X W e f) : PE X e (tOf X.K (Post X W (POw X.K)) f) := by
  obtain ⟨t, p, s⟩ := h
  refine PE.imp p ?_
  rintro σ H Q ⟨F, env, fp, sat, h⟩
  exact s F H σ env fp Q sat h
/-- a clause's tests -/
def DTs (X : Cx) (W : WX) (ifs : List Expr) (f : Ev → R Bool) : Prop := ∃ t, PTs X ifs t ∧ Sm X W PTb t f
def cYes (_ : Ev) : R Bool := .ok true
theorem dts_nil : DTs X W [] cYes := ⟨_, pts_nil, fun F H σ env fp Q sat h => h true F H (.refl sat.fh) rfl⟩
theorem dts_one {f : Ev → R Bool} (h : DT X W e f) : DTs X W [e] f := by
  obtain ⟨t, p, s⟩ := h
  exact ⟨_, pts_one p, s⟩
theorem DTs.can {X : Cx} {W : WX} {e : List Expr} {f : Ev → R Bool} (h : DTs X W e f) : L2.PTs X e (tOf X.K (Post X W PTb) f) := by
  obtain ⟨t, p, s⟩ := h
  refine PTs.imp p ?_
  rintro σ H Q ⟨F, env, fp, sat, h⟩
  exact s F H σ env fp Q sat h
def wipeE (env : Ev) : List Nat → Ev
  | [] => env
  | v :: vs => (wipeE env vs).set v none
theorem set_none_len {α : Type} {l : List (Option α)} {i : Nat} (h : ¬ i < l.length) (x : Option α) : l.set i x = l := List.set_eq_of_length_le (by omega)
theorem wipe_sat {K : PySem.W.Frag} {F H : Hp} {σ : L2.St} {env : Ev} {fp : List Addr} (sat : Sat K F H σ env fp) : ∀ vs : List Nat, ∃ fp', Sat K F H (wipe σ vs) (wipeE env vs) fp' ∧ ∀ b ∈ fp', b ∈ fp
  | [] => ⟨fp, sat, fun _ z => z⟩
  | v :: vs => by
    obtain ⟨fp1, s1, h1⟩ := wipe_sat sat vs
    by_cases hi : v < (wipeE env vs).length
    · obtain ⟨fr, fo, a1, a2, a3, a3', a4, a5, a6⟩ := s1.en.put hi s1.nd
      have e3 := (a6 F H [] [] (StepS.of_ext (.refl sat.fh) []) fun _ _ => by simp).1 none
      exact ⟨fr, ⟨sat.fh, e3, a3⟩, fun b hb => h1 b (a1 b hb)⟩
    · refine ⟨fp1, ?_, h1⟩
      show Sat K F H ((wipe σ vs).set v none) ((wipeE env vs).set v none) fp1
      rw [set_none_len hi, set_none_len (by rw [s1.en.len]; exact hi)]
      exact s1
theorem wipe_get : ∀ (σ : L2.St) (vs : List Nat) (j : Nat), (wipe σ vs)[j]? = if j ∈ vs then (σ[j]?).map (fun _ => none) else σ[j]?
  | σ, [], j => by simp [wipe]
  | σ, v :: vs, j => by
    show ((wipe σ vs).set v none)[j]? = _
    by_cases hj : v = j
    · subst hj
      by_cases hl : v < (wipe σ vs).length
      · rw [List.getElem?_set_self hl]
        rw [wipe_length] at hl
        simp [List.getElem?_eq_getElem hl]
      · rw [set_none_len hl, wipe_get σ vs v]
        rw [wipe_length] at hl
        have e : σ[v]? = none := List.getElem?_eq_none (by omega)
        simp [e]
    · rw [List.getElem?_set_ne hj, wipe_get σ vs j]
      simp [Ne.symm hj]
theorem wipe_off {σ σ' : L2.St} {ix vs : List Nat} (h : Off ix (wipe σ vs) σ') (hs : ∀ i ∈ ix, i ∈ vs) : wipe σ' vs = wipe σ vs := by
  refine List.ext_getElem? fun j => ?_
  rw [wipe_get σ', wipe_get σ]
  by_cases hj : j ∈ vs
  · rw [if_pos hj, if_pos hj]
    have hl := h.1
    rw [wipe_length] at hl
    by_cases hb : j < σ.length
    · rw [List.getElem?_eq_getElem hb, List.getElem?_eq_getElem (by omega : j < σ'.length)]; rfl
    · rw [List.getElem?_eq_none (by omega), List.getElem?_eq_none (by omega)]
  · rw [if_neg hj, if_neg hj, h.2 j fun z => hj (hs j z), wipe_get σ, if_neg hj]
def noEx {α : Type} : R α → R α
  | .ex _ => .no
  | r => r
@[simp] theorem noEx_ok {α : Type} (a : α) : noEx (.ok a) = .ok a := rfl
def lcR (g : D → Ev → Option Ev) (c : Ev → R Bool) (e : Ev → R Ow) (env : Ev) : List D → R (List Ow)
  | [] => .ok []
  | d :: ds => match g d env with
    | none => .no
    | some env1 => (noEx (c env1)).bind fun b => if b = true then (noEx (e env1)).bind fun r => (lcR g c e env ds).map fun rs => r :: rs else lcR g c e env ds
def eLc (it : Ev → R (List D)) (g : D → Ev → Option Ev) (c : Ev → R Bool) (e : Ev → R Ow) (vs : List Nat) (env : Ev) : R Ow := (it env).bind fun ds => guard (ds.length ≤ sizeLine) ((noEx (lcR g c e (wipeE env vs) ds)).map Ow.l)
theorem noEx_ok' {α : Type} {r : R α} {a : α} (h : noEx r = .ok a) : r = .ok a := by cases r <;> first | exact h | cases h
theorem lcR_len (g : D → Ev → Option Ev) (c : Ev → R Bool) (e : Ev → R Ow) (env : Ev) : ∀ (ds : List D) (rs : List Ow), lcR g c e env ds = .ok rs → rs.length ≤ ds.length
  | [], rs, h => by cases h; exact Nat.le_refl _
  | d :: ds, rs, h => by
    unfold lcR at h
    cases eg : g d env with
    | none => rw [eg] at h; cases h
    | some env1 =>
      rw [eg] at h
      simp only at h
      cases ec : noEx (c env1) with
      | no => rw [ec] at h; cases h
      | ex c => rw [ec] at h; cases h
      | ok b =>
        rw [ec] at h
        cases b with
        | false => exact Nat.le_succ_of_le (lcR_len g c e env ds rs h)
        | true =>
          simp only [R.bind_ok, if_true] at h
          cases ee : noEx (e env1) with
          | no => rw [ee] at h; cases h
          | ex c => rw [ee] at h; cases h
          | ok r =>
            rw [ee] at h
            simp only [R.bind_ok] at h
            cases el : lcR g c e env ds with
            | no => rw [el] at h; cases h
            | ex c => rw [el] at h; cases h
            | ok rs' =>
              rw [el] at h
              cases h
              have := lcR_len g c e env ds rs' el
              simp only [List.length_cons]; omega
theorem OwnAll.snoc {K : PySem.W.Frag} {F H : Hp} {v : V} {r : Ow} {fr : List Addr} : ∀ {os : List Ow} {vs : List V} {fp : List Addr}, OwnAll K F H vs os fp → OwnAt K F H v r fr → fp.Nodup → fr.Nodup → (∀ b ∈ fr, b ∉ fp) → ∃ fp', OwnAll K F H (vs ++ [v]) (os ++ [r]) fp' ∧ fp'.Nodup ∧ ∀ b ∈ fp', b ∈ fp ∨ b ∈ fr
  | [], _, _, h, g, n1, n2, dj => by
    cases h
    exact ⟨fr ++ [], .cons g .nil, by simpa using n2, fun b hb => .inr (by simpa using hb)⟩
  | o :: os, _, _, h, g, n1, n2, dj => by
    cases h with
    | @cons _ _ _ _ f1 fs h1 h2 =>
      rw [List.nodup_append] at n1
      obtain ⟨m1, m2, m3⟩ := n1
      obtain ⟨fp', a, b, c⟩ := OwnAll.snoc h2 g m2 n2 fun b hb z => dj b hb (List.mem_append_right _ z)
      refine ⟨f1 ++ fp', .cons h1 a, ?_, fun x hx => ?_⟩
      · rw [List.nodup_append]
        refine ⟨m1, b, fun x hx y hy e => ?_⟩
        subst e
        rcases c x hy with z | z
        · exact m3 x hx x z rfl
        · exact dj x z (List.mem_append_left _ hx)
      · rcases List.mem_append.mp hx with z | z
        · exact .inl (List.mem_append_left _ z)
        · exact (c x z).imp (List.mem_append_right _) id
theorem de_lc_core {wi : TI} {g : D → Ev → Option Ev} {fi : Ev → R (List D)} {fc : Ev → R Bool} {fe : Ev → R Ow} {ix vs : List Nat} (si : Sm X W (PIt X.K) wi fi) (hix : ∀ i ∈ ix, i ∈ vs) :
    Sm X W (POw X.K) (tLc wi (tgOf X.K ix g) (tOf X.K (Post X W0 PTb) fc) (tOf X.K (Post X W0 (POw X.K)) fe) vs) (eLc fi g fc fe vs) := by
  intro F H σ env fp Q sat hp
  refine si.go sat hp fun items J F1 H1 sat1 wk _ h1 => ?_
  have wk : WalkF X.K J F1 items := wk
  obtain ⟨hz, h2⟩ := guard_post h1
  intro Dd hD
  have hD1 : F1 Dd = none := free_of sat1.fh hD
  cases el : lcR g fc fe (wipeE env vs) items with
  | no => rw [el] at h2; exact h2.elim
  | ex c => rw [el] at h2; exact h2.elim
  | ok all =>
  rw [el] at h2
  have h2 : ∀ v F' H', Ext F1 H1 F' H' → POw X.K H1 (.l all) v F' H' → Q v H' := h2
  let Iv : Nat → Hp → Prop := fun i H' => ∃ F' acc accO fa rest, Ext F1 H1 F' H' ∧ F' Dd = none ∧ H' Dd = some (.lst acc) ∧ OwnAll X.K F' H' acc accO fa ∧ fa.Nodup ∧ Dd ∉ fa ∧ accO.length ≤ i ∧ (∀ b ∈ fa, H1 b = none) ∧ lcR g fc fe (wipeE env vs) (items.drop i) = .ok rest ∧ all = accO ++ rest
  refine ⟨fun i m H' => m = items.length - i ∧ i ≤ items.length ∧ Iv i H', ⟨items.length, by simp, Nat.zero_le _, F1, [], [], [], all, Ext.own sat1.fh hD _, hD1, upd_same, .nil, List.nodup_nil, by simp, Nat.le_refl _, (fun b z => nomatch z), el, rfl⟩, ?_⟩
  rintro i m H' ⟨rfl, hi, F', acc, accO, fa, rest, x, fD, hDd, ow, nd, nD, hl, fr, er, ea⟩
  by_cases hlt : i < items.length
  · refine .inr ⟨wk.go i F' H' hlt x.ff x.fh, Iv (i + 1), fun H2 z => ⟨items.length - (i + 1), by omega, rfl, hlt, z⟩, fun v H3 y => ?_⟩
    obtain ⟨d, F3, e1, x3, dp⟩ := wk.yld i F' H' v H3 hlt x.ff x.fh y
    have ed : items.drop i = d :: items.drop (i + 1) := by
      rw [List.drop_eq_getElem_cons hlt]
      have : items[i] = d := by rw [List.getElem?_eq_getElem hlt] at e1; exact Option.some.inj e1
      rw [this]
    rw [ed] at er
    unfold lcR at er
    cases eg : g d (wipeE env vs) with
    | none => rw [eg] at er; cases er
    | some env1 =>
    rw [eg] at er
    simp only at er
    obtain ⟨fpw, satw, subw⟩ := wipe_sat (sat1.ext (x.trans x3)) vs
    refine ⟨F3, _, fpw, d, env1, satw, dp, eg, fun σ2 fp2 sat2 sub2 off2 => ⟨wipe_off off2 hix, F3, env1, fp2, sat2, ?_⟩⟩
    cases ec : fc env1 with
    | no => rw [ec] at er; cases er
    | ex c => rw [ec] at er; cases er
    | ok b =>
    rw [ec] at er
    simp only [noEx_ok, R.bind_ok] at er
    intro v4 F4 H4 x4 ev4
    obtain rfl : v4 = b := ev4
    have xx4 := x3.trans x4
    cases v4 with
    | false =>
      rw [if_neg Bool.false_ne_true] at er ⊢
      have g1 := x.trans xx4
      refine ⟨F4, acc, accO, fa, rest, g1, ?_, xx4.hh _ _ hDd, ow.ext xx4, nd, nD, Nat.le_succ_of_le hl, fr, er, ea⟩
      cases q : F4 Dd with
      | none => rfl
      | some u =>
        rcases xx4.fn Dd u q with z | z
        · rw [fD] at z; cases z
        · rw [hDd] at z; cases z
    | true =>
      rw [if_pos rfl] at er ⊢
      refine ⟨F4, env1, fp2, sat2.ext x4, ?_⟩
      cases ee : fe env1 with
      | no => rw [ee] at er; cases er
      | ex c => rw [ee] at er; cases er
      | ok r =>
      rw [ee] at er
      simp only [noEx_ok, R.bind_ok] at er
      intro y5 F5 H5 x5 ⟨fr5, ow5, nd5, fresh5⟩
      have xx := xx4.trans x5
      have hD5 : H5 Dd = some (.lst acc) := xx.hh _ _ hDd
      have fD5 : F5 Dd = none := by
        cases q : F5 Dd with
        | none => rfl
        | some u =>
          rcases xx.fn Dd u q with z | z
          · rw [fD] at z; cases z
          · rw [hDd] at z; cases z
      have nD5 : Dd ∉ fr5 := fun z => by
        have := fresh5 Dd z
        rw [xx4.hh _ _ hDd] at this; cases this
      cases er2 : lcR g fc fe (wipeE env vs) (items.drop (i + 1)) with
      | no => rw [er2] at er; cases er
      | ex c => rw [er2] at er; cases er
      | ok rest2 =>
      rw [er2] at er
      cases er
      have la := OwnAll.len ow
      have stp : StepS F5 H5 [Dd] F5 (upd H5 Dd (.lst (acc ++ [y5]))) [] := ⟨Same.refl _, fun b o e n => by rw [upd_ne (fun z => n (by simp [z]))]; exact e, fun b o e => .inl e, fun b z => nomatch z⟩
      obtain ⟨fa', ow', nd', sub'⟩ := OwnAll.snoc (OwnAll.keep stp _ _ _ (ow.ext xx) fun b hb => by simp; exact fun z => nD (z ▸ hb)) (OwnAt.keep stp _ _ _ ow5 fun b hb => by simp; exact fun z => nD5 (z ▸ hb)) nd nd5 fun b hb z => by
        obtain ⟨_, vs', e⟩ := OwnAll.there _ _ _ ow b z
        have := xx4.hh.free (fresh5 b hb)
        rw [e] at this; cases this
      refine ⟨acc, hD5, by omega, F5, acc ++ [y5], accO ++ [r], fa', rest2, ⟨(x.trans xx).ff, fun b o e => ?_, (x.trans xx).fn, fun b o e => ?_⟩, fD5, upd_same, ow', nd', ?_, by simp; omega, fun b hb => ?_, er2, by simp [ea]⟩
      · rw [upd_ne (ne_of_none e hD)]; exact (x.trans xx).hh b o e
      · rw [upd_ne (ne_of_none e fD5)]; exact xx.fh b o e
      · intro z
        rcases sub' _ z with q | q
        · exact nD q
        · exact nD5 q
      · rcases sub' b hb with q | q
        · exact fr b q
        · exact x.hh.free (xx4.hh.free (fresh5 b q))
  · have e : i = items.length := by omega
    subst e
    rw [List.drop_length] at er
    cases er
    refine .inl ⟨wk.stop F' H' x.ff x.fh, h2 _ F' H' x ⟨Dd :: fa, ?_, List.nodup_cons.mpr ⟨nD, nd⟩, fun b hb => ?_⟩⟩
    · rw [ea, List.append_nil]; exact .l fD hDd ow
    · rcases List.mem_cons.mp hb with z | z
      · rw [z]; exact hD
      · exact fr b z
theorem de_lc {elt tg iter : Expr} {ifs : List Expr} {scope : Scope} {own : List (Str × Nat)} {g : D → Ev → Option Ev} {fi : Ev → R (List D)} {fc : Ev → R Bool} {fe : Ev → R Ow} {ix : List Nat} (hc : X.calm = true) (hN : X.N.Nodup) (hi : DI X W tg iter fi) (ok : BlkOk X.N X.env.scope scope own)
    (hg : ∀ (s : Shared) (H : Hp) (C : Addr) (cl : List (Str × Addr)) (fp : List Addr), DG (X.blk s H scope (compEnvC scope cl C X.env) fp) tg ix g) (ht : ∀ (s : Shared) (H : Hp) (C : Addr) (cl : List (Str × Addr)) (fp : List Addr), DTs (X.blk s H scope (compEnvC scope cl C X.env) fp) W0 ifs fc)
    (he : ∀ (s : Shared) (H : Hp) (C : Addr) (cl : List (Str × Addr)) (fp : List Addr), DE (X.blk s H scope (compEnvC scope cl C X.env) fp) W0 elt fe) (hix : ∀ i ∈ ix, i ∈ own.map (·.2) := by decide) (hs : ∀ x, foldedSetIterable iter X.env x = pure x := by intro _; rfl) :
    DE X W (.ListComp elt [⟨tg, iter, ifs, 0⟩] scope pos) (eLc fi g fc fe (own.map (·.2))) := by
  obtain ⟨wi, pi, si⟩ := hi
  exact ⟨_, pe_lc (g := tgOf X.K ix g) hc hN pi ok (fun s H C cl fp => hg s H C cl fp) (fun s H C cl fp => (ht s H C cl fp).can) (fun s H C cl fp => (he s H C cl fp).can) hs, de_lc_core si hix⟩
end
end Mir
end
set_option Elab.async false
set_option linter.all false
set_option maxRecDepth 100000
set_option maxHeartbeats 4000000
noncomputable section
namespace Mir
open PySem PySem.Spec L2

/-! ### a def's own list changed -/
section
variable {K : PySem.W.Frag} {F H : Hp} {σ : L2.St} {env : Ev} {fp : List Addr}
theorem set_self {σ : L2.St} {i : Nat} {v : V} (h : σ[i]? = some (some v)) : σ.set i (some v) = σ := by
  refine List.ext_getElem? fun j => ?_
  by_cases hj : i = j
  · subst hj
    rw [List.getElem?_set_self (List.getElem?_eq_some_iff.mp h).1]
    exact h.symm
  · rw [List.getElem?_set_ne hj]
theorem mut_step {F H F1 H1 : Hp} {a : Addr} {vs vs' : List V} (x : Ext F H F1 H1) (h : H a = some (.lst vs)) : StepS F H [a] F1 (upd H1 a (.lst vs')) [] :=
  ⟨x.ff, fun b o e n => by rw [upd_ne (fun z => n (by simp [z]))]; exact x.hh b o e, fun b o e => (x.fn b o e).imp id .inr, fun b z => nomatch z⟩
theorem mut_free {F H F1 H1 : Hp} {a : Addr} {vs : List V} (x : Ext F H F1 H1) (hf : F a = none) (h : H a = some (.lst vs)) : F1 a = none := by
  cases q : F1 a with
  | none => rfl
  | some u =>
    rcases x.fn a u q with z | z
    · rw [hf] at z; cases z
    · rw [h] at z; cases z
theorem mut_same {F1 H1 : Hp} {a : Addr} {o : HO} (s : Same F1 H1) (hf : F1 a = none) : Same F1 (upd H1 a o) := fun b u e => by
  rw [upd_ne (ne_of_none e hf)]; exact s b u e
/-- the list in slot i, and what is left when it is changed -/
theorem Sat.mut (sat : Sat K F H σ env fp) {i : Nat} {os : List Ow} (hi : env[i]? = some (some (.l os))) : ∃ a vs fo, σ[i]? = some (some (.ref a)) ∧ F a = none ∧ H a = some (.lst vs) ∧ OwnAll K F H vs os fo ∧ fo.Nodup ∧ a ∉ fo ∧ (∀ b ∈ a :: fo, b ∈ fp) ∧
    ∀ F1 H1 vs' os' fo', Ext F H F1 H1 → OwnAll K F1 (upd H1 a (.lst vs')) vs' os' fo' → fo'.Nodup → (∀ b ∈ fo', b ∈ fo ∨ H b = none) → ∃ fp', StepS F H fp F1 (upd H1 a (.lst vs')) fp' ∧ Sat K F1 (upd H1 a (.lst vs')) σ (env.set i (some (.l os'))) fp' := by
  have hl : i < env.length := (List.getElem?_eq_some_iff.mp hi).1
  obtain ⟨fr, fo0, a1, a2, a3, a3', a4, a5, a6⟩ := sat.en.put hl sat.nd
  obtain ⟨v, e1, e2⟩ := a5 _ hi
  cases e2 with
  | @l a vs _ fo h1 h2 h3 =>
    obtain ⟨nd1, nd2⟩ := List.nodup_cons.mp a3'
    refine ⟨a, vs, fo, e1, h1, h2, h3, nd2, nd1, a2, fun F1 H1 vs' os' fo' x ow nd sub => ?_⟩
    have hf1 := mut_free x h1 h2
    have na' : a ∉ fo' := fun z => by
      rcases sub a z with q | q
      · exact nd1 q
      · rw [h2] at q; cases q
    have fresh : ∀ b, H b = none → b ∉ fr := fun b q z => by
      obtain ⟨_, w, e⟩ := sat.en.there b (a1 b z)
      rw [q] at e; cases e
    obtain ⟨fp', b1, b2, b3⟩ := (a6 F1 (upd H1 a (.lst vs')) [a] [] (mut_step x h2) fun b hb z => a4 b (by rw [List.mem_singleton.mp z]; exact List.mem_cons_self) hb).2 (.ref a) (.l os') (a :: fo') (.l hf1 upd_same ow) (List.nodup_cons.mpr ⟨na', nd⟩) fun b hb z => by
      rcases List.mem_cons.mp hb with q | q
      · subst q; exact a4 b List.mem_cons_self z
      · rcases sub b q with q | q
        · exact a4 b (List.mem_cons_of_mem _ q) z
        · exact fresh b q z
    rw [set_self e1] at b3
    refine ⟨fp', (mut_step x h2).mono (fun b hb => by rw [List.mem_singleton.mp hb]; exact a2 a List.mem_cons_self) |> fun s => ⟨s.ff, s.fr, s.fn, fun b hb => ?_⟩, mut_same x.fh hf1, b3, b1⟩
    rcases b2 b hb with q | q
    · rcases List.mem_cons.mp q with q | q
      · rw [q]; exact .inl (a2 a List.mem_cons_self)
      · rcases sub b q with q | q
        · exact .inl (a2 b (List.mem_cons_of_mem _ q))
        · exact .inr q
    · exact .inl (a1 b q)
/-- the items of an own list, behind a change at the list itself -/
theorem own_mut {F1 H1 : Hp} {a : Addr} {vs vs' : List V} {os : List Ow} {fo : List Addr} (x : Ext F H F1 H1) (h : H a = some (.lst vs)) (ow : OwnAll K F H vs os fo) (na : a ∉ fo) : OwnAll K F1 (upd H1 a (.lst vs')) vs os fo :=
  OwnAll.keep (mut_step x h) _ _ _ ow fun b hb z => na (by rw [← List.mem_singleton.mp z]; exact hb)
theorem own_mut1 {F1 H1 : Hp} {a : Addr} {vs vs' : List V} {v : V} {r : Ow} {fx : List Addr} (s : Same F1 H1) (hf : F1 a = none) (h : H1 a = some (.lst vs)) (ow : OwnAt K F1 H1 v r fx) (na : a ∉ fx) : OwnAt K F1 (upd H1 a (.lst vs')) v r fx :=
  OwnAt.keep (mut_step (.refl s) h) _ _ _ ow fun b hb z => na (by rw [← List.mem_singleton.mp z]; exact hb)
theorem OwnAll.get {F H : Hp} : ∀ {os : List Ow} {vs : List V} {fp : List Addr} {k : Nat} {o : Ow}, OwnAll K F H vs os fp → fp.Nodup → os[k]? = some o → ∃ (v : V) (fo fr : List Addr), vs[k]? = some v ∧ OwnAt K F H v o fo ∧ fo.Nodup ∧ fr.Nodup ∧ (∀ b ∈ fo, b ∈ fp) ∧ (∀ b ∈ fr, b ∈ fp) ∧ (∀ b ∈ fo, b ∉ fr) ∧
    ∀ F' H' fx fy v' o' fn, StepS F H fx F' H' fy → (∀ b ∈ fr, b ∉ fx) → OwnAt K F' H' v' o' fn → fn.Nodup → (∀ b ∈ fn, b ∉ fr) → ∃ fp', OwnAll K F' H' (vs.set k v') (os.set k o') fp' ∧ fp'.Nodup ∧ ∀ b ∈ fp', b ∈ fn ∨ b ∈ fr
  | [], _, _, k, o, h, nd, e => by simp at e
  | x :: os, _, _, 0, o, h, nd, e => by
    cases h with
    | @cons v vs _ _ f1 fs h1 h2 =>
      simp at e; subst e
      obtain ⟨n1, n2, n3⟩ := List.nodup_append.mp nd
      refine ⟨v, f1, fs, rfl, h1, n1, n2, fun b z => List.mem_append_left _ z, fun b z => List.mem_append_right _ z, fun b z q => n3 b z b q rfl, fun F' H' fx fy v' o' fn st dj ow nf df => ?_⟩
      refine ⟨fn ++ fs, .cons ow (OwnAll.keep st _ _ _ h2 dj), ?_, fun b hb => List.mem_append.mp hb⟩
      rw [List.nodup_append]
      exact ⟨nf, n2, fun a ha b hb e => df a ha (e ▸ hb)⟩
  | x :: os, _, _, k + 1, o, h, nd, e => by
    cases h with
    | @cons v vs _ _ f1 fs h1 h2 =>
      obtain ⟨n1, n2, n3⟩ := List.nodup_append.mp nd
      obtain ⟨v0, fo, fr, g1, g2, g3, g4, g5, g6, g7, g8⟩ := OwnAll.get (k := k) h2 n2 (by simpa using e)
      refine ⟨v0, fo, f1 ++ fr, by simpa using g1, g2, g3, ?_, fun b z => List.mem_append_right _ (g5 b z), fun b z => ?_, fun b z q => ?_, fun F' H' fx fy v' o' fn st dj ow nf df => ?_⟩
      · rw [List.nodup_append]; exact ⟨n1, g4, fun a ha b hb e => n3 a ha b (g6 b hb) e⟩
      · exact (List.mem_append.mp z).elim (List.mem_append_left _) fun z => List.mem_append_right _ (g6 b z)
      · rcases List.mem_append.mp q with q | q
        · exact n3 b q b (g5 b z) rfl
        · exact g7 b z q
      · obtain ⟨fp', c1, c2, c3⟩ := g8 F' H' fx fy v' o' fn st (fun b hb => dj b (List.mem_append_right _ hb)) ow nf fun b hb z => df b hb (List.mem_append_right _ z)
        refine ⟨f1 ++ fp', .cons (OwnAt.keep st _ _ _ h1 fun b hb => dj b (List.mem_append_left _ hb)) c1, ?_, fun b hb => ?_⟩
        · rw [List.nodup_append]
          refine ⟨n1, c2, fun a ha b hb e => ?_⟩
          subst e
          rcases c3 a hb with z | z
          · exact df a z (List.mem_append_left _ ha)
          · exact n3 a ha a (g6 a z) rfl
        · rcases List.mem_append.mp hb with z | z
          · exact .inr (List.mem_append_left _ z)
          · exact (c3 b z).imp id (List.mem_append_right _)
end
section
variable {X : Cx} {W : WX} {S : Nat → Bool} {e e1 e2 : Expr} {pos cpos apos npos : Pos} {x : Str}
def ownL (i : Nat) (env : Ev) (k : List Ow → SR) : SR := match env[i]? with
  | some (some (.l os)) => k os
  | _ => .no
theorem ownL_post {σ : L2.St} {F H : Hp} {fp : List Addr} {D : Ends} {i : Nat} {env : Ev} {k : List Ow → SR} (h : PostS X W S σ F H fp D (ownL i env k)) : ∃ os, env[i]? = some (some (.l os)) ∧ PostS X W S σ F H fp D (k os) := by
  unfold ownL at h
  split at h
  · exact ⟨_, ‹_›, h⟩
  · exact h.elim
/-- x.append(e) -/
def sApp (i : Nat) (f : Ev → R Ow) (env : Ev) : SR := ownL i env fun os => (f env).st env fun r => if os.length < sizeLine then .nx (env.set i (some (.l (os ++ [r])))) else .no
theorem ds_app {f : Ev → R Ow} (i : Nat) (he : DE X W e f) (hN : X.N[i]? = some x := by rfl) (hv : Vis X.env.scope x := by first | exact Or.inl rfl | exact Or.inr (Or.inl rfl) | exact Or.inr (Or.inr rfl)) (hd : (x == ("__debug__" : Str)) = false := by decide) (hcd : (x == ("__classdict__" : Str)) = false := by decide)
    (hbase : attributeBase (.Name x npos) "append" X.env (eval (.Name x npos) X.env) = eval (.Name x npos) X.env := by rfl)
    (hfew : ((backTo cpos (starEach [e] X.env)).all (fun x => !x.1) && (backToKw cpos (keywordEach [] X.env)).all (fun x => x.1.isSome) && decide ([e].length + ([] : List Keyword).length + (if ([] : List Keyword).isEmpty then 0 else 1) < 30)) = true := by rfl)
    (hline : (apos.endLine == cpos.line) = true := by rfl) (hs : starEach [e] X.env = (false, eval e X.env) :: starEach [] X.env := by rfl) (hplain : (backTo cpos (starEach [] X.env)).any (·.1) = false := by rfl)
    (hsw : swapsWith (.Call (.Attribute (.Name x npos) "append" apos) [e] [] cpos) none pos.line X.env = pure false := by rfl) : DS X W S (.Expr (.Call (.Attribute (.Name x npos) "append" apos) [e] [] cpos) pos) (sApp i f) := by
  obtain ⟨t, p, s⟩ := he
  refine ⟨_, ps_expr (pe_bm PySem.F.plainAttrs_list PySem.F.slot_list_append PySem.F.type_list_append mt_append (pe_var hN hv hd hcd) (pa_cons p pa_nil hs) hbase hfew hline hs hplain) hsw, fun F H σ env fp D sat h => ?_⟩
  obtain ⟨os, eo, h⟩ := ownL_post h
  obtain ⟨a, vs, fo, c1, c0, c2, c3, c4, c5, c6, c7⟩ := sat.mut eo
  refine ⟨.ref a, c1, .inl ⟨rfl, vs, SqL.of c2⟩, ?_⟩
  refine s F H σ env fp _ sat ?_
  cases ef : f env with
  | no => rw [ef] at h; exact h
  | ex c => rw [ef] at h; exact fun C F' H' m x => h C σ F' H' fp m (.refl _ _) (StepS.of_ext x fp) (sat.ext x)
  | ok r =>
    rw [ef] at h
    intro v F1 H1 x1 ⟨fx, ow, nx, fr⟩
    have h2 : PostS X W S σ F H fp D (if os.length < sizeLine then .nx (env.set i (some (.l (os ++ [r])))) else .no) := h
    split at h2
    · have la := OwnAll.len c3
      have hb := x1.hh _ _ c2
      obtain ⟨fo', g1, g2, g3⟩ := OwnAll.snoc (own_mut (vs' := vs ++ [v]) x1 c2 c3 c5) (own_mut1 x1.fh (mut_free x1 c0 c2) hb ow fun z => by rw [fr a z] at c2; cases c2) c4 nx fun b hb z => by
        obtain ⟨_, w, e⟩ := OwnAll.there _ _ _ c3 b z
        rw [fr b hb] at e; cases e
      obtain ⟨fp', st, sat'⟩ := c7 F1 H1 (vs ++ [v]) (os ++ [r]) fo' x1 g1 g2 fun b hb => (g3 b hb).imp id (fr b)
      exact ⟨a, vs, v, rfl, rfl, hb, by omega, h2 σ F1 _ fp' (.refl _ _) st sat'⟩
    · exact h2.elim
/-! the same list by several ways: hypotheses that every method call has -/
/-- x.extend(e) -/
theorem list_extW (l b : Addr) (its jts : Array Value) (n n2 : Nat) (dd2 : Option Addr) (sl2 : Array (Option Value)) (h0 : ¬(!its.isEmpty && Builtin.List.listTooLong (its.size + jts.size)) = true) (h1 : its.size ≤ sizeLine) (h2 : its.size + jts.size ≤ sizeLine + 1) :
    Meets (Builtin.«list.extend» ⟨[.ref l, .ref b], []⟩) (fun _ R s => s.heap.get? l = some { cls := .type "list", data := .seq its n } ∧ s.heap.get? b = some { cls := .type "list", dict := dd2, data := .seq jts n2, slots := sl2 } ∧ R (.ok (.ret Value.none)) { s with heap := s.heap.update l (Obj.mapSeq fun x => x ++ jts), toks := s.toks }) :=
  .of_wp fun prog w A R s h => by
    obtain ⟨hp, g, d, tk, os⟩ := s; obtain ⟨hl, hb, h⟩ := h; have f1 := AutoSeq1.idx_int; have f2 := AutoSeq1.sub_tuple_tuple; have f3 := AutoSeq1.sub_list_list; have f4 := AutoSeq1.sub_tuple_list; have f5 := AutoSeq1.sub_list_tuple; have hz' : (its ++ jts).size ≤ sizeLine + 1 := by rw [Array.size_append]; exact h2
    wp_walk using (wpAny_updateSeq hl rfl (hz := h1) (_hz' := hz')), wpAny_loadPart' hl, wpAny_loadPart' hb; exact ⟨_, rfl, h⟩
def rExtA (K : PySem.W.Frag) : V → List V → Hp → VK → Prop := fun x vs H Q => ∃ l b xs zs, x = .ref l ∧ vs = [.ref b] ∧ H l = some (.lst xs) ∧ SqL K H b zs ∧ xs.length + zs.length ≤ sizeLine ∧ Q .non (upd H l (.lst (xs ++ zs)))
theorem mt_extA : MtR X "list.extend" (rExtA X.K) := by
  intro pins s σ H x vs v us Q I rx rv h
  obtain ⟨l, b, xs, zs, rfl, rfl, hH, hB, hz, q⟩ := h
  cases rx
  obtain ⟨u, rfl, ru⟩ := rv.one
  cases ru
  obtain ⟨z, its, n, r, hl, e⟩ := I.lstM hH
  obtain ⟨jts, r2, pl2, hl2⟩ := I.list hB
  obtain ⟨⟨c2, d2, t2, s2⟩, g2, k2, n2, m2⟩ := pl2.isList
  simp only at k2 m2
  subst k2 m2
  have lz := r2.length
  have hsz : its.toArray.size + jts.toArray.size ≤ sizeLine := by rw [List.size_toArray, List.size_toArray]; omega
  have hlong : ¬ (!its.toArray.isEmpty && Builtin.List.listTooLong (its.toArray.size + jts.toArray.size)) = true := by rw [notLongL hsz, Bool.and_false]; exact Bool.false_ne_true
  refine call_meets F.slot_list_extend ⟨_, e, rfl⟩ F.entry_list_extend (F.args_list_extend_2 _ _) (list_extW l b its.toArray jts.toArray n n2 d2 s2 hlong (by rw [List.size_toArray]; omega) (by omega)) ⟨e, g2, ?_⟩
  refine ⟨.non, _, I.lset (its' := its ++ jts) hH e (by simp) (r.append r2) ?_, rfl, q⟩
  rw [List.length_append]; omega
def asL : D → R (List D)
  | .list ds => .ok ds
  | _ => .no
@[simp] theorem asL_list (ds : List D) : asL (.list ds) = .ok ds := rfl
theorem OwnAll.app_d {K : PySem.W.Frag} {F H : Hp} {ws : List V} {es : List D} : ∀ {os : List Ow} {vs : List V} {fp : List Addr}, OwnAll K F H vs os fp → DpAll K F ws es → OwnAll K F H (vs ++ ws) (os ++ es.map Ow.d) fp
  | [], _, _, h, g => by cases h; exact OwnAll.of_dp g
  | o :: os, _, _, h, g => by
    cases h with
    | cons h1 h2 => exact .cons h1 (OwnAll.app_d h2 g)
def sExt (i : Nat) (f : Ev → R D) (env : Ev) : SR := ownL i env fun os => (f env).st env fun d => (asL d).st env fun ds => if os.length + ds.length ≤ sizeLine then .nx (env.set i (some (.l (os ++ ds.map Ow.d)))) else .no
theorem ds_ext {f : Ev → R D} (i : Nat) (he : DL X W e f) (hN : X.N[i]? = some x := by rfl) (hv : Vis X.env.scope x := by first | exact Or.inl rfl | exact Or.inr (Or.inl rfl) | exact Or.inr (Or.inr rfl)) (hd : (x == ("__debug__" : Str)) = false := by decide) (hcd : (x == ("__classdict__" : Str)) = false := by decide)
    (hbase : attributeBase (.Name x npos) "extend" X.env (eval (.Name x npos) X.env) = eval (.Name x npos) X.env := by rfl)
    (hfew : ((backTo cpos (starEach [e] X.env)).all (fun x => !x.1) && (backToKw cpos (keywordEach [] X.env)).all (fun x => x.1.isSome) && decide ([e].length + ([] : List Keyword).length + (if ([] : List Keyword).isEmpty then 0 else 1) < 30)) = true := by rfl)
    (hline : (apos.endLine == cpos.line) = true := by rfl) (hs : starEach [e] X.env = (false, eval e X.env) :: starEach [] X.env := by rfl) (hplain : (backTo cpos (starEach [] X.env)).any (·.1) = false := by rfl)
    (hsw : swapsWith (.Call (.Attribute (.Name x npos) "extend" apos) [e] [] cpos) none pos.line X.env = pure false := by rfl) : DS X W S (.Expr (.Call (.Attribute (.Name x npos) "extend" apos) [e] [] cpos) pos) (sExt i f) := by
  obtain ⟨t, p, s⟩ := he
  refine ⟨_, ps_expr (pe_bm PySem.F.plainAttrs_list PySem.F.slot_list_extend PySem.F.type_list_extend mt_extA (pe_var hN hv hd hcd) (pa_cons p pa_nil hs) hbase hfew hline hs hplain) hsw, fun F H σ env fp D sat h => ?_⟩
  obtain ⟨os, eo, h⟩ := ownL_post h
  obtain ⟨a, vs, fo, c1, c0, c2, c3, c4, c5, c6, c7⟩ := sat.mut eo
  refine ⟨.ref a, c1, .inl ⟨rfl, vs, SqL.of c2⟩, ?_⟩
  refine s F H σ env fp _ sat ?_
  cases ef : f env with
  | no => rw [ef] at h; exact h
  | ex c => rw [ef] at h; exact fun C F' H' m x => h C σ F' H' fp m (.refl _ _) (StepS.of_ext x fp) (sat.ext x)
  | ok d =>
    rw [ef] at h
    intro v F1 H1 x1 q
    have h1 : PostS X W S σ F H fp D ((asL d).st env fun ds => if os.length + ds.length ≤ sizeLine then .nx (env.set i (some (.l (os ++ ds.map Ow.d)))) else .no) := h
    cases d with
    | list ds =>
      have h2 : PostS X W S σ F H fp D (if os.length + ds.length ≤ sizeLine then .nx (env.set i (some (.l (os ++ ds.map Ow.d)))) else .no) := h1
      split at h2
      · obtain ⟨b, ws, rfl, q1, q2⟩ := q
        have la := OwnAll.len c3
        have lb := DpAll.len q2
        obtain ⟨fp', st, sat'⟩ := c7 F1 H1 (vs ++ ws) (os ++ ds.map Ow.d) fo x1 (OwnAll.app_d (own_mut (vs' := vs ++ ws) x1 c2 c3 c5) q2) c4 fun b hb => .inl hb
        exact ⟨a, b, vs, ws, rfl, rfl, x1.hh _ _ c2, q1, by omega, h2 σ F1 _ fp' (.refl _ _) st sat'⟩
      · exact h2.elim
    | _ => exact h1.elim
/-- x[k] = e -/
def putAt (i : Nat) (env : Ev) (os : List Ow) (r : Ow) : D → SR
  | .int k => match ixN os.length k with
    | some j => .nx (env.set i (some (.l (os.set j r))))
    | none => .no
  | _ => .no
def sPut (i : Nat) (f : Ev → R Ow) (g : Ev → R D) (env : Ev) : SR := (f env).st env fun r => ownL i env fun os => (g env).st env (putAt i env os r)
theorem OwnAll.set {K : PySem.W.Frag} {F H : Hp} {os : List Ow} {vs : List V} {fp : List Addr} {j : Nat} {v : V} {r : Ow} {fx : List Addr} (s : Same F H) (h : OwnAll K F H vs os fp) (nd : fp.Nodup) (hj : j < os.length) (ow : OwnAt K F H v r fx) (nx : fx.Nodup) (dj : ∀ b ∈ fx, b ∉ fp) :
    ∃ fp', OwnAll K F H (vs.set j v) (os.set j r) fp' ∧ fp'.Nodup ∧ ∀ b ∈ fp', b ∈ fp ∨ b ∈ fx := by
  obtain ⟨v0, fo, fr, g1, g2, g3, g4, g5, g6, g7, g8⟩ := OwnAll.get (k := j) h nd (List.getElem?_eq_getElem hj)
  obtain ⟨fp', a, b, c⟩ := g8 F H [] [] v r fx (StepS.of_ext (.refl s) []) (fun _ _ => by simp) ow nx fun b hb z => dj b hb (g6 b z)
  exact ⟨fp', a, b, fun b hb => (c b hb).elim .inr fun z => .inl (g6 b z)⟩
theorem pg_subV {i : Nat} {ti : TE} {k : Expr} {tpos : Pos} (hk : PE X k ti) (hN : X.N[i]? = some x) (hv : Vis X.env.scope x) (hd : (x == ("__debug__" : Str)) = false) (hcd : (x == ("__classdict__" : Str)) = false)
    (ha : ∀ v, assign (.Subscript (.Name x npos) k tpos) X.env v = (do
      let ov ← holding [v] (eval (.Name x npos) X.env)
      let iv ← holding [v, ov] (eval k X.env)
      standAt tpos
      holding [v, ov, iv] (setItem ov iv v)
      release [v, ov, iv] [])) : PG X (.Subscript (.Name x npos) k tpos) (L2.gSub (tVar i) ti rSetL) := pg_sub (pe_var hN hv hd hcd) hk set_list ha
theorem ds_put {f : Ev → R Ow} {g : Ev → R D} {k : Expr} {tpos : Pos} (i : Nat) (he : DE X W e f) (hk : DF X W k g) (hN : X.N[i]? = some x := by rfl) (hv : Vis X.env.scope x := by first | exact Or.inl rfl | exact Or.inr (Or.inl rfl) | exact Or.inr (Or.inr rfl)) (hd : (x == ("__debug__" : Str)) = false := by decide) (hcd : (x == ("__classdict__" : Str)) = false := by decide)
    (ha : ∀ v, assign (.Subscript (.Name x npos) k tpos) X.env v = (do
      let ov ← holding [v] (eval (.Name x npos) X.env)
      let iv ← holding [v, ov] (eval k X.env)
      standAt tpos
      holding [v, ov, iv] (setItem ov iv v)
      release [v, ov, iv] []) := by intro _; rfl)
    (hs : swapsWithSole [.Subscript (.Name x npos) k tpos] e pos.line X.env = pure false := by rfl) (hw : swappedStores [.Subscript (.Name x npos) k tpos] e X.env = pure none := by rfl)
    (h1 : (assignEach [.Subscript (.Name x npos) k tpos] X.env).map (·.2) = [assign (.Subscript (.Name x npos) k tpos) X.env] := by rfl) : DS X W S (.Assign [.Subscript (.Name x npos) k tpos] e pos) (sPut i f g) := by
  obtain ⟨t, p, s⟩ := he
  obtain ⟨t', p', s'⟩ := hk
  refine ⟨_, ps_asg p (pg_subV p' hN hv hd hcd ha) hs hw h1, fun F H σ env fp D sat h => ?_⟩
  refine s F H σ env fp _ sat ?_
  unfold sPut at h
  cases ef : f env with
  | no => rw [ef] at h; exact h
  | ex c => rw [ef] at h; exact fun C F' H' m x => h C σ F' H' fp m (.refl _ _) (StepS.of_ext x fp) (sat.ext x)
  | ok r =>
    rw [ef] at h
    intro v F1 H1 x1 ⟨fx, ow, nx, fr⟩
    have h1 : PostS X W S σ F H fp D (ownL i env fun os => (g env).st env (putAt i env os r)) := h
    obtain ⟨os, eo, h2⟩ := ownL_post h1
    obtain ⟨a, vs, fo, c1, c0, c2, c3, c4, c5, c6, c7⟩ := sat.mut eo
    refine ⟨.ref a, c1, ?_⟩
    refine s' F1 H1 σ env fp _ (sat.ext x1) ?_
    cases eg : g env with
    | no => rw [eg] at h2; exact h2.elim
    | ex c => rw [eg] at h2; exact fun C F' H' m x => h2 C σ F' H' fp m (.refl _ _) (StepS.of_ext (x1.trans x) fp) (sat.ext (x1.trans x))
    | ok d =>
      rw [eg] at h2
      have h2 : PostS X W S σ F H fp D (putAt i env os r d) := h2
      intro w F2 H2 x2 q
      have x := x1.trans x2
      cases d with
      | int k =>
        cases hj : ixN os.length k with
        | none => unfold putAt at h2; simp only at h2; rw [hj] at h2; exact h2.elim
        | some j =>
          unfold putAt at h2; simp only at h2; rw [hj] at h2
          cases dp_int q
          have la := OwnAll.len c3
          have hb := x.hh _ _ c2
          have hjl : j < os.length := (ixN_seq hj).2.1
          have f2 := mut_free x c0 c2
          have na : a ∉ fx := fun z => by rw [fr a z] at c2; cases c2
          obtain ⟨fo', g1, g2, g3⟩ := OwnAll.set (j := j) (mut_same x.fh f2) (own_mut (vs' := vs.set j v) x c2 c3 c5) c4 hjl (own_mut1 (vs' := vs.set j v) x.fh f2 hb (ow.ext x2) na) nx fun b hb z => by
            obtain ⟨_, w, e⟩ := OwnAll.there _ _ _ c3 b z
            rw [fr b hb] at e; cases e
          obtain ⟨fp', st, sat'⟩ := c7 F2 H2 (vs.set j v) (os.set j r) fo' x g1 g2 fun b hb => (g3 b hb).imp id (fr b)
          exact ⟨a, vs, k, j, rfl, rfl, hb, by rw [la]; exact hj, h2 σ F2 _ fp' (.refl _ _) st sat'⟩
      | _ => exact h2.elim
end
end Mir
end
set_option Elab.async false
set_option linter.all false
set_option maxRecDepth 100000
set_option maxHeartbeats 4000000
noncomputable section
namespace Mir
open PySem PySem.Spec L2

/-! ### paths: what a name or an item of an own list stands for (an alias, not a new value) -/
def PAs (K : PySem.W.Frag) (_ : Hp) (r : Ow) (v : V) (F' H' : Hp) : Prop := ∃ fp, OwnAt K F' H' v r fp
instance {K : PySem.W.Frag} : Anti (PAs K) := ⟨fun _ h => h⟩
def DP (X : Cx) (W : WX) (e : Expr) (f : Ev → R Ow) : Prop := ∃ t, PE X e t ∧ Sm X W (PAs X.K) t f
section
variable {X : Cx} {W : WX} {S : Nat → Bool} {e a b : Expr} {pos cpos apos npos : Pos} {x : Str}
theorem dp_var (i : Nat) {x : Str} (hN : X.N[i]? = some x := by rfl) (hv : Vis X.env.scope x := by first | exact Or.inl rfl | exact Or.inr (Or.inl rfl) | exact Or.inr (Or.inr rfl)) (hd : (x == ("__debug__" : Str)) = false := by decide)
    (hcd : (x == ("__classdict__" : Str)) = false := by decide) : DP X W (.Name x pos) (eVarO i) := by
  refine ⟨_, pe_var hN hv hd hcd, fun F H σ env fp Q sat h => ?_⟩
  have h' : Post X W (PAs X.K) F H σ ((eVarO i env).bind fun o => .ok o) Q := by
    cases e : eVarO i env <;> rw [e] at h <;> exact h
  obtain ⟨o, he, _, h2⟩ := eVarO_ok h'
  obtain ⟨v, fo, h1, h3, _⟩ := sat.en.get he
  exact ⟨v, h1, h2 v F H (.refl sat.fh) ⟨fo, h3⟩⟩
def ixO : Ow → D → R Ow
  | .l os, .int k => match atI os k with
    | some o => .ok o
    | none => .no
  | _, _ => .no
def eIxO (f : Ev → R Ow) (g : Ev → R D) (env : Ev) : R Ow := (f env).bind fun o => (g env).bind fun d => ixO o d
theorem OwnAll.at {K : PySem.W.Frag} {F H : Hp} {os : List Ow} {vs : List V} {fp : List Addr} {k : Int} {o : Ow} (h : OwnAll K F H vs os fp) (e : atI os k = some o) : ∃ v fo, atI vs k = some v ∧ OwnAt K F H v o fo := by
  have hl := OwnAll.len h
  unfold atI at e ⊢
  rw [hl]
  cases hj : ixN os.length k with
  | none => rw [hj] at e; cases e
  | some j =>
    rw [hj] at e
    have e : os[j]? = some o := e
    have : ∀ {os : List Ow} {vs : List V} {fp : List Addr} {j : Nat}, OwnAll K F H vs os fp → os[j]? = some o → ∃ v fo, vs[j]? = some v ∧ OwnAt K F H v o fo := by
      intro os
      induction os with
      | nil => intro vs fp j h e; simp at e
      | cons q os ih =>
        intro vs fp j h e
        cases h with
        | cons h1 h2 =>
          cases j with
          | zero => simp at e; subst e; exact ⟨_, _, rfl, h1⟩
          | succ j =>
            obtain ⟨v, fo, a, b⟩ := ih h2 (by simpa using e)
            exact ⟨v, fo, by simpa using a, b⟩
    exact this h e
theorem dp_ix {f : Ev → R Ow} {g : Ev → R D} (ha : DP X W a f) (hb : DV X W b g) (hs : PlainIx b := by exact fun _ _ => rfl) : DP X W (.Subscript a b pos) (eIxO f g) := by
  obtain ⟨ta, pa, sa⟩ := ha
  obtain ⟨tb, pb, sb⟩ := hb
  refine ⟨_, pe_ix ix_list pa pb hs, fun F H σ env fp Q sat h => ?_⟩
  unfold eIxO at h
  refine sa.go sat h fun o v F1 H1 sat1 q _ h1 => ?_
  refine sb.go sat1 h1 fun d u F2 H2 sat2 q2 x2 h2 => ?_
  unfold ixO at h2
  split at h2
  · rename_i os k
    split at h2
    · rename_i o' he
      obtain ⟨fo, ow⟩ := q
      cases dp_int q2
      cases ow with
      | l m1 m2 m3 =>
        obtain ⟨w, fw, e1, e2⟩ := OwnAll.at m3 he
        exact ⟨_, _, _, _, rfl, rfl, SqL.of (x2.hh _ _ m2), e1, h2 w F2 H2 (.refl sat2.fh) ⟨fw, e2.ext x2⟩⟩
    · exact h2.elim
  · exact h2.elim
theorem dl_dp {f : Ev → R Ow} (h : DP X W e f) : DL X W e (eB f shD) := by
  obtain ⟨t, p, s⟩ := h
  refine ⟨t, p, fun F H σ env fp Q sat h => s F H σ env fp Q sat (Post.thru h fun d _ h' v F' H' x ⟨fp, q⟩ => ?_)⟩
  obtain ⟨r, e2⟩ := shD_ok h'
  rw [e2] at h'
  exact h' v F' H' x (own_seq x.fh q e2)
theorem dv_dp {f : Ev → R Ow} (h : DP X W e f) : DV X W e (eM f viewD) := by
  obtain ⟨t, p, s⟩ := h
  refine ⟨t, p, Sm.map s fun H o v F' H' sm ⟨fp, q⟩ => ⟨viewD o, rfl, OwnAt.view sm o v fp q⟩⟩

/-! ### [e] * n -/
def repO : Ow → D → R Ow
  | .l os, .int k => match unDs os with
    | some ds => guard (-(2 ^ 63) ≤ k ∧ k < 2 ^ 63 ∧ os.length * k.toNat ≤ sizeLine) (.ok (.l ((List.replicate k.toNat ds).flatten.map Ow.d)))
    | none => .no
  | _, _ => .no
def eRep (f : Ev → R Ow) (g : Ev → R D) (env : Ev) : R Ow := (f env).bind fun o => (g env).bind fun d => repO o d
theorem DpAll.rep {K : PySem.W.Frag} {F : Hp} {vs : List V} {ds : List D} (h : DpAll K F vs ds) : ∀ n : Nat, DpAll K F (List.replicate n vs).flatten (List.replicate n ds).flatten
  | 0 => .nil
  | n + 1 => by
    rw [List.replicate_succ, List.replicate_succ, List.flatten_cons, List.flatten_cons]
    exact DpAll.append h (DpAll.rep h n)
theorem de_rep {f : Ev → R Ow} {g : Ev → R D} (ha : DE X W a f) (hb : DV X W b g) : DE X W (.BinOp a .Mult b pos) (eRep f g) := by
  obtain ⟨ta, pa, sa⟩ := ha
  obtain ⟨tb, pb, sb⟩ := hb
  refine ⟨_, pe_op op_rep pa pb, fun F H σ env fp Q sat h => ?_⟩
  unfold eRep at h
  refine sa.go sat h fun o v F1 H1 sat1 q _ h1 => ?_
  refine sb.go sat1 h1 fun d u F2 H2 sat2 q2 x2 h2 => ?_
  unfold repO at h2
  split at h2
  · rename_i os k
    split at h2
    · rename_i ds he
      obtain ⟨⟨c1, c2, c3⟩, h3⟩ := guard_post h2
      obtain ⟨fo, ow, _, _⟩ := q
      cases dp_int q2
      have eo := unDs_eq he
      subst eo
      cases ow with
      | l m1 m2 m3 =>
        have la := OwnAll.len m3
        refine ⟨_, _, _, rfl, rfl, x2.hh _ _ m2, c1, c2, by rw [la]; exact c3, fun p hp => ?_⟩
        have d2 := DpAll.rep (dpaUp (OwnAll.dp m3).1 x2.ff) k.toNat
        exact h3 _ F2 _ (Ext.own sat2.fh hp _) (own_l sat2.fh hp d2)
    · exact h2.elim
  · exact h2.elim

/-! ### name op= e -/
def eAug (h : D → D → Option D) (i : Nat) (f : Ev → R D) (env : Ev) : R D := (eVar i env).bind fun x => (f env).bind fun y => R.of (h x y)
def sAug (h : D → D → Option D) (i : Nat) (f : Ev → R D) (env : Ev) : SR := (eAug h i f env).st env fun d => if i < env.length then .nx (env.set i (some (.d d))) else .no
theorem ds_aug {f : Ev → R D} {g : D → D → Option D} {op : Operator} {r : R2} (i : Nat) (ho : OpR X (inplaceOp op) r) (hs : OpS X.K r g) (hN : X.N.Nodup) (he : DV X W e f) (hi : X.N[i]? = some x := by rfl) (hx : Loc X.env.scope x := by first | exact Or.inl rfl | exact Or.inr rfl)
    (hf : X.fn x = true ∨ X.env.scope.names.lookup x = some .local := by first | exact .inl rfl | exact .inr rfl | assumption) (hS : S i = true := by rfl) : DS X W S (.AugAssign (.Name x npos) op e pos) (sAug g i f) := by
  obtain ⟨t, p, s⟩ := he
  refine ⟨_, ps_aug hN hi hx p ho hf, fun F H σ env fp D sat h => ?_⟩
  unfold sAug eAug at h
  cases e1 : eVar i env with
  | no => rw [e1] at h; exact h.elim
  | ex c => exact absurd e1 (by unfold eVar; split <;> intro z <;> cases z)
  | ok dx =>
    rw [e1] at h
    have e2 : env[i]? = some (some (.d dx)) := by
      unfold eVar at e1
      split at e1
      · rename_i d he; cases e1; exact he
      · cases e1
    obtain ⟨v, fo, h1, h2, _⟩ := sat.en.get e2
    refine ⟨v, h1, ?_⟩
    refine s F H σ env fp _ sat ?_
    cases ef : f env with
    | no => rw [ef] at h; exact h
    | ex c => rw [ef] at h; exact fun C F' H' m x => h C σ F' H' fp m (.refl _ _) (StepS.of_ext x fp) (sat.ext x)
    | ok dy =>
      rw [ef] at h
      have h : PostS X W S σ F H fp D ((R.of (g dx dy)).st env fun d => if i < env.length then .nx (env.set i (some (.d d))) else .no) := h
      intro u F1 H1 x1 q
      cases eg : g dx dy with
      | none => rw [eg] at h; exact h.elim
      | some dz =>
        rw [eg] at h
        have h : PostS X W S σ F H fp D (if i < env.length then .nx (env.set i (some (.d dz))) else .no) := h
        split at h
        · cases h2 with
          | d hd =>
            refine hs H1 v u dx dy dz _ (dpUp (dpUp hd x1.ff) x1.fh) q eg fun z q2 => ?_
            obtain ⟨fp', s1, s2⟩ := put_step sat x1 (.d (q2 F1)) List.nodup_nil (fun _ z => nomatch z) ‹_›
            exact h _ F1 H1 fp' (.set hS _) s1 s2
        · exact h.elim
end
end Mir
end
set_option Elab.async false
set_option linter.all false
set_option maxRecDepth 100000
set_option maxHeartbeats 4000000
noncomputable section
namespace Mir
open PySem PySem.Spec L2

/-! ### an own list within an own list changed -/
section
variable {K : PySem.W.Frag} {F H : Hp} {σ : L2.St} {env : Ev} {fp : List Addr}
theorem set_selfV {vs : List V} {j : Nat} {v : V} (h : vs[j]? = some v) : vs.set j v = vs := by
  refine List.ext_getElem? fun k => ?_
  by_cases hk : j = k
  · subst hk
    rw [List.getElem?_set_self (List.getElem?_eq_some_iff.mp h).1]
    exact h.symm
  · rw [List.getElem?_set_ne hk]
theorem Sat.mut1 (sat : Sat K F H σ env fp) {i j : Nat} {os os1 : List Ow} (hi : env[i]? = some (some (.l os))) (hj : os[j]? = some (.l os1)) : ∃ a0 vs0 a vs fo, σ[i]? = some (some (.ref a0)) ∧ H a0 = some (.lst vs0) ∧ vs0.length = os.length ∧ vs0[j]? = some (.ref a) ∧ F a = none ∧ H a = some (.lst vs) ∧ OwnAll K F H vs os1 fo ∧ fo.Nodup ∧ a ∉ fo ∧
    ∀ F1 H1 vs' os' fo', Ext F H F1 H1 → OwnAll K F1 (upd H1 a (.lst vs')) vs' os' fo' → fo'.Nodup → (∀ b ∈ fo', b ∈ fo ∨ H b = none) → ∃ fp', StepS F H fp F1 (upd H1 a (.lst vs')) fp' ∧ Sat K F1 (upd H1 a (.lst vs')) σ (env.set i (some (.l (os.set j (.l os'))))) fp' := by
  have hl : i < env.length := (List.getElem?_eq_some_iff.mp hi).1
  obtain ⟨fr, fo0, a1, a2, a3, a3', a4, a5, a6⟩ := sat.en.put hl sat.nd
  obtain ⟨v, e1, e2⟩ := a5 _ hi
  cases e2 with
  | @l a0 vs0 _ fI h1 h2 h3 =>
    obtain ⟨nd1, nd2⟩ := List.nodup_cons.mp a3'
    obtain ⟨vj, fo1, fr1, g1, g2, g3, g4, g5, g6, g7, g8⟩ := OwnAll.get h3 nd2 hj
    cases g2 with
    | @l a vs _ fo m1 m2 m3 =>
      obtain ⟨nd3, nd4⟩ := List.nodup_cons.mp g3
      refine ⟨a0, vs0, a, vs, fo, e1, h2, OwnAll.len h3, g1, m1, m2, m3, nd4, nd3, fun F1 H1 vs' os' fo' x ow nd sub => ?_⟩
      have hf1 := mut_free x m1 m2
      have na' : a ∉ fo' := fun z => by
        rcases sub a z with q | q
        · exact nd3 q
        · rw [m2] at q; cases q
      have fresh : ∀ b, H b = none → b ∉ fr := fun b q z => by
        obtain ⟨_, w, e⟩ := sat.en.there b (a1 b z)
        rw [q] at e; cases e
      have fresh1 : ∀ b, H b = none → b ∉ fr1 := fun b q z => by
        obtain ⟨_, w, e⟩ := OwnAll.there _ _ _ h3 b (g6 b z)
        rw [q] at e; cases e
      have st := mut_step (vs' := vs') x m2
      obtain ⟨f1, k1, k2, k3⟩ := g8 F1 (upd H1 a (.lst vs')) [a] [] (.ref a) (.l os') (a :: fo') st (fun b hb z => g7 b (by rw [List.mem_singleton.mp z]; exact List.mem_cons_self) hb) (.l hf1 upd_same ow) (List.nodup_cons.mpr ⟨na', nd⟩) fun b hb z => by
        rcases List.mem_cons.mp hb with q | q
        · subst q; exact g7 b List.mem_cons_self z
        · rcases sub b q with q | q
          · exact g7 b (List.mem_cons_of_mem _ q) z
          · exact fresh1 b q z
      rw [set_selfV g1] at k1
      have sub1 : ∀ b ∈ f1, b ∈ fI ∨ H b = none := fun b hb => by
        rcases k3 b hb with q | q
        · rcases List.mem_cons.mp q with q | q
          · subst q; exact .inl (g5 b List.mem_cons_self)
          · exact (sub b q).imp (fun z => g5 b (List.mem_cons_of_mem _ z)) id
        · exact .inl (g6 b q)
      have ne : a ≠ a0 := fun e => nd1 (e ▸ g5 a List.mem_cons_self)
      have hf0 : F1 a0 = none := mut_free x h1 h2
      have n0 : a0 ∉ f1 := fun z => by
        rcases sub1 a0 z with q | q
        · exact nd1 q
        · rw [h2] at q; cases q
      have aIn : a ∈ a0 :: fI := List.mem_cons_of_mem _ (g5 a List.mem_cons_self)
      obtain ⟨fp', b1, b2, b3⟩ := (a6 F1 (upd H1 a (.lst vs')) [a] [] st fun b hb z => a4 b (by rw [List.mem_singleton.mp z]; exact aIn) hb).2 (.ref a0) (.l (os.set j (.l os'))) (a0 :: f1) (.l hf0 ((upd_ne (Ne.symm ne)).trans (x.hh _ _ h2)) k1) (List.nodup_cons.mpr ⟨n0, k2⟩) fun b hb z => by
        rcases List.mem_cons.mp hb with q | q
        · subst q; exact a4 b List.mem_cons_self z
        · rcases sub1 b q with q | q
          · exact a4 b (List.mem_cons_of_mem _ q) z
          · exact fresh b q z
      rw [set_self e1] at b3
      refine ⟨fp', (st.mono (fun b hb => by rw [List.mem_singleton.mp hb]; exact a2 a aIn)) |> fun s => ⟨s.ff, s.fr, s.fn, fun b hb => ?_⟩, mut_same x.fh hf1, b3, b1⟩
      rcases b2 b hb with q | q
      · rcases List.mem_cons.mp q with q | q
        · rw [q]; exact .inl (a2 a0 List.mem_cons_self)
        · exact (sub1 b q).imp (fun z => a2 b (List.mem_cons_of_mem _ z)) id
      · exact .inl (a1 b q)
theorem OwnAll.drop' {F H : Hp} : ∀ {os : List Ow} {vs : List V} {fp : List Addr} (n : Nat) {v : V} {r : Ow} {fx : List Addr}, OwnAll K F H vs os fp → OwnAt K F H v r fx → fp.Nodup → fx.Nodup → (∀ b ∈ fx, b ∉ fp) →
    ∃ fp', OwnAll K F H (vs.take n ++ [v] ++ vs.drop n) (os.take n ++ [r] ++ os.drop n) fp' ∧ fp'.Nodup ∧ ∀ b ∈ fp', b ∈ fp ∨ b ∈ fx
  | os, vs, fp, 0, v, r, fx, h, g, n1, n2, dj => by
    refine ⟨fx ++ fp, ?_, ?_, fun b hb => (List.mem_append.mp hb).symm⟩
    · simpa using OwnAll.cons g h
    · rw [List.nodup_append]; exact ⟨n2, n1, fun a ha b hb e => dj a ha (e ▸ hb)⟩
  | [], _, _, n + 1, v, r, fx, h, g, n1, n2, dj => by
    cases h
    exact ⟨fx ++ [], by simpa using OwnAll.cons g .nil, by simpa using n2, fun b hb => .inr (by simpa using hb)⟩
  | o :: os, _, _, n + 1, v, r, fx, h, g, n1, n2, dj => by
    cases h with
    | @cons w ws _ _ f1 fs h1 h2 =>
      rw [List.nodup_append] at n1
      obtain ⟨m1, m2, m3⟩ := n1
      obtain ⟨fp', a, b, c⟩ := OwnAll.drop' n h2 g m2 n2 fun b hb z => dj b hb (List.mem_append_right _ z)
      refine ⟨f1 ++ fp', by simpa using OwnAll.cons h1 a, ?_, fun x hx => ?_⟩
      · rw [List.nodup_append]
        refine ⟨m1, b, fun x hx y hy e => ?_⟩
        subst e
        rcases c x hy with z | z
        · exact m3 x hx x z rfl
        · exact dj x z (List.mem_append_left _ hx)
      · rcases List.mem_append.mp hx with z | z
        · exact .inl (List.mem_append_left _ z)
        · exact (c x z).imp (List.mem_append_right _) id
end
section
variable {X : Cx} {W : WX} {S : Nat → Bool} {e k : Expr} {pos cpos apos npos tpos : Pos} {x : Str}
def insO (os : List Ow) (r : Ow) (n : Int) : Option (List Ow) := if os.length < sizeLine ∧ 0 ≤ n ∧ n < 2 ^ 63 then some (os.take n.toNat ++ [r] ++ os.drop n.toNat) else none
/-- x[k].m(args) at an own list of own lists: the item's place, and how it is changed -/
def own1 (i : Nat) (g : Ev → R D) (env : Ev) (c : List Ow → Nat → List Ow → SR) : SR := ownL i env fun os => (g env).st env fun d => match d with
  | .int k => match ixN os.length k with
    | some j => match os[j]? with
      | some (.l os1) => c os j os1
      | _ => .no
    | none => .no
  | _ => .no
def sIns1 (i : Nat) (g : Ev → R D) (n : Int) (f : Ev → R Ow) (env : Ev) : SR := own1 i g env fun os j os1 => (f env).st env fun r => match insO os1 r n with
  | some os' => .nx (env.set i (some (.l (os.set j (.l os')))))
  | none => .no
def sApp1 (i : Nat) (g : Ev → R D) (f : Ev → R Ow) (env : Ev) : SR := own1 i g env fun os j os1 => (f env).st env fun r => if os1.length < sizeLine then .nx (env.set i (some (.l (os.set j (.l (os1 ++ [r])))))) else .no
/-- the base x[k] read: the rest is asked of the inner list -/
theorem own1_go {σ : L2.St} {F H : Hp} {fp : List Addr} {DD : Ends} {i : Nat} {env : Ev} {g : Ev → R D} {t : TE} {c : List Ow → Nat → List Ow → SR} {T : VK} (s : Sm X W (PVw X.K) t g) (sat : Sat X.K F H σ env fp) (h : PostS X W S σ F H fp DD (own1 i g env c))
    (q : ∀ os j os1 a F1 H1, env[i]? = some (some (.l os)) → os[j]? = some (.l os1) → Sat X.K F1 H1 σ env fp → (∃ a0 vs0, σ[i]? = some (some (.ref a0)) ∧ H1 a0 = some (.lst vs0) ∧ vs0[j]? = some (.ref a)) → PostS X W S σ F1 H1 fp DD (c os j os1) → T (.ref a) H1) : tOp (rIxL X.K) (tVar i) t σ H T := by
  obtain ⟨os, eo, h1⟩ := ownL_post h
  obtain ⟨v, fo, e1, e2, _⟩ := sat.en.get eo
  refine ⟨v, e1, ?_⟩
  cases e2 with
  | @l a0 vs0 _ f0 m1 m2 m3 =>
  refine s.st sat h1 fun d u F1 H1 sat1 q1 x1 h2 => ?_
  cases d with
  | int k =>
    cases dp_int q1
    cases hj : ixN os.length k with
    | none => simp only [hj] at h2; exact h2.elim
    | some j =>
      simp only [hj] at h2
      cases ho : os[j]? with
      | none => simp only [ho] at h2; exact h2.elim
      | some o =>
        cases o with
        | d _ => simp only [ho] at h2; exact h2.elim
        | l os1 =>
          simp only [ho] at h2
          obtain ⟨a0', vs0', a, vs, fo', b1, b2, b3, b4, _⟩ := sat1.mut1 eo ho
          rw [e1] at b1
          cases b1
          have b2' := (x1.hh _ _ m2).symm.trans b2
          cases b2'
          refine ⟨_, _, _, _, rfl, rfl, SqL.of b2, ?_, q os j os1 a F1 H1 eo ho sat1 ⟨_, _, e1, b2, b4⟩ h2⟩
          unfold atI
          rw [b3, hj]
          exact b4
  | _ => exact h2.elim
theorem ds_ins1 {g : Ev → R D} {f : Ev → R Ow} {n : Int} {nj : Nat} {ipos : Pos} (i : Nat) (hk : DV X W k g) (he : DE X W e f) (hN : X.N[i]? = some x := by rfl) (hv : Vis X.env.scope x := by first | exact Or.inl rfl | exact Or.inr (Or.inl rfl) | exact Or.inr (Or.inr rfl)) (hd : (x == ("__debug__" : Str)) = false := by decide) (hcd : (x == ("__classdict__" : Str)) = false := by decide)
    (hs : PlainIx k := by exact fun _ _ => rfl)
    (hbase : attributeBase (.Subscript (.Name x npos) k tpos) "insert" X.env (eval (.Subscript (.Name x npos) k tpos) X.env) = eval (.Subscript (.Name x npos) k tpos) X.env := by rfl)
    (hfew : ((backTo cpos (starEach [.Constant (.int n) nj ipos, e] X.env)).all (fun x => !x.1) && (backToKw cpos (keywordEach [] X.env)).all (fun x => x.1.isSome) && decide ([Expr.Constant (.int n) nj ipos, e].length + ([] : List Keyword).length + (if ([] : List Keyword).isEmpty then 0 else 1) < 30)) = true := by rfl)
    (hline : (apos.endLine == cpos.line) = true := by rfl) (hst : starEach [.Constant (.int n) nj ipos, e] X.env = (false, eval (.Constant (.int n) nj ipos) X.env) :: starEach [e] X.env := by rfl) (hplain : (backTo cpos (starEach [e] X.env)).any (·.1) = false := by rfl)
    (hst2 : starEach [e] X.env = (false, eval e X.env) :: starEach [] X.env := by rfl)
    (hsw : swapsWith (.Call (.Attribute (.Subscript (.Name x npos) k tpos) "insert" apos) [.Constant (.int n) nj ipos, e] [] cpos) none pos.line X.env = pure false := by rfl) : DS X W S (.Expr (.Call (.Attribute (.Subscript (.Name x npos) k tpos) "insert" apos) [.Constant (.int n) nj ipos, e] [] cpos) pos) (sIns1 i g n f) := by
  obtain ⟨t, p, s⟩ := he
  obtain ⟨t', p', s'⟩ := hk
  refine ⟨_, ps_expr (pe_bm PySem.F.plainAttrs_list PySem.F.slot_list_insert PySem.F.type_list_insert mt_insert (pe_ix ix_list (pe_var hN hv hd hcd) p' hs) (pa_cons pe_int (pa_cons p pa_nil hst2) hst) hbase hfew hline hst hplain) hsw, fun F H σ env fp D sat h => ?_⟩
  refine own1_go s' sat h fun os j os1 a F1 H1 eo ho sat1 ⟨z0, zs, w1, w2, w3⟩ h2 => ?_
  obtain ⟨a0, vs0, a', vs, fo, c1, c2, c3, c4, c5, c6, c7, c8, c9, c10⟩ := sat1.mut1 eo ho
  rw [w1] at c1; cases c1
  rw [w2] at c2; cases c2
  rw [w3] at c4; cases c4
  refine ⟨.inl ⟨rfl, vs, SqL.of c6⟩, ?_⟩
  refine s F1 H1 σ env fp _ sat1 ?_
  cases ef : f env with
  | no => rw [ef] at h2; exact h2
  | ex c => rw [ef] at h2; exact fun C F' H' m x => h2 C σ F' H' fp m (.refl _ _) (StepS.of_ext x fp) (sat1.ext x)
  | ok r =>
    rw [ef] at h2
    intro v F2 H2 x2 ⟨fx, ow, nx, fr⟩
    simp only [R.st_ok] at h2
    split at h2
    · rename_i os' hos
      unfold insO at hos
      split at hos
      · rename_i cc
        cases hos
        have hb := x2.hh _ _ c6
        have la := OwnAll.len c7
        obtain ⟨fo', g1, g2, g3⟩ := OwnAll.drop' n.toNat (own_mut (vs' := vs.take n.toNat ++ [v] ++ vs.drop n.toNat) x2 c6 c7 c9) (own_mut1 x2.fh (mut_free x2 c5 c6) hb ow fun z => by rw [fr a z] at c6; cases c6) c8 nx fun b hb z => by
          obtain ⟨_, w, e⟩ := OwnAll.there _ _ _ c7 b z
          rw [fr b hb] at e; cases e
        obtain ⟨fp', st, sat'⟩ := c10 F2 H2 _ _ fo' x2 g1 g2 fun b hb => (g3 b hb).imp id (fr b)
        exact ⟨a, vs, n, v, rfl, rfl, hb, by rw [la]; exact cc.1, cc.2.1, cc.2.2, h2 σ F2 _ fp' (.refl _ _) st sat'⟩
      · cases hos
    · exact h2.elim
theorem ds_app1 {g : Ev → R D} {f : Ev → R Ow} (i : Nat) (hk : DV X W k g) (he : DE X W e f) (hN : X.N[i]? = some x := by rfl) (hv : Vis X.env.scope x := by first | exact Or.inl rfl | exact Or.inr (Or.inl rfl) | exact Or.inr (Or.inr rfl)) (hd : (x == ("__debug__" : Str)) = false := by decide) (hcd : (x == ("__classdict__" : Str)) = false := by decide)
    (hs : PlainIx k := by exact fun _ _ => rfl)
    (hbase : attributeBase (.Subscript (.Name x npos) k tpos) "append" X.env (eval (.Subscript (.Name x npos) k tpos) X.env) = eval (.Subscript (.Name x npos) k tpos) X.env := by rfl)
    (hfew : ((backTo cpos (starEach [e] X.env)).all (fun x => !x.1) && (backToKw cpos (keywordEach [] X.env)).all (fun x => x.1.isSome) && decide ([e].length + ([] : List Keyword).length + (if ([] : List Keyword).isEmpty then 0 else 1) < 30)) = true := by rfl)
    (hline : (apos.endLine == cpos.line) = true := by rfl) (hst : starEach [e] X.env = (false, eval e X.env) :: starEach [] X.env := by rfl) (hplain : (backTo cpos (starEach [] X.env)).any (·.1) = false := by rfl)
    (hsw : swapsWith (.Call (.Attribute (.Subscript (.Name x npos) k tpos) "append" apos) [e] [] cpos) none pos.line X.env = pure false := by rfl) : DS X W S (.Expr (.Call (.Attribute (.Subscript (.Name x npos) k tpos) "append" apos) [e] [] cpos) pos) (sApp1 i g f) := by
  obtain ⟨t, p, s⟩ := he
  obtain ⟨t', p', s'⟩ := hk
  refine ⟨_, ps_expr (pe_bm PySem.F.plainAttrs_list PySem.F.slot_list_append PySem.F.type_list_append mt_append (pe_ix ix_list (pe_var hN hv hd hcd) p' hs) (pa_cons p pa_nil hst) hbase hfew hline hst hplain) hsw, fun F H σ env fp D sat h => ?_⟩
  refine own1_go s' sat h fun os j os1 a F1 H1 eo ho sat1 ⟨z0, zs, w1, w2, w3⟩ h2 => ?_
  obtain ⟨a0, vs0, a', vs, fo, c1, c2, c3, c4, c5, c6, c7, c8, c9, c10⟩ := sat1.mut1 eo ho
  rw [w1] at c1; cases c1
  rw [w2] at c2; cases c2
  rw [w3] at c4; cases c4
  refine ⟨.inl ⟨rfl, vs, SqL.of c6⟩, ?_⟩
  refine s F1 H1 σ env fp _ sat1 ?_
  cases ef : f env with
  | no => rw [ef] at h2; exact h2
  | ex c => rw [ef] at h2; exact fun C F' H' m x => h2 C σ F' H' fp m (.refl _ _) (StepS.of_ext x fp) (sat1.ext x)
  | ok r =>
    rw [ef] at h2
    intro v F2 H2 x2 ⟨fx, ow, nx, fr⟩
    simp only [R.st_ok] at h2
    split at h2
    · have hb := x2.hh _ _ c6
      have la := OwnAll.len c7
      obtain ⟨fo', g1, g2, g3⟩ := OwnAll.snoc (own_mut (vs' := vs ++ [v]) x2 c6 c7 c9) (own_mut1 x2.fh (mut_free x2 c5 c6) hb ow fun z => by rw [fr a z] at c6; cases c6) c8 nx fun b hb z => by
        obtain ⟨_, w, e⟩ := OwnAll.there _ _ _ c7 b z
        rw [fr b hb] at e; cases e
      obtain ⟨fp', st, sat'⟩ := c10 F2 H2 _ _ fo' x2 g1 g2 fun b hb => (g3 b hb).imp id (fr b)
      exact ⟨a, vs, v, rfl, rfl, hb, by omega, h2 σ F2 _ fp' (.refl _ _) st sat'⟩
    · exact h2.elim

/-! ### name = [..] -/
theorem ds_setLc {elt tg iter : Expr} {ifs : List Expr} {scope : Scope} {own : List (Str × Nat)} {g : D → Ev → Option Ev} {fi : Ev → R (List D)} {fc : Ev → R Bool} {fe : Ev → R Ow} {ix : List Nat} {y : Str} {py spos : Pos} (i : Nat) (hc : X.calm = true) (hN : X.N.Nodup) (hi : DI X W tg iter fi) (ok : BlkOk X.N X.env.scope scope own)
    (hg : ∀ (s : Shared) (H : Hp) (C : Addr) (cl : List (Str × Addr)) (fp : List Addr), DG (X.blk s H scope (compEnvC scope cl C X.env) fp) tg ix g) (ht : ∀ (s : Shared) (H : Hp) (C : Addr) (cl : List (Str × Addr)) (fp : List Addr), DTs (X.blk s H scope (compEnvC scope cl C X.env) fp) W0 ifs fc)
    (he : ∀ (s : Shared) (H : Hp) (C : Addr) (cl : List (Str × Addr)) (fp : List Addr), DE (X.blk s H scope (compEnvC scope cl C X.env) fp) W0 elt fe) (hix : ∀ i ∈ ix, i ∈ own.map (·.2) := by decide) (hs : ∀ x, foldedSetIterable iter X.env x = pure x := by intro _; rfl)
    (hy : X.N[i]? = some y := by rfl) (hyl : X.env.scope.names.lookup y = some .local := by rfl) (hsw : swapsWith (.ListComp elt [⟨tg, iter, ifs, 0⟩] scope pos) (some (.Name y py)) spos.line X.env = pure true := by exact sw_true rfl rfl rfl (by decide +kernel)) (hS : S i = true := by rfl) :
    DS X W S (.Assign [.Name y py] (.ListComp elt [⟨tg, iter, ifs, 0⟩] scope pos) spos) (sSet i (eLc fi g fc fe (own.map (·.2)))) := by
  obtain ⟨wi, pi, si⟩ := hi
  refine ⟨_, ps_setLc (g := tgOf X.K ix g) (tt := tOf X.K (Post X W0 PTb) fc) (te := tOf X.K (Post X W0 (POw X.K)) fe) hc hN hy hyl hsw pi ok (fun s H C cl fp => hg s H C cl fp) (fun s H C cl fp => (ht s H C cl fp).can) (fun s H C cl fp => (he s H C cl fp).can) hs, fun F H σ env fp D sat h => ?_⟩
  refine de_lc_core si hix F H σ env fp _ sat ?_
  unfold sSet at h
  cases e : eLc fi g fc fe (own.map (·.2)) env with
  | no => rw [e] at h; exact h
  | ex c => rw [e] at h; exact fun C F' H' m x => h C σ F' H' fp m (.refl _ _) (StepS.of_ext x fp) (sat.ext x)
  | ok r =>
    rw [e] at h
    intro v F' H' x ⟨fx, q, nd, n⟩
    have h' : PostS X W S σ F H fp D (if i < env.length then .nx (env.set i (some r)) else .no) := h
    split at h'
    · obtain ⟨fp', s1, s2⟩ := put_step sat x q nd n ‹_›
      exact h' _ F' H' fp' (.set hS _) s1 s2
    · exact h'.elim
end
end Mir
end
set_option Elab.async false
set_option linter.all false
set_option maxRecDepth 100000
set_option maxHeartbeats 4000000
noncomputable section
namespace Mir
open PySem PySem.Spec PySem.W PySem.Calls PyProof.Rows PySem.SeqAt

/-! ### tuples, some of them empty, can be sorted too -/
section
variable {prog : Program} {w : World} {A : Around} {E : Value → Shared → Prop} {s : Shared}
theorem call_tuple_lt {Q : Value → Shared → Prop} {l b : Addr} {items items2 : Array Value} {e r : Nat → Bool} (hl : s.heap.IsTuple l items) (hb : s.heap.IsTuple b items2)
    (he : ∀ j (h1 : j < items.size) (h2 : j < items2.size), SeqAt.EqAt A.in1 s items[j] items2[j] (e j)) (hr : ∀ j (h1 : j < items.size) (h2 : j < items2.size), e j = false → RcLt A.in1 s items[j] items2[j] (r j))
    (h : Q (.bool (firstLt e r (decide (items.size < items2.size)) (List.range (min items.size items2.size)))) s) : wpAny (model prog w) A (call (.builtin "tuple.__lt__") [.ref l, .ref b]) Q E s := by
  obtain ⟨⟨cls, dd, data, sl⟩, ho, hc, n, hd⟩ := id hl
  obtain ⟨⟨cls2, dd2, data2, sl2⟩, ho2, hc2, n2, hd2⟩ := id hb
  simp only at hc hd hc2 hd2
  subst hc hd hc2 hd2
  exact call_meets F.slot_tuple_lt ⟨_, ho, rfl⟩ F.entry_tuple_lt (F.args_tuple_lt_2 _ _) (tuple_ltAt l b items items2 n n2 dd dd2 sl sl2 e r)
    ⟨ho, ho2, he, hr, h⟩
theorem oneLt_tuples {xs ys : List PyData} {a b : Value} {as bs : List Addr} {Q : Bool → Shared → Prop} (ra : Reads s.heap a (.tuple xs) as) (rb : Reads s.heap b (.tuple ys) bs) (hal : alikeAll xs ys = true)
    (hu : A.units + min (PyData.tuple xs).depth (PyData.tuple ys).depth < cLine) (hq : Q (dataLt (.tuple xs) (.tuple ys)) s) : wpAny (model prog w) A (oneLt' true a b) Q E s := by
  cases ra with
  | @tuple l o vs n _ as₁ h1 h2 h3 h4 =>
    cases rb with
    | @tuple l' o' vs' n' _ bs₁ k1 k2 k3 k4 =>
      have n1 : vs.size = xs.length := by simpa using SeqAt.ReadsAll.length _ _ _ h4
      have n2 : vs'.size = ys.length := by simpa using SeqAt.ReadsAll.length _ _ _ k4
      rw [dataLt_tuple, ← firstLt_toks xs ys hal, ← n1, ← n2] at hq
      rw [oneLt'_eq]
      simp only [if_true]
      refine wpAny_bind (wpAny_cRoomFor (SeqAt.room_here hu) ?_)
      refine wpAny_bind (wpAny_callSpecialIfBound?_slot (T := "tuple") ⟨_, h1, h2⟩ F.slot_tuple_lt (call_tuple_lt (e := SeqAt.pairEq xs ys) (r := fun j => dataLt (xs.getD j .none) (ys.getD j .none)) ⟨_, h1, h2, _, h3⟩ ⟨_, k1, k2, _, k3⟩ (fun j j1 j2 => ?_) (fun j j1 j2 hj => ?_) ?_))
      · have := eqAt_alikeAll xs ys A.in1 s vs.toList vs'.toList _ _ h4 k4 hal (SeqAt.room_in hu) j (by simpa using j1) (by simpa using j2)
        simpa using this
      · have := rcLt_alikeAll xs ys A.in1 s vs.toList vs'.toList _ _ h4 k4 hal (SeqAt.room_in hu) j (by simpa using j1) (by simpa using j2) hj
        simpa using this
      · exact wpAny_truthy_bool hq
end
section
variable {prog : Program} {w : World} {A : Around} {s : Shared}
def neD : PyData → Bool
  | .tuple [] => false
  | _ => true
theorem firsts_tup {M : Model} : ∀ {vs : List Value} {ds : List PyData}, EachIs (fun v d => ∃ as, Reads s.heap v d as) vs ds → (∀ d, d ∈ ds → ∃ xs, d = .tuple xs) → ∃ fs : List (Option Value), fs.map Option.isSome = ds.map neD ∧ ∀ (A : Around) (E : Value → Shared → Prop) (Q : List (Option Value) → Shared → Prop), Q fs s → wpAny M A (vs.mapM firstOfTuple') Q E s
  | _, _, .nil, _ => ⟨[], rfl, fun A E Q h => by rw [List.mapM_nil]; exact wpAny_pure h⟩
  | _, _, .cons (a := v) (b := d) (as := vs) (bs := ds) ⟨as, r⟩ t, ht => by
    obtain ⟨fs, h1, h2⟩ := firsts_tup (M := M) t fun d hd => ht d (List.mem_cons_of_mem _ hd)
    obtain ⟨xs, rfl⟩ := ht d List.mem_cons_self
    cases r with
    | @tuple a o ys n _ _ ho hc hd hr =>
      refine ⟨ys[0]? :: fs, ?_, fun A E Q h => ?_⟩
      · rw [List.map_cons, List.map_cons, h1]
        congr 1
        cases xs with
        | nil =>
          have e : ys.toList = [] := by cases q : ys.toList with | nil => rfl | cons u us => rw [q] at hr; cases hr
          have e2 : ys[0]? = none := by rw [← Array.getElem?_toList, e]; rfl
          rw [e2]; rfl
        | cons x r =>
          cases q : ys.toList with
          | nil => rw [q] at hr; cases hr
          | cons u us =>
            have e2 : ys[0]? = some u := by rw [← Array.getElem?_toList, q]; rfl
            rw [e2]; rfl
      · rw [List.mapM_cons]
        refine wpAny_bind ?_
        rw [kas_first_eq]
        refine wpAny_bind (Looks.here (show Looks M s.heap (typeOf (.ref a)) o.cls from (Looks.ld ho).andThen .now) ?_)
        rw [hc, if_neg (by first | decide | simp)]
        refine wpAny_bind (listItems_at ho hd (wpAny_pure ?_))
        exact wpAny_bind (h2 A E (fun bs s' => wpAny M A (pure (ys[0]? :: bs)) Q E s') (wpAny_pure h))
/-- tuples that read as alike data can be sorted -/
theorem sortsAt_tuples {vs : List Value} {ds : List PyData} (e : EachIs (fun v d => ∃ as, Reads s.heap v d as) vs ds) (hal : AllAlike ds) (ht : ∀ d, d ∈ ds → ∃ xs, d = .tuple xs) (hu : ∀ d, d ∈ ds → A.units + d.depth < cLine) : SortsAt prog w A s (dataKind s.heap ds) vs := by
  by_cases hne : ∀ d, d ∈ ds → ∃ x r, d = .tuple (x :: r)
  · exact SortsAt.data e hal (.inl hne) hu
  have room : ∀ {d d' : PyData}, d ∈ ds → A.units + min d.depth d'.depth < cLine := fun {d d'} hd => Nat.lt_of_le_of_lt (Nat.add_le_add_left (Nat.min_le_left _ _) _) (hu d hd)
  obtain ⟨fs, h1, h2⟩ := firsts_tup (M := model prog w) e ht
  have hnall : (fs.toArray.all fun x => x.isSome) = false := by
    rw [List.all_toArray, Bool.eq_false_iff]
    intro hall
    refine hne fun d hd => ?_
    obtain ⟨xs, rfl⟩ := ht d hd
    cases xs with
    | cons x r => exact ⟨x, r, rfl⟩
    | nil =>
      have : neD (.tuple []) ∈ ds.map neD := List.mem_map_of_mem hd
      rw [← h1] at this
      obtain ⟨f, f1, f2⟩ := List.mem_map.mp this
      have := List.all_eq_true.mp hall f f1
      rw [f2] at this
      cases this
  have hkeys : ∀ v, v ∈ vs → ∃ a, (dataKind s.heap ds).keyOf v = some a := fun v hv => by
    obtain ⟨d, hd, as, r⟩ := e.left v hv
    exact ⟨_, dataKind_some hal hd r⟩
  have hty : ∀ v ∈ vs, Looks (model prog w) s.heap (typeOf v) (.type "tuple") := fun v hv => by
    obtain ⟨d, hd, as, r⟩ := e.left v hv
    obtain ⟨xs, rfl⟩ := ht d hd
    exact looks_reads r
  by_cases hf : ((fs.toArray)[0]?.bind id).isSome = true
  · refine ⟨hkeys, general', ?_, fun h2' E Q hq => ?_⟩
    · intro E x y a b Q ha hb hq
      obtain ⟨d, as, hd, ra, rfl⟩ := dataKind_inv ha
      obtain ⟨d', as', hd', rb, rfl⟩ := dataKind_inv hb
      obtain ⟨xs, rfl⟩ := ht d hd
      show wpAny (model prog w) A (oneLt' false x y) Q E s
      exact oneLt_alike (fun z => by cases z) ra rb (hal _ hd d' hd') (by intro z; cases z) (room hd) hq
    · rw [kat_kind_eq, List.mapM_toArray, map_eq_pure_bind]
      refine wpAny_bind (wpAny_bind (h2 A E _ (wpAny_pure ?_)))
      rw [if_neg (by rw [hnall]; exact Bool.false_ne_true), if_pos hf]
      exact wpAny_pure hq
  · refine ⟨hkeys, oneType', ?_, fun h2' E Q hq => ?_⟩
    · intro E x y a b Q ha hb hq
      obtain ⟨d, as, hd, ra, rfl⟩ := dataKind_inv ha
      obtain ⟨d', as', hd', rb, rfl⟩ := dataKind_inv hb
      have hdd := hal d hd d' hd'
      have hroom := room (d' := d') hd
      obtain ⟨xs, rfl⟩ := ht d hd
      obtain ⟨ys, rfl⟩ := ht d' hd'
      rw [keyLt'_oneType]
      exact oneLt_tuples ra rb (by simpa [alike] using hdd) hroom hq
    · rw [kat_kind_eq, List.mapM_toArray, map_eq_pure_bind]
      refine wpAny_bind (wpAny_bind (h2 A E _ (wpAny_pure ?_)))
      rw [if_neg (by rw [hnall]; exact Bool.false_ne_true), if_neg hf]
      rw [oneTypeOnly'_eq, List.mapM_toArray, map_eq_pure_bind]
      refine wpAny_bind (wpAny_bind (wpAny_bind (kas_mapM (r := Value.type "tuple") _ (fun v hv Q' hq => (hty v hv).here hq) (wpAny_pure ?_))))
      obtain ⟨v0, vr, rfl⟩ : ∃ v0 vr, vs = v0 :: vr := by
        match vs, h2' with
        | [], h2 => simp at h2
        | v :: r, _ => exact ⟨v, r, rfl⟩
      have hall : ((List.map (fun _ => Value.type "tuple") (v0 :: vr)).toArray.all fun x => x == Value.type "tuple") = true := by
        simp only [List.all_toArray, List.all_map, List.all_eq_true]
        intro _ _
        exact beq_self_eq_true _
      have h0 : (List.map (fun _ => Value.type "tuple") (v0 :: vr)).toArray[0]? = some (Value.type "tuple") := by simp
      rw [h0]
      simp only [hall, if_true]
      exact wpAny_pure (wpAny_pure hq)
end
end Mir
namespace Mir
open PySem PySem.Spec L2
abbrev sortedD (ds : List D) : List D := ds.mergeSort (PySem.W.dataLe false id)
def tupB : D → Bool
  | .tuple _ => true
  | _ => false
def plainB : D → Bool
  | .tuple _ => false
  | .none => false
  | _ => true
def sortOk (ds : List D) : Bool := (ds.all fun d => ds.all fun e => PySem.W.alike d e) && (ds.all tupB || ds.all plainB) && (ds.all fun d => decide (d.depth ≤ 130))
def gSorted : List D → Option Ow
  | [.list ds] => if sortOk ds = true then some (.l ((sortedD ds).map Ow.d)) else none
  | _ => none
def rSortD (K : PySem.W.Frag) : List V → Hp → VK → Prop := fun vs H Q => ∃ (a : Addr) (xs : List V) (ds : List D) (T : V → D → Prop), vs = [V.ref a] ∧ SqL K H a xs ∧ DpAll K H xs ds ∧ sortOk ds = true ∧ PySem.W.EachIs T xs ds ∧
  ∀ (ys : List V) (p : Addr), H p = none → PySem.W.EachIs T ys (sortedD ds) → Q (.ref p) (upd H p (.lst ys))
section
variable {X : Cx} {W : WX}
theorem each_vals {T : V → D → Prop} : ∀ {xs : List V} {vs : List Value} {ds : List D}, Vals xs vs → PySem.W.EachIs T xs ds → PySem.W.EachIs (fun v d => ∃ x, RelV x v ∧ T x d) vs ds
  | _, _, _, .nil, .nil => .nil
  | _, _, _, .cons r t, .cons h g => .cons ⟨_, r, h⟩ (each_vals t g)
theorem vals_each {T : V → D → Prop} : ∀ {vs : List Value} {ds : List D}, PySem.W.EachIs (fun v d => ∃ x, RelV x v ∧ T x d) vs ds → ∃ xs, Vals xs vs ∧ PySem.W.EachIs T xs ds
  | _, _, .nil => ⟨[], .nil, .nil⟩
  | _, _, .cons ⟨x, r, h⟩ g => by
    obtain ⟨xs, a, b⟩ := vals_each g
    exact ⟨x :: xs, .cons r a, .cons h b⟩
theorem each_reads {pins : List (Addr × Obj)} {s : Shared} {σ : L2.St} {H : Hp} (I : Inv X pins σ H s) : ∀ {xs : List V} {vs : List Value} {ds : List D}, Vals xs vs → DpAll X.K H xs ds → PySem.W.EachIs (fun v d => ∃ as, PySem.Reads s.heap v d as) vs ds
  | _, _, _, .nil, h => by cases h; exact .nil
  | _, _, _, .cons r t, h => by
    cases h with
    | cons h1 h2 => exact .cons (Dp.reads I _ _ _ h1 r) (each_reads I t h2)
theorem sortOk_cases {ds : List D} (h : sortOk ds = true) : PySem.W.AllAlike ds ∧ ((∀ d, d ∈ ds → ∃ xs, d = .tuple xs) ∨ ∀ d, d ∈ ds → d ≠ .none ∧ ∀ xs, d ≠ .tuple xs) ∧ ∀ d, d ∈ ds → d.depth ≤ 130 := by
  unfold sortOk at h
  simp only [Bool.and_eq_true, Bool.or_eq_true, List.all_eq_true, decide_eq_true_eq] at h
  obtain ⟨⟨h1, h2⟩, h3⟩ := h
  refine ⟨h1, h2.imp (fun h d hd => ?_) (fun h d hd => ?_), h3⟩
  · have := h d hd
    cases d <;> first | exact ⟨_, rfl⟩ | cases this
  · have := h d hd
    cases d with
    | none => cases this
    | tuple _ => cases this
    | _ => exact ⟨nofun, nofun⟩
theorem cr_sortD (hu : X.A.units + 140 < cLine) : CallR X (.builtin "sorted") (rSortD X.K) := by
  intro pins s σ H vs us Q I r h
  obtain ⟨a, xs, ds, T, rfl, hs, hx, ok, hT, q⟩ := h
  obtain ⟨its, rv, hl, hz⟩ := I.list hs
  rw [Vals.ref1 r]
  obtain ⟨hal, hk, hd⟩ := sortOk_cases ok
  have er := each_reads I rv hx
  have e := each_vals rv hT
  have hL : its.length ≤ sizeLine := by rw [← rv.length]; exact hz
  have fin : ∀ out, out.length = ds.length → PySem.W.EachIs (fun v d => ∃ x, RelV x v ∧ T x d) out (sortedD ds) → EP X pins σ Q (.ref (s.heap.objs.size + 1)) { s with heap := PyProof.Rows.sortedAll s.heap its out.toArray } := fun out h1 h2 => by
    obtain ⟨ys, h3, h4⟩ := vals_each h2
    have hn : H (s.heap.objs.size + 1) = none := I.hok.fresh (Nat.le_succ _)
    obtain ⟨n, hn2⟩ := PyProof.Rows.sortedAll_at s.heap its out.toArray
    refine ⟨.ref (s.heap.objs.size + 1), upd H (s.heap.objs.size + 1) (.lst ys), I.laid (t' := s.toks) (fun b o e => PyProof.Rows.sortedAll_old e) (Nat.le_succ _) ⟨?_, out, n, h3, hn2⟩, rfl, q ys _ hn h4⟩
    rw [h3.length, h1, ← er.length]
    exact hL
  have er' : PySem.W.EachIs (fun v b => ∃ as, PySem.Reads (PySem.W.sortingHeap (PySem.W.copyHeap s.heap its) (s.heap.objs.size + 1) its) v (id b) as) its ds := er.mono fun _ _ ⟨as, r⟩ => ⟨as, PyProof.Rows.Reads.keeps (fun _ _ => PySem.W.sorting_copy_old) r⟩
  have hb : ∀ d, d ∈ ds → X.A.in1.in1.units + d.depth < cLine := fun d m => by
    have := hd d m
    show X.A.units + 1 + 1 + d.depth < cLine
    omega
  refine PySem.W.sorted_vals (κ := PySem.W.dataKind (PySem.W.sortingHeap (PySem.W.copyHeap s.heap its) (s.heap.objs.size + 1) its) ds) hl.isList ?_ hL (fin _ ?_ ?_)
  · rcases hk with hk | hk
    · exact sortsAt_tuples (s := { s with heap := PySem.W.sortingHeap (PySem.W.copyHeap s.heap its) (s.heap.objs.size + 1) its }) er' hal hk hb
    · exact PySem.W.SortsAt.data (s := { s with heap := PySem.W.sortingHeap (PySem.W.copyHeap s.heap its) (s.heap.objs.size + 1) its }) er' hal (.inr hk) hb
  · rw [PySem.W.sortVals_length false rfl]; exact er.length
  · have z := PySem.W.sortVals_data (enc := (id : D → D)) (bs := ds) false e er' (by simpa using hal)
    simpa using z
theorem each_dpAll {F : Hp} : ∀ {xs : List V} {ds : List D}, DpAll X.K F xs ds → PySem.W.EachIs (Dp X.K F) xs ds
  | _, [], h => by cases h; exact .nil
  | _, d :: ds, h => by
    cases h with
    | cons h1 h2 => exact .cons h1 (each_dpAll h2)
theorem dpAll_each {F : Hp} : ∀ {xs : List V} {ds : List D}, PySem.W.EachIs (Dp X.K F) xs ds → DpAll X.K F xs ds
  | _, _, .nil => .nil
  | _, _, .cons h g => .cons h (dpAll_each g)
theorem caG_sorted : CaG X.K (rSortD X.K) gSorted := by
  intro F H vs ds o Q s h e q
  unfold gSorted at e
  split at e
  · split at e
    · rename_i es c
      cases e
      obtain ⟨v, rfl, p, ws, rfl, p1, p2⟩ := psqs1 h
      refine ⟨p, ws, es, Dp X.K F, rfl, p1, dpaUp p2 s, c, each_dpAll p2, fun ys a ha hy => ?_⟩
      exact q _ _ _ (Ext.own s ha _) (own_l s ha (dpAll_each hy))
    · cases e
  · cases e
theorem de_sorted {x : Expr} {p pos : Pos} {f : Ev → R (List D)} (hu : X.A.units + 140 < cLine) (hg : Gl X "sorted") (hm : X.mg "sorted" = none) (ha : DAl X W [x] f) (he : starEach [x] X.env = (false, eval x X.env) :: starEach [] X.env := by rfl) : DE X W (.Call (.Name "sorted" p) [x] [] pos) (eCa gSorted f) :=
  de_callB (cr_sortD hu) caG_sorted hg hm (by first | rfl | decide +kernel) ha (he := he)
end
end Mir
end
set_option Elab.async false
set_option linter.all false
set_option maxRecDepth 100000
set_option maxHeartbeats 4000000
noncomputable section
namespace Mir
open PySem PySem.Spec L2

/-! ### for over an own list that stays as it is -/
def sameO (i : Nat) (os : List Ow) (env : Ev) : Prop := env[i]? = some (some (.l os))
open Classical in
def forLV (i : Nat) (os : List Ow) (g : D → Ev → Option Ev) (f : Ev → SR) : List D → Ev → SR
  | [], env => .nx env
  | d :: ds, env => match g d env with
    | none => .no
    | some env1 => match f env1 with
      | .nx env2 => if sameO i os env2 then forLV i os g f ds env2 else .no
      | .ct env2 => if sameO i os env2 then forLV i os g f ds env2 else .no
      | .bk env2 => .nx env2
      | .rt r env2 => .rt r env2
      | .ex c env2 => .ex c env2
      | .no => .no
def sForV (i : Nat) (g : D → Ev → Option Ev) (f : Ev → SR) (env : Ev) : SR := ownL i env fun os => match unDs os with
  | some ds => forLV i os g f ds env
  | none => .no
abbrev offI (S : Nat → Bool) (i : Nat) : Nat → Bool := fun j => S j && !(Nat.beq j i)
section
variable {X : Cx} {W : WX} {S : Nat → Bool} {pos npos : Pos} {x : Str} {fs : Ev → SR}
theorem offI_i (S : Nat → Bool) (i : Nat) : offI S i i = false := by simp [offI]
theorem own_lst {K : PySem.W.Frag} {F H : Hp} {σ : L2.St} {env : Ev} {fp : List Addr} (sat : Sat K F H σ env fp) {i : Nat} {ds : List D} {a : Addr} (e : sameO i (ds.map Ow.d) env) (es : σ[i]? = some (some (.ref a))) : ∃ vs, H a = some (.lst vs) ∧ DpAll K F vs ds := by
  obtain ⟨v, fo, e1, e2, _⟩ := sat.en.get e
  rw [es] at e1
  cases e1
  cases e2 with
  | l m1 m2 m3 => exact ⟨_, m2, (OwnAll.dp m3).1⟩
theorem ds_forV {tg : Expr} {body : List Stmt} {g : D → Ev → Option Ev} (i : Nat) (hp : PassesOwn (model X.prog X.w) X.A X.env X.xe) (hc : X.calm = true) {ix : List Nat} (hg : DG X tg ix g) (hb : DSs X W (offI S i) body fs) (hN : X.N[i]? = some x := by rfl) (hv : Vis X.env.scope x := by first | exact Or.inl rfl | exact Or.inr (Or.inl rfl) | exact Or.inr (Or.inr rfl)) (hd : (x == ("__debug__" : Str)) = false := by decide) (hcd : (x == ("__classdict__" : Str)) = false := by decide)
    (hs : ∀ z, foldedSetIterable (.Name x npos) X.env z = pure z := by intro _; rfl) (hS : ix.all (offI S i) = true := by rfl) : DS X W S (.For tg (.Name x npos) body [] pos) (sForV i g fs) := by
  obtain ⟨tb, pb, sb⟩ := hb
  refine ⟨_, ps_for hp hc (pi_list (pe_var hN hv hd hcd)) hg pb hs, fun F H σ env fp D sat h => ?_⟩
  obtain ⟨os, eo, h1⟩ := ownL_post h
  cases eu : unDs os with
  | none => rw [eu] at h1; exact h1.elim
  | some items =>
  rw [eu] at h1
  have h1 : PostS X W S σ F H fp D (forLV i os g fs items env) := h1
  have eos := unDs_eq eu
  subst eos
  obtain ⟨v, fo, e1, e2, _⟩ := sat.en.get eo
  cases e2 with
  | @l a vs0 _ f0 m1 m2 m3 =>
  have sub : ∀ j, S j = false → offI S i j = false := fun j hj => by simp [offI, hj]
  have hS2 : ix.all S = true := by
    rw [List.all_eq_true] at hS ⊢
    intro j hj
    have := hS j hj
    simp [offI] at this
    exact this.1
  refine ⟨_, e1, a, rfl, ⟨vs0, SqL.of m2⟩, ?_⟩
  refine ⟨fun k m σ' H' => m = items.length - k ∧ k ≤ items.length ∧ ∃ F' env' fp', Sat X.K F' H' σ' env' fp' ∧ sameO i (items.map Ow.d) env' ∧ σ'[i]? = some (some (.ref a)) ∧ PostS X W S σ' F' H' fp' D (forLV i (items.map Ow.d) g fs (items.drop k) env'),
    ⟨items.length, by simp, Nat.zero_le _, F, env, fp, sat, eo, e1, h1⟩, ?_⟩
  rintro k m σ' H' ⟨rfl, hk, F', env', fp', sat', so, es, h2⟩
  obtain ⟨vs, hvs, dvs⟩ := own_lst sat' so es
  have hl := DpAll.len dvs
  by_cases hlt : k < items.length
  · refine .inr ⟨⟨vs, vs[k]'(by omega), SqL.of hvs, by simp⟩, fun σ2 H2 => ∃ F2 env2 fp2, Sat X.K F2 H2 σ2 env2 fp2 ∧ sameO i (items.map Ow.d) env2 ∧ σ2[i]? = some (some (.ref a)) ∧ PostS X W S σ2 F2 H2 fp2 D (forLV i (items.map Ow.d) g fs (items.drop (k + 1)) env2), ?_, ?_⟩
    · rintro σ2 H2 ⟨F2, env2, fp2, c1, c2, c3, c4⟩
      exact ⟨items.length - (k + 1), by omega, rfl, hlt, F2, env2, fp2, c1, c2, c3, c4⟩
    · rintro x3 H3 ⟨rfl, q⟩
      obtain ⟨d, e3, dp⟩ := DpAll.getV dvs (q vs (SqL.of hvs))
      have ed : items.drop k = d :: items.drop (k + 1) := by
        rw [List.drop_eq_getElem_cons hlt]
        have : items[k] = d := by rw [List.getElem?_eq_getElem hlt] at e3; exact Option.some.inj e3
        rw [this]
      rw [ed] at h2
      unfold forLV at h2
      cases eg : g d env' with
      | none => rw [eg] at h2; exact h2.elim
      | some env1 =>
        rw [eg] at h2
        simp only at h2
        refine ⟨F', env', fp', d, env1, sat', dp, eg, fun σ4 fp4 sat4 sub4 off4 => ?_⟩
        have st4 : StepS F' H3 fp' F' H3 fp4 := (StepS.of_ext (.refl sat'.fh) fp').subset sub4
        have h4 := PostS.step h2 (.of off4 hS2) st4
        have es4 : σ4[i]? = some (some (.ref a)) := (OffS.of off4 hS i (offI_i S i)).trans es
        refine sb F' H3 σ4 env1 fp4 _ sat4 ?_
        have h4 := PostS.sub h4 sub
        cases ef : fs env1 with
        | no => rw [ef] at h4; exact h4
        | nx env2 =>
          rw [ef] at h4
          simp only at h4
          split at h4
          · rename_i so2
            refine fun σ5 F5 H5 fp5 o5 s5 sat5 => ⟨F5, env2, fp5, sat5, so2, (o5 i (offI_i S i)).trans es4, ?_⟩
            have h5 := PostS.step h2 (.of off4 hS2) st4
            rw [ef] at h5
            simp only at h5
            rw [if_pos so2] at h5
            exact PostS.step h5 (fun j hj => o5 j (sub j hj)) s5
          · exact h4.elim
        | ct env2 =>
          rw [ef] at h4
          simp only at h4
          split at h4
          · rename_i so2
            refine fun σ5 F5 H5 fp5 o5 s5 sat5 => ⟨F5, env2, fp5, sat5, so2, (o5 i (offI_i S i)).trans es4, ?_⟩
            have h5 := PostS.step h2 (.of off4 hS2) st4
            rw [ef] at h5
            simp only at h5
            rw [if_pos so2] at h5
            exact PostS.step h5 (fun j hj => o5 j (sub j hj)) s5
          · exact h4.elim
        | bk env2 => rw [ef] at h4; exact h4
        | rt r env2 => rw [ef] at h4; exact h4
        | ex c env2 => rw [ef] at h4; exact h4
  · have e : k = items.length := by omega
    subst e
    rw [List.drop_length] at h2
    exact .inl ⟨⟨vs, SqL.of hvs, by omega⟩, h2 σ' F' H' fp' (.refl _ _) (StepS.of_ext (.refl sat'.fh) fp') sat'⟩
end
end Mir
end
set_option Elab.async false
set_option linter.all false
set_option maxRecDepth 100000
set_option maxHeartbeats 4000000
noncomputable section
namespace Mir
open PySem PySem.Spec L2

/-! ### the end: the law's mirror says True -/
def spL (K : PySem.W.Frag) (m : List D → R Ow) : Sp := fun vs H Q _ => ∃ F ds r, Same F H ∧ DpAll K F vs ds ∧ ds.length = 1 ∧ m ds = .ok r ∧ ∀ v F' H', Ext F H F' H' → POw K H r v F' H' → Q v H'
theorem fnOk_spL {P : Program} {w : World} {K : PySem.W.Frag} {mg : Str → Option Value} {base : Heap} {CX : CXT} {k : Nat} {f : Addr} {fd : FuncData} {ps : List Str} {m : List D → R Ow} (h : FnOk P w K mg base CX k f fd ps (spM K mg 1 m)) : FnOk P w K mg base CX k f fd ps (spL K m) :=
  h.imp fun vs H Q E ⟨F, ds, r, h1, h2, h3, h4, h5⟩ => ⟨F, ds, h1, h2, h3, by rw [h4]; exact h5⟩
theorem law_end {l : PySem.W.OpenLaw} {q : Program} {loose : List Str} {XP : (Str → Option Value) → Heap → Prop} {YP : World → Heap → Prop} {d : DefRec} {K : Params → PySem.W.Frag} {m : List D → R Ow} (k : Nat) (x : Str) (hn : l.most = some 63) (hdf : d.params.defaults = []) (hr : Room k callerA)
    (hY : ∀ (w : World) (h : Heap), YP w h → (K w.params).In h)
    (hm : ∀ ns : List Int, ns.length ≤ 63 → (∀ z ∈ ns, Builtin.Int.intBits z ≤ 1048576) → m [.list (ns.map .int)] = .ok (.d (.bool true)))
    (F : ∀ (w : World) (mg : Str → Option Value) (fa : Addr) (h : Heap), (K w.params).In h → h.Ns PySem.mainGlobals mg → mg d.name = some (.ref fa) →
      ∃ fd : FuncData, (∀ (s : Shared) (u : Value), BindsTo s fd ⟨[u], []⟩ [(x, u)]) ∧ ∀ base : Heap, (K w.params).In base → base.Ns PySem.mainGlobals mg → FnOk l.prog w (K w.params) mg base (L2.CX l.prog w) k fa fd [x] (spM (K w.params) mg 1 m)) :
    PySem.W.WalkO q loose XP YP l.row.toRowW d [] (fun f vs => PySem.call f vs) := by
  refine L2.walk_ofB (n := 63) (k := k) (x := x) (CX := fun w => L2.CX l.prog w) (sp := fun w => spL (K w.params) m) hn (by decide) hdf hr hY (fun w mg fa h a b c => ?_) (fun w H a ns hl hb _ hS => ?_) fun w H s e s' z => ?_
  · obtain ⟨fd, h1, h2⟩ := F w mg fa h a b c
    exact ⟨fd, h1, fun base p q => fnOk_spL (h2 base p q)⟩
  · refine ⟨H, [.list (ns.map .int)], _, Same.refl _, .cons (.lst hS (DpAll.of_ints ns)) .nil, rfl, hm ns hl hb, fun v F' H' _ ⟨fp, ow, _⟩ => ?_⟩
    cases ow with
    | d h => cases h; rfl
  · obtain ⟨_, _, _, _, _, _, _, _, _, _, _, _, z⟩ := z
    exact z
theorem room_eq {k : Nat} {A : Around} (r : Room k A) : A.units + 140 < cLine := by have := r.un; omega
end Mir
end
set_option Elab.async false
set_option linter.all false
set_option maxRecDepth 100000
set_option maxHeartbeats 4000000
noncomputable section
namespace Mir
open PySem PySem.Spec L2
section
variable {X : Cx} {W : WX} {S : Nat → Bool}
/-! x += e, of ints or texts -/
def gAddA : D → D → Option D
  | .int i, .int j => some (.int (i + j))
  | .str x, .str y => if x.length + y.length ≤ sizeLine then some (.str (x ++ y)) else none
  | _, _ => none
theorem iop_addA : OpR X (inplaceOp .Add) (fun x y H Q => rI0 (fun i j => .int (i + j)) x y H Q ∨ ∃ i j, x = .str i ∧ y = .str j ∧ i.length + j.length ≤ sizeLine ∧ Q (.str (i ++ j)) H) := OpR.or iop_add iop_add_str
theorem opS_addA {K : PySem.W.Frag} : OpS K (fun x y H Q => rI0 (fun i j => .int (i + j)) x y H Q ∨ ∃ i j, x = .str i ∧ y = .str j ∧ i.length + j.length ≤ sizeLine ∧ Q (.str (i ++ j)) H) gAddA := by
  intro H x y dx dy d Q hx hy e q
  unfold gAddA at e
  split at e
  · cases e
    cases dp_int hx
    cases dp_int hy
    exact .inl ⟨_, _, rfl, rfl, q _ fun F => .int _⟩
  · split at e
    · cases e
      cases dp_str hx
      cases dp_str hy
      exact .inr ⟨_, _, rfl, rfl, ‹_›, q _ fun F => .str _⟩
    · cases e
  · cases e
/-- name = [..], the list made data -/
theorem ds_setLcF {elt tg iter : Expr} {ifs : List Expr} {scope : Scope} {own : List (Str × Nat)} {g : D → Ev → Option Ev} {fi : Ev → R (List D)} {fc : Ev → R Bool} {fe : Ev → R Ow} {ix : List Nat} {y : Str} {py spos pos : Pos} (i : Nat) (hc : X.calm = true) (hN : X.N.Nodup) (hi : DI X W tg iter fi) (ok : BlkOk X.N X.env.scope scope own)
    (hg : ∀ (s : Shared) (H : Hp) (C : Addr) (cl : List (Str × Addr)) (fp : List Addr), DG (X.blk s H scope (compEnvC scope cl C X.env) fp) tg ix g) (ht : ∀ (s : Shared) (H : Hp) (C : Addr) (cl : List (Str × Addr)) (fp : List Addr), DTs (X.blk s H scope (compEnvC scope cl C X.env) fp) W0 ifs fc)
    (he : ∀ (s : Shared) (H : Hp) (C : Addr) (cl : List (Str × Addr)) (fp : List Addr), DE (X.blk s H scope (compEnvC scope cl C X.env) fp) W0 elt fe) (hix : ∀ i ∈ ix, i ∈ own.map (·.2) := by decide) (hs : ∀ x, foldedSetIterable iter X.env x = pure x := by intro _; rfl)
    (hy : X.N[i]? = some y := by rfl) (hyl : X.env.scope.names.lookup y = some .local := by rfl) (hsw : swapsWith (.ListComp elt [⟨tg, iter, ifs, 0⟩] scope pos) (some (.Name y py)) spos.line X.env = pure true := by exact sw_true rfl rfl rfl (by decide +kernel)) (hS : S i = true := by rfl) :
    DS X W S (.Assign [.Name y py] (.ListComp elt [⟨tg, iter, ifs, 0⟩] scope pos) spos) (sSet i (eM (eM (eLc fi g fc fe (own.map (·.2))) viewD) Ow.d)) := by
  obtain ⟨wi, pi, si⟩ := hi
  refine ⟨_, ps_setLc (g := tgOf X.K ix g) (tt := tOf X.K (Post X W0 PTb) fc) (te := tOf X.K (Post X W0 (POw X.K)) fe) hc hN hy hyl hsw pi ok (fun s H C cl fp => hg s H C cl fp) (fun s H C cl fp => (ht s H C cl fp).can) (fun s H C cl fp => (he s H C cl fp).can) hs, fun F H σ env fp D sat h => ?_⟩
  refine de_lc_core si hix F H σ env fp _ sat ?_
  unfold sSet eM at h
  cases e : eLc fi g fc fe (own.map (·.2)) env with
  | no => rw [e] at h; exact h
  | ex c => rw [e] at h; exact fun C F' H' m x => h C σ F' H' fp m (.refl _ _) (StepS.of_ext x fp) (sat.ext x)
  | ok r =>
    rw [e] at h
    intro v F' H' x ⟨fx, q, nd, n⟩
    have h' : PostS X W S σ F H fp D (if i < env.length then .nx (env.set i (some (.d (viewD r)))) else .no) := h
    split at h'
    · obtain ⟨F2, x2, q2⟩ := x.freeze q n
      obtain ⟨fp', s1, s2⟩ := put_step sat x2 (.d q2) List.nodup_nil (fun _ z => nomatch z) ‹_›
      exact h' _ F2 H' fp' (.set hS _) s1 s2
    · exact h'.elim
end
end Mir
end
set_option Elab.async false
set_option linter.all false
set_option maxRecDepth 100000
set_option maxHeartbeats 4000000
noncomputable section
namespace Mir
open PySem PySem.Spec L2

/-! ### mirrors reckoned: rows for simp -/
section
variable {α β γ : Type} (env : Ev)
@[simp] theorem eB_eq (f : Ev → R α) (g : α → R β) : eB f g env = (f env).bind g := rfl
@[simp] theorem eM_eq (f : Ev → R α) (g : α → β) : eM f g env = (f env).map g := rfl
@[simp] theorem eC_eq (d : D) : eC d env = .ok d := rfl
@[simp] theorem aNil_eq : aNil env = .ok [] := rfl
@[simp] theorem aCons_eq (f : Ev → R D) (g : Ev → R (List D)) : aCons f g env = (f env).bind fun d => (g env).map fun ds => d :: ds := rfl
@[simp] theorem eTup_eq (f : Ev → R (List D)) : eTup f env = (f env).bind fun ds => guard (ds.length ≤ sizeLine) (.ok (.tuple ds)) := rfl
@[simp] theorem eLst_eq (f : Ev → R (List D)) : eLst f env = (f env).bind fun ds => guard (ds.length ≤ sizeLine) (.ok (.l (ds.map Ow.d))) := rfl
@[simp] theorem eBin_eq (g : D → D → Option D) (f h : Ev → R D) : eBin g f h env = (f env).bind fun x => (h env).bind fun y => R.of (g x y) := rfl
@[simp] theorem eBinO_eq (g : D → D → Option Ow) (f h : Ev → R D) : eBinO g f h env = (f env).bind fun x => (h env).bind fun y => R.of (g x y) := rfl
@[simp] theorem eCa_eq (g : List D → Option Ow) (f : Ev → R (List D)) : eCa g f env = (f env).bind fun ds => R.of (g ds) := rfl
@[simp] theorem eNot_eq (f : Ev → R D) : eNot f env = ((f env).bind asB).bind fun b => .ok (.bool !b) := rfl
@[simp] theorem eAnd_eq (f g : Ev → R D) : eAnd f g env = ((f env).bind asB).bind fun b => if b = true then g env else .ok (.bool false) := rfl
@[simp] theorem eOr_eq (f g : Ev → R D) : eOr f g env = ((f env).bind asB).bind fun b => if b = true then .ok (.bool true) else g env := rfl
@[simp] theorem eIf_eq (c : Ev → R Bool) (f g : Ev → R D) : eIf c f g env = (c env).bind fun b => if b = true then f env else g env := rfl
@[simp] theorem tNotE_eq (f : Ev → R Bool) : tNotE f env = (f env).map (!·) := rfl
@[simp] theorem tAndE_eq (f g : Ev → R Bool) : tAndE f g env = (f env).bind fun b => if b = true then g env else .ok false := rfl
@[simp] theorem tOrE_eq (f g : Ev → R Bool) : tOrE f g env = (f env).bind fun b => if b = true then .ok true else g env := rfl
@[simp] theorem eRep_eq (f : Ev → R Ow) (g : Ev → R D) : eRep f g env = (f env).bind fun o => (g env).bind fun d => repO o d := rfl
@[simp] theorem eIxO_eq (f : Ev → R Ow) (g : Ev → R D) : eIxO f g env = (f env).bind fun o => (g env).bind fun d => ixO o d := rfl
@[simp] theorem eSl_eq (f : Ev → R D) (l h : Ev → R (Option Int)) : eSl f l h env = (f env).bind fun x => (l env).bind fun i => (h env).bind fun j => R.of (gSl x i j) := rfl
@[simp] theorem oNone_eq : oNone env = .ok none := rfl
@[simp] theorem asI_eq (i : Int) : asI (.int i) = .ok (some i) := rfl
@[simp] theorem cYes_eq : cYes env = .ok true := rfl
theorem eVar_eq {i : Nat} {x : D} (h : env[i]? = some (some (.d x))) : eVar i env = .ok x := by unfold eVar; rw [h]
theorem eVarO_eq {i : Nat} {x : Ow} (h : env[i]? = some (some x)) : eVarO i env = .ok x := by unfold eVarO; rw [h]
@[simp] theorem eVar_0 (x : D) : eVar 0 (some (.d x) :: env) = .ok x := rfl
@[simp] theorem eVarO_0 (x : Ow) : eVarO 0 (some x :: env) = .ok x := rfl
@[simp] theorem eVar_s (i : Nat) (x : Option Ow) : eVar (i + 1) (x :: env) = eVar i env := by unfold eVar; rw [List.getElem?_cons_succ]
@[simp] theorem eVarO_s (i : Nat) (x : Option Ow) : eVarO (i + 1) (x :: env) = eVarO i env := by unfold eVarO; rw [List.getElem?_cons_succ]
@[simp] theorem eVar_1 (a : Option Ow) (x : D) : eVar 1 (a :: some (.d x) :: env) = .ok x := rfl
@[simp] theorem eVar_2 (a b : Option Ow) (x : D) : eVar 2 (a :: b :: some (.d x) :: env) = .ok x := rfl
@[simp] theorem eVar_3 (a b c : Option Ow) (x : D) : eVar 3 (a :: b :: c :: some (.d x) :: env) = .ok x := rfl
@[simp] theorem eVar_4 (a b c d : Option Ow) (x : D) : eVar 4 (a :: b :: c :: d :: some (.d x) :: env) = .ok x := rfl
@[simp] theorem eVar_5 (a b c d e : Option Ow) (x : D) : eVar 5 (a :: b :: c :: d :: e :: some (.d x) :: env) = .ok x := rfl
@[simp] theorem eVar_6 (a b c d e f : Option Ow) (x : D) : eVar 6 (a :: b :: c :: d :: e :: f :: some (.d x) :: env) = .ok x := rfl
@[simp] theorem eVar_7 (a b c d e f g : Option Ow) (x : D) : eVar 7 (a :: b :: c :: d :: e :: f :: g :: some (.d x) :: env) = .ok x := rfl
@[simp] theorem eVar_8 (a b c d e f g h : Option Ow) (x : D) : eVar 8 (a :: b :: c :: d :: e :: f :: g :: h :: some (.d x) :: env) = .ok x := rfl
@[simp] theorem eVar_9 (a b c d e f g h i : Option Ow) (x : D) : eVar 9 (a :: b :: c :: d :: e :: f :: g :: h :: i :: some (.d x) :: env) = .ok x := rfl
@[simp] theorem eVarO_1 (a : Option Ow) (x : Ow) : eVarO 1 (a :: some x :: env) = .ok x := rfl
@[simp] theorem eVarO_2 (a b : Option Ow) (x : Ow) : eVarO 2 (a :: b :: some x :: env) = .ok x := rfl
@[simp] theorem eVarO_3 (a b c : Option Ow) (x : Ow) : eVarO 3 (a :: b :: c :: some x :: env) = .ok x := rfl
@[simp] theorem eVarO_4 (a b c d : Option Ow) (x : Ow) : eVarO 4 (a :: b :: c :: d :: some x :: env) = .ok x := rfl
@[simp] theorem eVarO_5 (a b c d e : Option Ow) (x : Ow) : eVarO 5 (a :: b :: c :: d :: e :: some x :: env) = .ok x := rfl
@[simp] theorem eVarO_6 (a b c d e f : Option Ow) (x : Ow) : eVarO 6 (a :: b :: c :: d :: e :: f :: some x :: env) = .ok x := rfl
@[simp] theorem eVarO_7 (a b c d e f g : Option Ow) (x : Ow) : eVarO 7 (a :: b :: c :: d :: e :: f :: g :: some x :: env) = .ok x := rfl
@[simp] theorem sSkip_eq : sSkip env = .nx env := rfl
@[simp] theorem sSeq_eq (f g : Ev → SR) : sSeq f g env = (f env).andThen g := rfl
@[simp] theorem sSet_eq (i : Nat) (f : Ev → R Ow) : sSet i f env = (f env).st env fun r => if i < env.length then .nx (env.set i (some r)) else .no := rfl
@[simp] theorem sRet_eq (f : Ev → R Ow) : sRet f env = (f env).st env fun r => .rt r env := rfl
@[simp] theorem sRetN_eq : sRetN env = .rt (.d .none) env := rfl
theorem sRetV_of {i : Nat} {o : Ow} (h : env[i]? = some (some o)) : sRetV i env = .rt o (env.set i none) := by unfold sRetV; rw [h]
@[simp] theorem sIf_eq (c : Ev → R Bool) (f g : Ev → SR) : sIf c f g env = (c env).st env fun b => if b = true then f env else g env := rfl
@[simp] theorem sFor_eq (it : Ev → R (List D)) (g : D → Ev → Option Ev) (f : Ev → SR) : sFor it g f env = (it env).st env fun ds => forL g f ds env := rfl
@[simp] theorem sDrop_eq (f : Ev → R D) : sDrop f env = (f env).st env fun _ => .nx env := rfl
@[simp] theorem sAug_eq (h : D → D → Option D) (i : Nat) (f : Ev → R D) : sAug h i f env = (((eVar i env).bind fun x => (f env).bind fun y => R.of (h x y)).st env fun d => if i < env.length then .nx (env.set i (some (.d d))) else .no) := rfl
@[simp] theorem sAsg_eq (g : D → Ev → Option Ev) (f : Ev → R D) : sAsg g f env = (f env).st env fun d => match g d env with
  | some env' => .nx env'
  | none => .no := rfl
theorem ownL_of {i : Nat} {os : List Ow} (h : env[i]? = some (some (.l os))) (k : List Ow → SR) : ownL i env k = k os := by unfold ownL; rw [h]
@[simp] theorem sApp_eq (i : Nat) (f : Ev → R Ow) : sApp i f env = ownL i env fun os => (f env).st env fun r => if os.length < sizeLine then .nx (env.set i (some (.l (os ++ [r])))) else .no := rfl
@[simp] theorem sExt_eq (i : Nat) (f : Ev → R D) : sExt i f env = ownL i env fun os => (f env).st env fun d => (asL d).st env fun ds => if os.length + ds.length ≤ sizeLine then .nx (env.set i (some (.l (os ++ ds.map Ow.d)))) else .no := rfl
@[simp] theorem sPut_eq (i : Nat) (f : Ev → R Ow) (g : Ev → R D) : sPut i f g env = (f env).st env fun r => ownL i env fun os => (g env).st env (putAt i env os r) := rfl
@[simp] theorem ownL_0 (os : List Ow) (k : List Ow → SR) : ownL 0 (some (.l os) :: env) k = k os := rfl
@[simp] theorem ownL_1 (a : Option Ow) (os : List Ow) (k : List Ow → SR) : ownL 1 (a :: some (.l os) :: env) k = k os := rfl
@[simp] theorem ownL_2 (a b : Option Ow) (os : List Ow) (k : List Ow → SR) : ownL 2 (a :: b :: some (.l os) :: env) k = k os := rfl
@[simp] theorem ownL_3 (a b c : Option Ow) (os : List Ow) (k : List Ow → SR) : ownL 3 (a :: b :: c :: some (.l os) :: env) k = k os := rfl
@[simp] theorem ownL_4 (a b c d : Option Ow) (os : List Ow) (k : List Ow → SR) : ownL 4 (a :: b :: c :: d :: some (.l os) :: env) k = k os := rfl
@[simp] theorem ownL_5 (a b c d e : Option Ow) (os : List Ow) (k : List Ow → SR) : ownL 5 (a :: b :: c :: d :: e :: some (.l os) :: env) k = k os := rfl
@[simp] theorem ownL_6 (a b c d e f : Option Ow) (os : List Ow) (k : List Ow → SR) : ownL 6 (a :: b :: c :: d :: e :: f :: some (.l os) :: env) k = k os := rfl
@[simp] theorem gtName_eq (i : Nat) (d : D) : gtName i d env = if i < env.length then some (env.set i (some (.d d))) else none := rfl
@[simp] theorem gtTup_eq (n : Nat) (h : List D → Ev → Option Ev) (ds : List D) : gtTup n h (.tuple ds) env = if ds.length = n then h ds env else none := rfl
@[simp] theorem gtCons_eq (g : D → Ev → Option Ev) (h : List D → Ev → Option Ev) (d : D) (ds : List D) : gtCons g h (d :: ds) env = (g d env).bind (h ds) := rfl
@[simp] theorem gtNil_eq : gtNil [] env = some env := rfl
theorem guard_ok {c : Prop} {r : R α} (h : c) : guard c r = r := guard_pos h
@[simp] theorem guard_true {r : R α} : guard True r = r := guard_pos trivial
@[simp] theorem guard_small {a : Nat} {r : R α} (h : a ≤ sizeLine) : guard (a ≤ sizeLine) r = r := guard_pos h
end
@[simp] theorem gAddA_int (i j : Int) : gAddA (.int i) (.int j) = some (.int (i + j)) := rfl
@[simp] theorem gEq_int (i j : Int) : gEq (.int i) (.int j) = some (.bool (i == j)) := rfl
@[simp] theorem gNe_int (i j : Int) : gNe (.int i) (.int j) = some (.bool (!(i == j))) := rfl
@[simp] theorem gNeg_int (i : Int) : gNeg (.int i) = .ok (.int (-i)) := rfl
@[simp] theorem gIx_lst (ds : List D) (i : Int) : gIx (.list ds) (.int i) = atI ds i := rfl
@[simp] theorem gIsi_int_int (i : Int) : gIsi "int" (.int i) = .ok (.bool true) := by rfl
@[simp] theorem gIsi_bool_int (i : Int) : gIsi "bool" (.int i) = .ok (.bool false) := by first | rfl | decide +kernel | kernel_rfl
@[simp] theorem gIsi_list_list (ds : List D) : gIsi "list" (.list ds) = .ok (.bool true) := by rfl
@[simp] theorem gIsi_tup_tup (ds : List D) : gIsi "tuple" (.tuple ds) = .ok (.bool true) := by rfl
@[simp] theorem ixO_l (os : List Ow) (k : Int) : ixO (.l os) (.int k) = match atI os k with
    | some o => .ok o
    | none => .no := rfl
@[simp] theorem R.st_no {α : Type} (env : Ev) (f : α → SR) : (R.no : R α).st env f = .no := rfl
/-! items by place -/
theorem atI_natD {α : Type} {xs : List α} {k : Nat} {x : α} (h : xs[k]? = some x) : atI xs (k : Int) = some x := by
  unfold atI ixN
  have hl := (List.getElem?_eq_some_iff.mp h).1
  rw [if_pos (by omega), if_pos (by omega)]
  simpa using h
theorem ixN_nat {n k : Nat} (h : k < n) : ixN n (k : Int) = some k := by
  unfold ixN
  rw [if_pos (by omega), if_pos (by omega)]
  simp
@[simp] theorem atI_0 {α : Type} (x : α) (xs : List α) : atI (x :: xs) 0 = some x := atI_natD (k := 0) rfl
@[simp] theorem atI_1 {α : Type} (x y : α) (xs : List α) : atI (x :: y :: xs) 1 = some y := atI_natD (k := 1) rfl
@[simp] theorem atI_2 {α : Type} (x y z : α) (xs : List α) : atI (x :: y :: z :: xs) 2 = some z := atI_natD (k := 2) rfl
@[simp] theorem atI_3 {α : Type} (x y z u : α) (xs : List α) : atI (x :: y :: z :: u :: xs) 3 = some u := atI_natD (k := 3) rfl
@[simp] theorem atI_4 {α : Type} (x y z u v : α) (xs : List α) : atI (x :: y :: z :: u :: v :: xs) 4 = some v := atI_natD (k := 4) rfl
/-! loops -/
theorem forL_ind {g : D → Ev → Option Ev} {f : Ev → SR} (items : List D) (I : Nat → Ev → Prop) (step : ∀ i d env, items[i]? = some d → I i env → ∃ env1, g d env = some env1 ∧ ∃ env2, (f env1 = .nx env2 ∨ f env1 = .ct env2) ∧ I (i + 1) env2) :
    ∀ env, I 0 env → ∃ env', forL g f items env = .nx env' ∧ I items.length env' := by
  suffices h : ∀ (ds : List D) (k : Nat) (env : Ev), items.drop k = ds → k ≤ items.length → I k env → ∃ env', forL g f ds env = .nx env' ∧ I items.length env' from fun env h0 => h items 0 env rfl (Nat.zero_le _) h0
  intro ds
  induction ds with
  | nil =>
    intro k env hd hk h
    have : k = items.length := by
      have := congrArg List.length hd
      simp at this
      omega
    subst this
    exact ⟨env, rfl, h⟩
  | cons d ds ih =>
    intro k env hd hk h
    have hk' : k < items.length := by
      have := congrArg List.length hd
      simp at this
      omega
    rw [List.drop_eq_getElem_cons hk'] at hd
    obtain ⟨e1, e2⟩ := List.cons.inj hd
    obtain ⟨env1, g1, env2, g2, g3⟩ := step k d env (by rw [List.getElem?_eq_getElem hk', e1]) h
    obtain ⟨env', r1, r2⟩ := ih (k + 1) env2 e2 hk' g3
    refine ⟨env', ?_, r2⟩
    unfold forL
    rw [g1]
    rcases g2 with g2 | g2 <;> (simp only; rw [g2]; exact r1)
theorem forLV_ind {g : D → Ev → Option Ev} {f : Ev → SR} {j : Nat} {os : List Ow} (items : List D) (I : Nat → Ev → Prop) (step : ∀ i d env, items[i]? = some d → I i env → ∃ env1, g d env = some env1 ∧ ∃ env2, (f env1 = .nx env2 ∨ f env1 = .ct env2) ∧ env2[j]? = some (some (.l os)) ∧ I (i + 1) env2) :
    ∀ env, I 0 env → ∃ env', forLV j os g f items env = .nx env' ∧ I items.length env' := by
  suffices h : ∀ (ds : List D) (k : Nat) (env : Ev), items.drop k = ds → k ≤ items.length → I k env → ∃ env', forLV j os g f ds env = .nx env' ∧ I items.length env' from fun env h0 => h items 0 env rfl (Nat.zero_le _) h0
  intro ds
  induction ds with
  | nil =>
    intro k env hd hk h
    have : k = items.length := by
      have := congrArg List.length hd
      simp at this
      omega
    subst this
    exact ⟨env, rfl, h⟩
  | cons d ds ih =>
    intro k env hd hk h
    have hk' : k < items.length := by
      have := congrArg List.length hd
      simp at this
      omega
    rw [List.drop_eq_getElem_cons hk'] at hd
    obtain ⟨e1, e2⟩ := List.cons.inj hd
    obtain ⟨env1, g1, env2, g2, so, g3⟩ := step k d env (by rw [List.getElem?_eq_getElem hk', e1]) h
    obtain ⟨env', r1, r2⟩ := ih (k + 1) env2 e2 hk' g3
    refine ⟨env', ?_, r2⟩
    unfold forLV
    rw [g1]
    rcases g2 with g2 | g2 <;> (simp only; rw [g2]; simp only; rw [if_pos (show sameO j os env2 from so)]; exact r1)
theorem lcR_all {g : D → Ev → Option Ev} {c : Ev → R Bool} {e : Ev → R Ow} {env : Ev} (h : D → Ow) : ∀ ds : List D, (∀ d ∈ ds, ∃ env1, g d env = some env1 ∧ c env1 = .ok true ∧ e env1 = .ok (h d)) → lcR g c e env ds = .ok (ds.map h)
  | [], _ => rfl
  | d :: ds, q => by
    obtain ⟨env1, q1, q2, q3⟩ := q d List.mem_cons_self
    unfold lcR
    rw [q1]
    simp only [q2, q3, noEx_ok, R.bind_ok, if_true]
    rw [lcR_all h ds fun d hd => q d (List.mem_cons_of_mem _ hd)]
    rfl
theorem lcR_none {g : D → Ev → Option Ev} {c : Ev → R Bool} {e : Ev → R Ow} {env : Ev} : ∀ ds : List D, (∀ d ∈ ds, ∃ env1, g d env = some env1 ∧ c env1 = .ok false) → lcR g c e env ds = .ok []
  | [], _ => rfl
  | d :: ds, q => by
    obtain ⟨env1, q1, q2⟩ := q d List.mem_cons_self
    unfold lcR
    rw [q1]
    simp only [q2, noEx_ok, R.bind_ok, if_false]
    rw [lcR_none ds fun d hd => q d (List.mem_cons_of_mem _ hd)]
    rfl
theorem eLc_of {fi : Ev → R (List D)} {g : D → Ev → Option Ev} {c : Ev → R Bool} {e : Ev → R Ow} {vs : List Nat} {env : Ev} {ds : List D} {rs : List Ow} (h1 : fi env = .ok ds) (hl : ds.length ≤ sizeLine) (h2 : lcR g c e (wipeE env vs) ds = .ok rs) : eLc fi g c e vs env = .ok (.l rs) := by
  unfold eLc
  rw [h1, R.bind_ok, guard_ok hl, h2]
  rfl
theorem repO_of {os : List Ow} {ds : List D} {k : Int} (h : unDs os = some ds) (c : -(2 ^ 63) ≤ k ∧ k < 2 ^ 63 ∧ os.length * k.toNat ≤ sizeLine) : repO (.l os) (.int k) = .ok (.l ((List.replicate k.toNat ds).flatten.map Ow.d)) := by
  unfold repO
  simp only [h]
  exact guard_ok c
def finR : SR → R Ow
  | .nx _ => .ok (.d .none)
  | .rt r _ => .ok r
  | .ex c _ => .ex c
  | _ => .no
theorem runB_fin (k : Nat) (f : Ev → SR) (ds : List D) : runB k f ds = finR (f (envOf k ds)) := by
  unfold runB
  cases f (envOf k ds) <;> rfl
@[simp] theorem finR_nx (env : Ev) : finR (.nx env) = .ok (.d .none) := rfl
@[simp] theorem finR_rt (r : Ow) (env : Ev) : finR (.rt r env) = .ok r := rfl
@[simp] theorem finR_ex (c : Str) (env : Ev) : finR (.ex c env) = .ex c := rfl
@[simp] theorem finR_no : finR .no = .no := rfl
@[simp] theorem envOf_nil (k : Nat) : envOf k [] = List.replicate k none := rfl
@[simp] theorem envOf_cons (k : Nat) (d : D) (ds : List D) : envOf k (d :: ds) = some (.d d) :: envOf k ds := rfl
end Mir
end
set_option Elab.async false
set_option linter.all false
set_option maxRecDepth 100000
set_option maxHeartbeats 4000000
noncomputable section
namespace Mir
open PySem PySem.Spec L2

/-! ### what is not mirrored: it must not be reached -/
section
variable {X : Cx} {W : WX} {S : Nat → Bool}
def sNo (_ : Ev) : SR := .no
theorem ds_no {st : Stmt} : DS X W S st sNo := ⟨fun _ _ _ => False, ⟨fun pins s σ H D I h => h.elim⟩, fun F H σ env fp D sat h => h⟩
def eNo {α : Type} (_ : Ev) : R α := .no
theorem df_no {e : Expr} : DF X W e eNo := ⟨fun _ _ _ => False, ⟨fun pins s σ H Q I h => h.elim⟩, fun F H σ env fp Q sat h => h⟩
theorem de_no {e : Expr} : DE X W e eNo := ⟨fun _ _ _ => False, ⟨fun pins s σ H Q I h => h.elim⟩, fun F H σ env fp Q sat h => h⟩

/-! ### in, not in -/
def inD (d : D) (ds : List D) : Bool := ds.any fun e => PyData.eqv e d
def inOk (d : D) (ds : List D) : Bool := d.canLay0 && decide (d.depth ≤ 130) && ds.all fun e => e.canLay0
def gInB (neg : Bool) : D → D → Option D
  | .str x, .str z => match x.cps.toList with
    | [c] => some (.bool (xor neg (decide (c ∈ z.cps.toList))))
    | _ => none
  | d, .list ds => if inOk d ds = true then some (.bool (xor neg (inD d ds))) else none
  | d, .tuple ds => if inOk d ds = true then some (.bool (xor neg (inD d ds))) else none
  | _, _ => none
def gIn := gInB false
def gNotIn := gInB true
def rInA (K : PySem.W.Frag) (neg : Bool) : R2 := fun x y H Q => ∃ d ds, Dp K H x d ∧ (Dp K H y (.list ds) ∨ Dp K H y (.tuple ds)) ∧ inOk d ds = true ∧ Q (.bl (xor neg (inD d ds))) H
theorem inOk_cases {d : D} {ds : List D} (h : inOk d ds = true) : d.canLay0 = true ∧ d.depth ≤ 130 ∧ ∀ e ∈ ds, e.canLay0 = true := by
  unfold inOk at h
  simp only [Bool.and_eq_true, decide_eq_true_eq, List.all_eq_true] at h
  exact ⟨h.1.1, h.1.2, h.2⟩
open Classical in
/-- what the items answer, by the values -/
def eqW (s : Shared) (d : D) (ds : List D) (u : Value) : Bool := if ∃ e as, e ∈ ds ∧ PySem.Reads s.heap u e as ∧ PyData.eqv e d = true then true else false
theorem eqW_of {s : Shared} {d e : D} {ds : List D} {u : Value} {as : List Addr} (he : e ∈ ds) (hc : ∀ e ∈ ds, e.canLay0 = true) (r : PySem.Reads s.heap u e as) : eqW s d ds u = PyData.eqv e d := by
  unfold eqW
  cases h : PyData.eqv e d with
  | true => exact if_pos ⟨e, as, he, r, h⟩
  | false =>
    refine if_neg fun ⟨e', as', h1, h2, h3⟩ => ?_
    have := SeqAt.Reads.unique e' e u as' as (hc e' h1) h2 r
    subst this
    rw [h] at h3; cases h3
theorem any_eqW {s : Shared} {d : D} {ds0 : List D} (hc : ∀ e ∈ ds0, e.canLay0 = true) : ∀ {ds : List D} {us : List Value}, (∀ e ∈ ds, e ∈ ds0) → PySem.W.EachIs (fun v d => ∃ as, PySem.Reads s.heap v d as) us ds → us.any (eqW s d ds0) = ds.any fun e => PyData.eqv e d
  | _, _, _, .nil => rfl
  | _, _, hs, .cons ⟨as, r⟩ t => by
    rw [List.any_cons, List.any_cons, eqW_of (hs _ List.mem_cons_self) hc r, any_eqW hc (fun e he => hs e (List.mem_cons_of_mem _ he)) t]
theorem eachIs_mem {α β : Type} {T : α → β → Prop} : ∀ {as : List α} {bs : List β}, PySem.W.EachIs T as bs → ∀ a ∈ as, ∃ b ∈ bs, T a b
  | _, _, .nil, a, h => by cases h
  | _, _, .cons h t, a, hm => by
    rcases List.mem_cons.mp hm with e | e
    · subst e; exact ⟨_, List.mem_cons_self, h⟩
    · obtain ⟨b, b1, b2⟩ := eachIs_mem t a e
      exact ⟨b, List.mem_cons_of_mem _ b1, b2⟩
theorem op_inA (neg : Bool) (hu : X.A.units + 140 < cLine) : OpR X (compareOp (if neg then .NotIn else .In)) (rInA X.K neg) := by
  intro pins s σ H x y v u Q I rx ry h
  obtain ⟨d, ds, hx, hy, ok, q⟩ := h
  obtain ⟨c1, c2, c3⟩ := inOk_cases ok
  obtain ⟨bs, rd⟩ := Dp.reads I d x v hx rx
  have key : ∀ (its : List Value), PySem.W.EachIs (fun v d => ∃ as, PySem.Reads s.heap v d as) its ds → (∀ y, y ∈ its.toArray → SeqAt.EqAt X.A.in1 s y v (eqW s d ds y)) ∧ its.toArray.any (eqW s d ds) = inD d ds := fun its er => by
    refine ⟨fun w hw => ?_, ?_⟩
    · obtain ⟨e, he, as, re⟩ := eachIs_mem er w (by simpa using hw)
      rw [eqW_of he c3 re]
      refine SeqAt.eqAt_reads e d X.A.in1 s w v as bs re rd (c3 e he) c1 ?_
      have := Nat.min_le_right e.depth d.depth
      show X.A.units + 1 + min e.depth d.depth < cLine
      omega
    · rw [show its.toArray.any (eqW s d ds) = its.any (eqW s d ds) by simp, any_eqW c3 (fun _ h => h) er]
      rfl
  rcases hy with hy | hy
  · obtain ⟨p, xs, rfl, h1, h2⟩ := dp_lst hy
    obtain ⟨its, r, pl, hz⟩ := I.list h1
    cases ry
    obtain ⟨k1, k2⟩ := key its (each_reads I r h2)
    cases neg with
    | false => exact SeqAt.in_listAt (eqW s d ds) pl.isList k1 ⟨.bl _, H, I, by rw [k2]; rfl, by simpa using q⟩
    | true => exact SeqAt.notIn_listAt (eqW s d ds) pl.isList k1 ⟨.bl _, H, I, by rw [k2]; rfl, by simpa using q⟩
  · obtain ⟨p, xs, rfl, h1, h2⟩ := dp_tup hy
    obtain ⟨its, r, pl, hz⟩ := I.tuple h1
    cases ry
    obtain ⟨k1, k2⟩ := key its (each_reads I r h2)
    cases neg with
    | false => exact SeqAt.in_tupleAt (eqW s d ds) pl k1 ⟨.bl _, H, I, by rw [k2]; rfl, by simpa using q⟩
    | true => exact SeqAt.notIn_tupleAt (eqW s d ds) pl k1 ⟨.bl _, H, I, by rw [k2]; rfl, by simpa using q⟩
theorem str_one {x : Str} {c : Nat} (h : x.cps.toList = [c]) : x = ⟨#[c]⟩ := by
  cases x with
  | mk a =>
    have : a = #[c] := Array.toList_inj.mp h
    rw [this]
theorem opS_in {K : PySem.W.Frag} : OpS K (fun x y H Q => rInS x y H Q ∨ rInA K false x y H Q) gIn := by
  intro H x y dx dy d Q hx hy e q
  unfold gIn gInB at e
  split at e
  · rename_i a z
    split at e
    · rename_i c hc
      cases e
      cases dp_str hx
      cases dp_str hy
      exact .inl ⟨c, z, by rw [str_one hc], rfl, by simpa using q _ fun F => .bl _⟩
    · cases e
  · split at e
    · cases e
      exact .inr ⟨_, _, hx, .inl hy, ‹_›, q _ fun F => .bl _⟩
    · cases e
  · split at e
    · cases e
      exact .inr ⟨_, _, hx, .inr hy, ‹_›, q _ fun F => .bl _⟩
    · cases e
  · cases e
theorem opS_notIn {K : PySem.W.Frag} : OpS K (fun x y H Q => rNotInS x y H Q ∨ rInA K true x y H Q) gNotIn := by
  intro H x y dx dy d Q hx hy e q
  unfold gNotIn gInB at e
  split at e
  · rename_i a z
    split at e
    · rename_i c hc
      cases e
      cases dp_str hx
      cases dp_str hy
      exact .inl ⟨c, z, by rw [str_one hc], rfl, by simpa using q _ fun F => .bl _⟩
    · cases e
  · split at e
    · cases e
      exact .inr ⟨_, _, hx, .inl hy, ‹_›, q _ fun F => .bl _⟩
    · cases e
  · split at e
    · cases e
      exact .inr ⟨_, _, hx, .inr hy, ‹_›, q _ fun F => .bl _⟩
    · cases e
  · cases e
variable {a b : Expr} {pos : Pos} {f g : Ev → R D}
theorem op_inF (hu : X.A.units + 140 < cLine) : OpR X (compareOp .In) (rInA X.K false) := op_inA false hu
theorem op_inT (hu : X.A.units + 140 < cLine) : OpR X (compareOp .NotIn) (rInA X.K true) := op_inA true hu
theorem df_in (hu : X.A.units + 140 < cLine) (ha : DV X W a f) (hb : DV X W b g) (hm : behindInMarks .In b = false := by first | exact nomark _ | rfl) : DF X W (.Compare a [.In] [b] pos) (eBin gIn f g) := df_cmp (OpR.or op_inS (op_inF hu)) opS_in ha hb hm
theorem df_notIn (hu : X.A.units + 140 < cLine) (ha : DV X W a f) (hb : DV X W b g) (hm : behindInMarks .NotIn b = false := by first | exact nomark _ | rfl) : DF X W (.Compare a [.NotIn] [b] pos) (eBin gNotIn f g) := df_cmp (OpR.or op_notInS (op_inT hu)) opS_notIn ha hb hm
theorem dt_in (hu : X.A.units + 140 < cLine) (ha : DV X W a f) (hb : DV X W b g) (hm : behindInMarks .In b = false := by first | exact nomark _ | rfl) : DT X W (.Compare a [.In] [b] pos) (eB (eBin gIn f g) asB) := dt_cmp (OpR.or op_inS (op_inF hu)) opS_in ha hb hm
theorem dt_notIn (hu : X.A.units + 140 < cLine) (ha : DV X W a f) (hb : DV X W b g) (hm : behindInMarks .NotIn b = false := by first | exact nomark _ | rfl) : DT X W (.Compare a [.NotIn] [b] pos) (eB (eBin gNotIn f g) asB) := dt_cmp (OpR.or op_notInS (op_inT hu)) opS_notIn ha hb hm
end
theorem gIn_sign (c : Nat) (z : Str) : gIn (.str ⟨#[c]⟩) (.str z) = some (.bool (decide (c ∈ z.cps.toList))) := by
  show some (PyData.bool (xor false (decide (c ∈ z.cps.toList)))) = _
  simp
@[simp] theorem sNo_eq (env : Ev) : sNo env = .no := rfl
end Mir
end
set_option Elab.async false
set_option linter.all false
set_option maxRecDepth 100000
set_option maxHeartbeats 4000000
namespace Mir
open PySem PySem.Spec L2

/-! ### trees: a name, a mark, branches -/
inductive Tr where
  | mk (nm : Str) (mk : Int) (bs : List Tr)
mutual
def encT : Tr → D
  | .mk nm k bs => .tuple [.str nm, .int k, .tuple (encTs bs)]
def encTs : List Tr → List D
  | [] => []
  | b :: bs => encT b :: encTs bs
end
mutual
def sizeT : Tr → Nat
  | .mk _ _ bs => 1 + sizeTs bs
def sizeTs : List Tr → Nat
  | [] => 0
  | b :: bs => sizeT b + sizeTs bs
end
mutual
def levT : Tr → Nat
  | .mk _ _ bs => levTs bs + 1
def levTs : List Tr → Nat
  | [] => 0
  | b :: bs => max (levT b) (levTs bs)
end
mutual
def plT : Tr → List (List Nat)
  | .mk _ _ bs => [] :: plTs 0 bs
def plTs : Nat → List Tr → List (List Nat)
  | _, [] => []
  | o, b :: bs => (plT b).map (fun p => o :: p) ++ plTs (o + 1) bs
end
def brs : Tr → List Tr
  | .mk _ _ bs => bs
theorem encTs_map : ∀ bs : List Tr, encTs bs = bs.map encT
  | [] => by rw [encTs]; rfl
  | b :: bs => by rw [encTs, encTs_map bs]; rfl
theorem encT_mk (nm : Str) (k : Int) (bs : List Tr) : encT (.mk nm k bs) = .tuple [.str nm, .int k, .tuple (bs.map encT)] := by rw [encT, encTs_map]
theorem sizeTs_sum : ∀ bs : List Tr, sizeTs bs = (bs.map sizeT).sum
  | [] => by rw [sizeTs]; rfl
  | b :: bs => by rw [sizeTs, sizeTs_sum bs]; rfl
theorem levTs_le {n : Nat} : ∀ {bs : List Tr}, levTs bs ≤ n → ∀ b ∈ bs, levT b ≤ n
  | [], _, b, h => by simp at h
  | c :: bs, h, b, hb => by
    rw [levTs] at h
    rcases List.mem_cons.mp hb with e | e
    · subst e; omega
    · exact levTs_le (by omega) b e
mutual
theorem plT_len : ∀ t : Tr, (plT t).length = sizeT t
  | .mk nm k bs => by rw [plT, sizeT, List.length_cons, plTs_len 0 bs]; omega
theorem plTs_len : ∀ (o : Nat) (bs : List Tr), (plTs o bs).length = sizeTs bs
  | o, [] => by rw [plTs, sizeTs]; rfl
  | o, b :: bs => by rw [plTs, sizeTs, List.length_append, List.length_map, plT_len b, plTs_len (o + 1) bs]
end
theorem plTs_head : ∀ (o : Nat) (bs : List Tr) (p : List Nat), p ∈ plTs o bs → ∃ k q, p = k :: q ∧ o ≤ k
  | o, [], p, h => by rw [plTs] at h; simp at h
  | o, b :: bs, p, h => by
    rw [plTs] at h
    rcases List.mem_append.mp h with h | h
    · obtain ⟨q, _, rfl⟩ := List.mem_map.mp h
      exact ⟨o, q, rfl, Nat.le_refl _⟩
    · obtain ⟨k, q, e, hk⟩ := plTs_head (o + 1) bs p h
      exact ⟨k, q, e, by omega⟩
mutual
theorem plT_sorted : ∀ t : Tr, (plT t).Pairwise (fun p q => p < q)
  | .mk nm k bs => by
    rw [plT]
    refine List.pairwise_cons.mpr ⟨fun p hp => ?_, plTs_sorted 0 bs⟩
    obtain ⟨k, q, rfl, _⟩ := plTs_head 0 bs p hp
    exact List.nil_lt_cons _ _
theorem plTs_sorted : ∀ (o : Nat) (bs : List Tr), (plTs o bs).Pairwise (fun p q => p < q)
  | o, [] => by rw [plTs]; exact List.Pairwise.nil
  | o, b :: bs => by
    rw [plTs]
    refine List.pairwise_append.mpr ⟨?_, plTs_sorted (o + 1) bs, fun p hp q hq => ?_⟩
    · rw [List.pairwise_map]
      exact (plT_sorted b).imp fun h => List.cons_lt_cons_iff.mpr (.inr ⟨rfl, h⟩)
    · obtain ⟨p', _, rfl⟩ := List.mem_map.mp hp
      obtain ⟨k, q', rfl, hk⟩ := plTs_head (o + 1) bs q hq
      exact List.cons_lt_cons_iff.mpr (.inl (by omega))
end
mutual
theorem plT_lev : ∀ (t : Tr) (p : List Nat), p ∈ plT t → p.length + 1 ≤ levT t
  | .mk nm k bs, p, h => by
    rw [plT] at h
    rw [levT]
    rcases List.mem_cons.mp h with e | e
    · subst e; simp
    · have := plTs_lev 0 bs p e; omega
theorem plTs_lev : ∀ (o : Nat) (bs : List Tr) (p : List Nat), p ∈ plTs o bs → p.length ≤ levTs bs
  | o, [], p, h => by rw [plTs] at h; simp at h
  | o, b :: bs, p, h => by
    rw [plTs] at h
    rw [levTs]
    rcases List.mem_append.mp h with h | h
    · obtain ⟨q, hq, rfl⟩ := List.mem_map.mp h
      have := plT_lev b q hq
      simp only [List.length_cons]; omega
    · have := plTs_lev (o + 1) bs p h; omega
end
mutual
theorem plT_deep : ∀ (t : Tr), ∃ p, p ∈ plT t ∧ p.length + 1 = levT t
  | .mk nm k bs => by
    rw [plT, levT]
    rcases plTs_deep 0 bs with e | ⟨p, h1, h2⟩
    · rw [e, levTs]; exact ⟨[], List.mem_cons_self, rfl⟩
    · exact ⟨p, List.mem_cons_of_mem _ h1, by omega⟩
theorem plTs_deep : ∀ (o : Nat) (bs : List Tr), bs = [] ∨ ∃ p, p ∈ plTs o bs ∧ p.length = levTs bs
  | o, [] => .inl rfl
  | o, b :: bs => by
    right
    rw [plTs, levTs]
    obtain ⟨p, h1, h2⟩ := plT_deep b
    rcases plTs_deep (o + 1) bs with e | ⟨q, g1, g2⟩
    · refine ⟨o :: p, List.mem_append_left _ (List.mem_map_of_mem h1), ?_⟩
      rw [e, levTs, List.length_cons]; omega
    · by_cases hle : levTs bs ≤ levT b
      · exact ⟨o :: p, List.mem_append_left _ (List.mem_map_of_mem h1), by rw [List.length_cons]; omega⟩
      · exact ⟨q, List.mem_append_right _ g1, by omega⟩
end

/-! ### building a tree from the last row back, and the places forward -/
/-- the forests that hang below the first rows, and all places that they make -/
def pz : List (List Nat) → List Nat → List (List Tr) → List (List Nat)
  | p :: ps, l :: ls, b :: bs => ([] :: plTs l b).map (fun q => p ++ q) ++ pz ps ls bs
  | _, _, _ => []
theorem pz_snoc : ∀ (ps : List (List Nat)) (ls : List Nat) (bs : List (List Tr)) (p : List Nat) (l : Nat) (b : List Tr), ls[ps.length]? = some l → bs[ps.length]? = some b → pz (ps ++ [p]) ls bs = pz ps ls bs ++ ([] :: plTs l b).map (fun q => p ++ q)
  | [], l' :: ls, b' :: bs, p, l, b, h1, h2 => by
    simp at h1 h2
    subst h1 h2
    show pz (p :: []) (l' :: ls) (b' :: bs) = _
    simp [pz]
  | [], [], _, p, l, b, h1, _ => by simp at h1
  | [], _ :: _, [], p, l, b, _, h2 => by simp at h2
  | p0 :: ps, [], _, p, l, b, h1, _ => by simp at h1
  | p0 :: ps, _ :: _, [], p, l, b, _, h2 => by simp at h2
  | p0 :: ps, l0 :: ls, b0 :: bs, p, l, b, h1, h2 => by
    have ih := pz_snoc ps ls bs p l b (by simpa using h1) (by simpa using h2)
    show ([] :: plTs l0 b0).map (fun q => p0 ++ q) ++ pz (ps ++ [p]) ls bs = ([] :: plTs l0 b0).map (fun q => p0 ++ q) ++ pz ps ls bs ++ _
    rw [ih, List.append_assoc]
theorem pz_hang : ∀ (ps : List (List Nat)) (ls : List Nat) (bs : List (List Tr)) (u l : Nat) (p : List Nat) (b : List Tr) (t : Tr), ps[u]? = some p → ls[u]? = some l → bs[u]? = some b →
    (pz ps (ls.set u (l + 1)) bs ++ (plT t).map (fun q => (p ++ [l]) ++ q)).Perm (pz ps ls (bs.set u (t :: b)))
  | [], _, _, u, l, p, b, t, h, _, _ => by simp at h
  | _ :: _, [], _, u, l, p, b, t, _, h, _ => by simp at h
  | _ :: _, _ :: _, [], u, l, p, b, t, _, _, h => by simp at h
  | p0 :: ps, l0 :: ls, b0 :: bs, 0, l, p, b, t, h1, h2, h3 => by
    simp at h1 h2 h3
    subst h1 h2 h3
    show ((([] :: plTs (l0 + 1) b0).map (fun q => p0 ++ q) ++ pz ps ls bs) ++ (plT t).map (fun q => (p0 ++ [l0]) ++ q)).Perm (([] :: plTs l0 (t :: b0)).map (fun q => p0 ++ q) ++ pz ps ls bs)
    rw [plTs]
    have e : (plT t).map (fun q => (p0 ++ [l0]) ++ q) = ((plT t).map (fun p => l0 :: p)).map (fun q => p0 ++ q) := by
      rw [List.map_map]
      refine List.map_congr_left fun q _ => ?_
      simp
    rw [e]
    simp only [List.map_cons, List.map_append, List.cons_append]
    refine List.Perm.cons _ ?_
    rw [List.append_assoc, List.append_assoc]
    refine (List.perm_append_comm_assoc _ _ _).trans ?_
    refine (List.perm_append_comm_assoc _ _ _).trans ?_
    refine List.perm_append_comm.trans ?_
    rw [List.append_assoc]
    refine (List.perm_append_comm_assoc _ _ _).trans ?_
    refine List.Perm.append_left _ ?_
    exact List.perm_append_comm
  | p0 :: ps, l0 :: ls, b0 :: bs, u + 1, l, p, b, t, h1, h2, h3 => by
    have ih := pz_hang ps ls bs u l p b t (by simpa using h1) (by simpa using h2) (by simpa using h3)
    show ((([] :: plTs l0 b0).map (fun q => p0 ++ q) ++ pz ps (ls.set u (l + 1)) bs) ++ _).Perm (([] :: plTs l0 b0).map (fun q => p0 ++ q) ++ pz ps ls (bs.set u (t :: b)))
    rw [List.append_assoc]
    exact List.Perm.append_left _ ih
theorem pz_bare : ∀ (ps : List (List Nat)) (ls : List Nat) (n : Nat), ps.length ≤ ls.length → ps.length ≤ n → pz ps ls (List.replicate n []) = ps
  | [], _, _, _, _ => rfl
  | p :: ps, [], n, h, _ => by simp at h
  | p :: ps, l :: ls, 0, _, h => by simp at h
  | p :: ps, l :: ls, n + 1, h, h' => by
    rw [List.replicate_succ]
    show ([] :: plTs l []).map (fun q => p ++ q) ++ pz ps ls (List.replicate n []) = _
    rw [pz_bare ps ls n (by simpa using h) (by simpa using h'), plTs]
    simp

structure TRow where
  nm : Str
  mar : Int
  up : Nat
/-- each row hangs below one ahead of it -/
def Below (rs : List TRow) : Prop := ∀ k r, rs[k]? = some r → 0 < k → r.up < k
/-- one row, by its number k: its tree put below -/
def hang (rs : List TRow) (k : Nat) (bl : List (List Tr)) : List (List Tr) := match rs[k]?, bl[k]? with
  | some r, some b => match bl[r.up]? with
    | some b' => bl.set r.up (.mk r.nm r.mar b :: b')
    | none => bl
  | _, _ => bl
/-- the last s rows -/
def hangs (rs : List TRow) : Nat → List (List Tr)
  | 0 => List.replicate rs.length []
  | s + 1 => hang rs (rs.length - 1 - s) (hangs rs s)
/-- the place of row k -/
def plc (rs : List TRow) (k : Nat) (x : List (List Nat) × List Nat) : List (List Nat) × List Nat := match rs[k]? with
  | some r => match x.1[r.up]?, x.2[r.up]? with
    | some p, some l => (x.1 ++ [p ++ [l]], x.2.set r.up (l + 1))
    | _, _ => x
  | none => x
def plcs (rs : List TRow) : Nat → List (List Nat) × List Nat
  | 0 => ([[]], List.replicate rs.length 0)
  | s + 1 => plc rs (s + 1) (plcs rs s)
theorem hang_len (rs : List TRow) (k : Nat) (bl : List (List Tr)) : (hang rs k bl).length = bl.length := by
  unfold hang
  split
  · split
    · simp
    · rfl
  · rfl
theorem hangs_len (rs : List TRow) : ∀ s, (hangs rs s).length = rs.length
  | 0 => by simp [hangs]
  | s + 1 => by rw [hangs, hang_len, hangs_len rs s]
theorem plcs_len {rs : List TRow} (hb : Below rs) : ∀ s, s + 1 ≤ rs.length → (plcs rs s).1.length = s + 1 ∧ (plcs rs s).2.length = rs.length ∧ ∀ j, s < j → j < rs.length → (plcs rs s).2[j]? = some 0
  | 0, h => by
    refine ⟨rfl, by simp [plcs], fun j _ hj => ?_⟩
    show (List.replicate rs.length 0)[j]? = some 0
    simp [hj]
  | s + 1, h => by
    obtain ⟨h1, h2, h3⟩ := plcs_len hb s (by omega)
    have hr : rs[s + 1]? = some rs[s + 1] := List.getElem?_eq_getElem (by omega)
    have hu := hb (s + 1) _ hr (by omega)
    have e1 : (plcs rs s).1[(rs[s + 1]).up]? = some ((plcs rs s).1[(rs[s + 1]).up]'(by omega)) := List.getElem?_eq_getElem _
    have e2 : (plcs rs s).2[(rs[s + 1]).up]? = some ((plcs rs s).2[(rs[s + 1]).up]'(by omega)) := List.getElem?_eq_getElem _
    unfold plcs plc
    rw [hr]
    simp only [e1, e2]
    refine ⟨by simp [h1], by simp [h2], fun j hj hl => ?_⟩
    rw [List.getElem?_set_ne (by omega)]
    exact h3 j (by omega) hl
/-- the step's own facts -/
theorem plc_step {rs : List TRow} (hb : Below rs) {s : Nat} (h : s + 2 ≤ rs.length) : ∃ r p l, rs[s + 1]? = some r ∧ r.up ≤ s ∧ (plcs rs s).1[r.up]? = some p ∧ (plcs rs s).2[r.up]? = some l ∧ plcs rs (s + 1) = ((plcs rs s).1 ++ [p ++ [l]], (plcs rs s).2.set r.up (l + 1)) := by
  obtain ⟨h1, h2, h3⟩ := plcs_len hb s (by omega)
  have hr : rs[s + 1]? = some rs[s + 1] := List.getElem?_eq_getElem (by omega)
  have hu := hb (s + 1) _ hr (by omega)
  have e1 : (plcs rs s).1[(rs[s + 1]).up]? = some ((plcs rs s).1[(rs[s + 1]).up]'(by omega)) := List.getElem?_eq_getElem _
  have e2 : (plcs rs s).2[(rs[s + 1]).up]? = some ((plcs rs s).2[(rs[s + 1]).up]'(by omega)) := List.getElem?_eq_getElem _
  refine ⟨_, _, _, hr, by omega, e1, e2, ?_⟩
  show plc rs (s + 1) (plcs rs s) = _
  unfold plc
  rw [hr]
  simp only [e1, e2]
theorem hang_step {rs : List TRow} (hb : Below rs) {k : Nat} (hk : k < rs.length) (h0 : 0 < k) {bl : List (List Tr)} (hl : bl.length = rs.length) : ∃ r b b', rs[k]? = some r ∧ r.up < k ∧ bl[k]? = some b ∧ bl[r.up]? = some b' ∧ hang rs k bl = bl.set r.up (.mk r.nm r.mar b :: b') := by
  have hr : rs[k]? = some rs[k] := List.getElem?_eq_getElem hk
  have hu := hb k _ hr h0
  have e1 : bl[k]? = some (bl[k]'(by omega)) := List.getElem?_eq_getElem _
  have e2 : bl[(rs[k]).up]? = some (bl[(rs[k]).up]'(by omega)) := List.getElem?_eq_getElem _
  refine ⟨_, _, _, hr, hu, e1, e2, ?_⟩
  unfold hang
  rw [hr]
  simp only [e1, e2]
theorem pz_all {rs : List TRow} (hb : Below rs) : ∀ s, s + 1 ≤ rs.length → (pz (plcs rs (rs.length - 1 - s)).1 (plcs rs (rs.length - 1 - s)).2 (hangs rs s)).Perm (plcs rs (rs.length - 1)).1
  | 0, h => by
    obtain ⟨h1, h2, _⟩ := plcs_len hb (rs.length - 1) (by omega)
    rw [Nat.sub_zero, hangs, pz_bare _ _ _ (by omega) (by omega)]
  | s + 1, h => by
    have ih := pz_all hb s (by omega)
    refine List.Perm.trans ?_ ih
    obtain ⟨j, hj⟩ : ∃ j, rs.length - 1 - s = j + 1 := ⟨rs.length - 2 - s, by omega⟩
    have hj' : rs.length - 1 - (s + 1) = j := by omega
    rw [hj', hj, hangs, hj]
    obtain ⟨l1, l2, l3⟩ := plcs_len hb j (by omega)
    obtain ⟨r, p, l, e1, e2, e3, e4, e5⟩ := plc_step hb (s := j) (by omega)
    obtain ⟨r', b, b', f1, f2, f3, f4, f5⟩ := hang_step hb (k := j + 1) (by omega) (by omega) (hangs_len rs s)
    rw [e1] at f1
    cases f1
    rw [f5, e5]
    simp only
    have l4 : ((plcs rs j).2.set r.up (l + 1))[(plcs rs j).1.length]? = some 0 := by
      rw [l1, List.getElem?_set_ne (by omega)]
      exact l3 (j + 1) (by omega) (by omega)
    rw [pz_snoc _ _ _ _ 0 b l4 (by rw [l1]; exact f3)]
    have := pz_hang (plcs rs j).1 (plcs rs j).2 (hangs rs s) r.up l p b' (.mk r.nm r.mar b) e3 e4 f4
    rw [plT] at this
    exact this.symm
/-- the tree that is built -/
def treeOf (rs : List TRow) : Option Tr := match rs[0]?, (hangs rs (rs.length - 1))[0]? with
  | some r, some b => some (.mk r.nm r.mar b)
  | _, _ => none
theorem tree_places {rs : List TRow} (hb : Below rs) (h : 0 < rs.length) : ∃ t, treeOf rs = some t ∧ (plT t).Perm (plcs rs (rs.length - 1)).1 := by
  have z := pz_all hb (rs.length - 1) (by omega)
  rw [Nat.sub_self] at z
  have hl := hangs_len rs (rs.length - 1)
  have hr : rs[0]? = some rs[0] := List.getElem?_eq_getElem h
  cases q : hangs rs (rs.length - 1) with
  | nil => rw [q] at hl; simp at hl; omega
  | cons b bl =>
    refine ⟨.mk (rs[0]).nm (rs[0]).mar b, ?_, ?_⟩
    · unfold treeOf
      rw [hr, q]
      rfl
    · rw [q] at z
      have e : pz (plcs rs 0).1 (plcs rs 0).2 (b :: bl) = [] :: plTs 0 b := by
        show pz [[]] (List.replicate rs.length 0) (b :: bl) = _
        obtain ⟨n, hn⟩ : ∃ n, rs.length = n + 1 := ⟨rs.length - 1, by omega⟩
        rw [hn, List.replicate_succ]
        simp [pz]
      rw [e] at z
      rw [plT]
      exact z
theorem hangs_small (rs : List TRow) : ∀ (s j : Nat) (b : List Tr), (hangs rs s)[j]? = some b → b.length ≤ s
  | 0, j, b, h => by
    have := List.mem_of_getElem? h
    unfold hangs at this
    rw [List.mem_replicate] at this
    rw [this.2]; simp
  | s + 1, j, b, h => by
    have ih := hangs_small rs s
    unfold hangs hang at h
    split at h
    · rename_i r b0 h1 h2
      split at h
      · rename_i b1 h3
        by_cases hj : r.up = j
        · subst hj
          rw [List.getElem?_set_self (List.getElem?_eq_some_iff.mp h3).1] at h
          cases h
          have := ih _ _ h3
          simp only [List.length_cons]; omega
        · rw [List.getElem?_set_ne hj] at h
          have := ih _ _ h
          omega
      · have := ih _ _ h; omega
    · have := ih _ _ h; omega
theorem rangeCD_at {lo c : Int} {n i : Nat} {d : D} (h : (rangeCD lo c n)[i]? = some d) : i < n ∧ d = .int (lo + (i : Nat) * c) := by
  have hl : i < n := by have := (List.getElem?_eq_some_iff.mp h).1; simpa [rangeCD] using this
  refine ⟨hl, ?_⟩
  unfold rangeCD at h
  rw [List.getElem?_map, List.getElem?_range hl] at h
  exact (Option.some.inj h).symm
theorem rangeD_at {lo : Int} {n i : Nat} {d : D} (h : (rangeD lo n)[i]? = some d) : i < n ∧ d = .int (lo + (i : Nat)) := by
  have hl : i < n := by have := (List.getElem?_eq_some_iff.mp h).1; simpa [rangeD] using this
  refine ⟨hl, ?_⟩
  unfold rangeD at h
  rw [List.getElem?_map, List.getElem?_range hl] at h
  exact (Option.some.inj h).symm
end Mir
set_option Elab.async false
set_option linter.all false
set_option maxRecDepth 100000
set_option maxHeartbeats 4000000
namespace Mir
open PySem PySem.Spec L2

/-! ### the rows below a row, among the last s; all of them -/
def kf (rs : List TRow) : Nat → Nat → List Nat
  | 0, _ => []
  | s + 1, j => if (rs[rs.length - 1 - s]?).map TRow.up = some j then (rs.length - 1 - s) :: kf rs s j else kf rs s j
def kids (rs : List TRow) (j : Nat) : List Nat := kf rs (rs.length - 1) j
theorem kf_mem {rs : List TRow} : ∀ {s j k : Nat}, s + 1 ≤ rs.length → k ∈ kf rs s j → rs.length - s ≤ k ∧ k < rs.length ∧ ∃ r, rs[k]? = some r ∧ r.up = j
  | 0, j, k, _, h => by simp [kf] at h
  | s + 1, j, k, hs, h => by
    unfold kf at h
    split at h
    · rename_i c
      rcases List.mem_cons.mp h with e | e
      · subst e
        refine ⟨by omega, by omega, ?_⟩
        rw [Option.map_eq_some_iff] at c
        exact c
      · obtain ⟨a, b, c⟩ := kf_mem (by omega) e
        exact ⟨by omega, b, c⟩
    · obtain ⟨a, b, c⟩ := kf_mem (by omega) h
      exact ⟨by omega, b, c⟩
theorem kf_up {rs : List TRow} : ∀ s, s + 1 ≤ rs.length → ∀ j, (kf rs s j).Pairwise (fun a b => a < b)
  | 0, _, _ => List.Pairwise.nil
  | s + 1, h, j => by
    unfold kf
    split
    · exact List.pairwise_cons.mpr ⟨fun k hk => by have := (kf_mem (by omega) hk).1; omega, kf_up s (by omega) j⟩
    · exact kf_up s (by omega) j
theorem kids_once {rs : List TRow} (h0 : 0 < rs.length) {j i c k : Nat} (h1 : (kids rs j)[i]? = some k) (h2 : (kids rs j)[c]? = some k) : i = c := by
  have := kf_up (rs := rs) (rs.length - 1) (by omega) j
  have p := List.pairwise_iff_getElem.mp this
  obtain ⟨a1, a2⟩ := List.getElem?_eq_some_iff.mp h1
  obtain ⟨b1, b2⟩ := List.getElem?_eq_some_iff.mp h2
  rcases Nat.lt_trichotomy i c with q | q | q
  · have := p i c a1 b1 q
    have e1 : (kf rs (rs.length - 1) j)[i] = k := a2
    have e2 : (kf rs (rs.length - 1) j)[c] = k := b2
    omega
  · exact q
  · have := p c i b1 a1 q
    have e1 : (kf rs (rs.length - 1) j)[i] = k := a2
    have e2 : (kf rs (rs.length - 1) j)[c] = k := b2
    omega
theorem kids_mem {rs : List TRow} (hb : Below rs) (h0 : 0 < rs.length) {j k : Nat} (h : k ∈ kids rs j) : 0 < k ∧ j < k ∧ k < rs.length ∧ ∃ r, rs[k]? = some r ∧ r.up = j := by
  obtain ⟨a, b, r, e1, e2⟩ := kf_mem (by omega) h
  have := hb k r e1 (by omega)
  exact ⟨by omega, by omega, b, r, e1, e2⟩
/-- the rows up to k have none below k -/
theorem kf_stop {rs : List TRow} (hb : Below rs) (k : Nat) (hk : k < rs.length) : ∀ d, rs.length - 1 - k + d + 1 ≤ rs.length → kf rs (rs.length - 1 - k + d) k = kf rs (rs.length - 1 - k) k
  | 0, _ => rfl
  | d + 1, h => by
    rw [← kf_stop hb k hk d (by omega)]
    show kf rs (rs.length - 1 - k + d + 1) k = _
    rw [kf]
    have e : rs.length - 1 - (rs.length - 1 - k + d) = k - d := by omega
    rw [e]
    split
    · rename_i c
      rw [Option.map_eq_some_iff] at c
      obtain ⟨r, c1, c2⟩ := c
      by_cases h0 : 0 < k - d
      · have := hb _ r c1 h0; omega
      · omega
    · rfl
theorem kids_at {rs : List TRow} (hb : Below rs) {k : Nat} (hk : k < rs.length) : kids rs k = kf rs (rs.length - 1 - k) k := by
  have := kf_stop hb k hk k (by omega)
  have e : rs.length - 1 - k + k = rs.length - 1 := by omega
  rw [e] at this
  exact this

/-! ### each row's tree; at row sp another one -/
def subT (rs : List TRow) (sp : Int) (o : Tr) : Nat → Nat → Tr
  | 0, _ => o
  | f + 1, j => if (j : Int) = sp then o else match rs[j]? with
    | some r => .mk r.nm r.mar ((kids rs j).map (subT rs sp o f))
    | none => o
theorem subT_fix {rs : List TRow} (hb : Below rs) (h0 : 0 < rs.length) {sp : Int} {o : Tr} : ∀ (f g j : Nat), j < rs.length → rs.length - j ≤ f → rs.length - j ≤ g → subT rs sp o f j = subT rs sp o g j
  | 0, _, j, hj, h, _ => by omega
  | f + 1, 0, j, hj, _, h => by omega
  | f + 1, g + 1, j, hj, h1, h2 => by
    unfold subT
    split
    · rfl
    · split
      · congr 1
        refine List.map_congr_left fun k hk => ?_
        obtain ⟨_, a, b, _⟩ := kids_mem hb h0 hk
        exact subT_fix hb h0 f g k b (by omega) (by omega)
      · rfl
def rowT (rs : List TRow) (sp : Int) (o : Tr) (j : Nat) : Tr := subT rs sp o rs.length j
theorem rowT_eq {rs : List TRow} (hb : Below rs) (h0 : 0 < rs.length) {sp : Int} {o : Tr} {j : Nat} {r : TRow} (hr : rs[j]? = some r) : rowT rs sp o j = if (j : Int) = sp then o else .mk r.nm r.mar ((kids rs j).map (rowT rs sp o)) := by
  have hj := (List.getElem?_eq_some_iff.mp hr).1
  unfold rowT
  obtain ⟨n, hn⟩ : ∃ n, rs.length = n + 1 := ⟨rs.length - 1, by omega⟩
  rw [hn]
  conv => lhs; unfold subT
  rw [hr]
  simp only
  split
  · rfl
  · congr 1
    refine List.map_congr_left fun k hk => ?_
    obtain ⟨_, a, b, _⟩ := kids_mem hb h0 hk
    exact subT_fix hb h0 n (n + 1) k b (by omega) (by omega)

/-! ### places by any whole numbers -/
def nth (bs : List Tr) (z : Int) : Option Tr := if z < 0 then none else bs[z.toNat]?
def atZ : Tr → List Int → Option Tr
  | t, [] => some t
  | .mk _ _ bs, z :: zs => match nth bs z with
    | some b => atZ b zs
    | none => none
def putZ : Tr → List Int → Tr → Option Tr
  | _, [], o => some o
  | .mk nm k bs, z :: zs, o => match nth bs z with
    | some b => match putZ b zs o with
      | some b' => some (.mk nm k (bs.set z.toNat b'))
      | none => none
    | none => none
theorem atZ_app : ∀ (p q : List Int) (t : Tr), atZ t (p ++ q) = (atZ t p).bind fun u => atZ u q
  | [], q, t => rfl
  | z :: p, q, .mk nm k bs => by
    rw [List.cons_append, atZ, atZ]
    cases nth bs z with
    | none => rfl
    | some b => exact atZ_app p q b
theorem putZ_none : ∀ (p q : List Int) (t u o : Tr), atZ t p = some u → putZ u q o = none → putZ t (p ++ q) o = none
  | [], q, t, u, o, h, g => by cases h; exact g
  | z :: p, q, .mk nm k bs, u, o, h, g => by
    show putZ (.mk nm k bs) (z :: (p ++ q)) o = _
    unfold atZ at h
    unfold putZ
    cases e : nth bs z with
    | none => rfl
    | some b =>
      rw [e] at h
      simp only at h ⊢
      rw [putZ_none p q b u o h g]
theorem nth_nat (bs : List Tr) (k : Nat) : nth bs (k : Int) = bs[k]? := by
  unfold nth
  rw [if_neg (by omega), Int.toNat_natCast]
abbrev zs (p : List Nat) : List Int := p.map fun k : Nat => (k : Int)

/-! ### the places that the law tells -/
theorem plcs_pre {rs : List TRow} (hb : Below rs) (s : Nat) : ∀ d, s + d + 1 ≤ rs.length → ∀ j, j ≤ s → (plcs rs (s + d)).1[j]? = (plcs rs s).1[j]?
  | 0, _, j, _ => rfl
  | d + 1, h, j, hj => by
    rw [← plcs_pre hb s d (by omega) j hj]
    obtain ⟨r, p, l, _, _, _, _, e⟩ := plc_step hb (s := s + d) (by omega)
    obtain ⟨l1, _, _⟩ := plcs_len hb (s + d) (by omega)
    show (plcs rs (s + d + 1)).1[j]? = _
    rw [e]
    simp only
    rw [List.getElem?_append_left (by omega)]
theorem plcs_lots {rs : List TRow} (hb : Below rs) : ∀ s, s + 1 ≤ rs.length → ∀ j l, (plcs rs s).2[j]? = some l → (kids rs j).drop l = kf rs (rs.length - 1 - s) j
  | 0, h, j, l, e => by
    have e : (List.replicate rs.length 0)[j]? = some l := e
    rw [List.getElem?_replicate] at e
    split at e
    · cases e; rfl
    · cases e
  | s + 1, h, j, l, e => by
    have ih := plcs_lots hb s (by omega)
    obtain ⟨r, p, l0, e1, e2, e3, e4, e5⟩ := plc_step hb (s := s) (by omega)
    rw [e5] at e
    simp only at e
    have ek : rs.length - 1 - s = rs.length - 1 - (s + 1) + 1 := by omega
    have en : rs.length - 1 - (rs.length - 1 - (s + 1)) = s + 1 := by omega
    by_cases hj : r.up = j
    · subst hj
      rw [List.getElem?_set_self (List.getElem?_eq_some_iff.mp e4).1] at e
      cases e
      have z := ih r.up l0 e4
      rw [ek, kf, en, e1] at z
      simp only [Option.map_some, if_true] at z
      rw [← List.drop_drop, z]
      rfl
    · rw [List.getElem?_set_ne hj] at e
      have z := ih j l e
      rw [ek, kf, en, e1] at z
      simp only [Option.map_some, Option.some.injEq, hj, if_false] at z
      exact z
/-- row k's place: that of the row above it, and its number among the rows there -/
theorem place_step {rs : List TRow} (hb : Below rs) {k : Nat} (h0 : 0 < k) (hk : k < rs.length) : ∃ r p l, rs[k]? = some r ∧ r.up < k ∧ (plcs rs (rs.length - 1)).1[r.up]? = some p ∧ (plcs rs (rs.length - 1)).1[k]? = some (p ++ [l]) ∧ (kids rs r.up)[l]? = some k := by
  obtain ⟨s, rfl⟩ : ∃ s, k = s + 1 := ⟨k - 1, by omega⟩
  obtain ⟨r, p, l, e1, e2, e3, e4, e5⟩ := plc_step hb (s := s) (by omega)
  obtain ⟨l1, _, _⟩ := plcs_len hb s (by omega)
  have d := plcs_lots hb s (by omega) r.up l e4
  have ek : rs.length - 1 - s = rs.length - 1 - (s + 1) + 1 := by omega
  have en : rs.length - 1 - (rs.length - 1 - (s + 1)) = s + 1 := by omega
  rw [ek, kf, en, e1] at d
  simp only [Option.map_some, if_true] at d
  refine ⟨r, p, l, e1, by omega, ?_, ?_, ?_⟩
  · have := plcs_pre hb s (rs.length - 1 - s) (by omega) r.up e2
    rw [show s + (rs.length - 1 - s) = rs.length - 1 by omega] at this
    rw [this, e3]
  · have := plcs_pre hb (s + 1) (rs.length - 1 - (s + 1)) (by omega) (s + 1) (Nat.le_refl _)
    rw [show s + 1 + (rs.length - 1 - (s + 1)) = rs.length - 1 by omega] at this
    rw [this, e5]
    simp only
    rw [List.getElem?_append_right (by omega)]
    have : s + 1 - (plcs rs s).1.length = 0 := by omega
    rw [this]; rfl
  · have := congrArg (fun xs : List Nat => xs[0]?) d
    simpa [List.getElem?_drop] using this
theorem place_zero {rs : List TRow} (hb : Below rs) (h0 : 0 < rs.length) : (plcs rs (rs.length - 1)).1[0]? = some [] := by
  have := plcs_pre hb 0 (rs.length - 1) (by omega) 0 (Nat.le_refl _)
  rw [Nat.zero_add] at this
  rw [this]; rfl
/-- at row k's place stands row k's tree -/
theorem at_place {rs : List TRow} (hb : Below rs) (h0 : 0 < rs.length) {o : Tr} : ∀ (n k : Nat) (p : List Nat), k < n → k < rs.length → (plcs rs (rs.length - 1)).1[k]? = some p → atZ (rowT rs (-1) o 0) (zs p) = some (rowT rs (-1) o k)
  | 0, k, p, h, _, _ => by omega
  | n + 1, 0, p, _, hk, hp => by
    rw [place_zero hb h0] at hp
    cases hp
    rw [show zs [] = [] from rfl, atZ]
  | n + 1, k + 1, p, hn, hk, hp => by
    obtain ⟨r, q, l, e1, e2, e3, e4, e5⟩ := place_step hb (k := k + 1) (by omega) hk
    rw [e4] at hp
    cases hp
    have ih := at_place hb h0 (o := o) n r.up q (by omega) (by omega) e3
    rw [show zs (q ++ [l]) = zs q ++ [(l : Int)] by simp, atZ_app, ih]
    have hr : rs[r.up]? = some (rs[r.up]'(by omega)) := List.getElem?_eq_getElem _
    show atZ (rowT rs (-1) o r.up) [(l : Int)] = _
    rw [rowT_eq hb h0 hr, if_neg (by omega), atZ, nth_nat, List.getElem?_map, e5]
    simp only [Option.map_some]
    rw [atZ]
theorem place_inj {rs : List TRow} (hb : Below rs) (h0 : 0 < rs.length) : ∀ (n i j : Nat) (p : List Nat), i < n → i < rs.length → j < rs.length → (plcs rs (rs.length - 1)).1[i]? = some p → (plcs rs (rs.length - 1)).1[j]? = some p → i = j
  | 0, i, _, _, h, _, _, _, _ => by omega
  | n + 1, 0, 0, _, _, _, _, _, _ => rfl
  | n + 1, 0, j + 1, p, _, _, hj, h1, h2 => by
    rw [place_zero hb h0] at h1
    cases h1
    obtain ⟨r, q, l, _, _, _, e4, _⟩ := place_step hb (k := j + 1) (by omega) hj
    rw [e4] at h2
    simp at h2
  | n + 1, i + 1, 0, p, _, hi, _, h1, h2 => by
    rw [place_zero hb h0] at h2
    cases h2
    obtain ⟨r, q, l, _, _, _, e4, _⟩ := place_step hb (k := i + 1) (by omega) hi
    rw [e4] at h1
    simp at h1
  | n + 1, i + 1, j + 1, p, hn, hi, hj, h1, h2 => by
    obtain ⟨r, q, l, a1, a2, a3, a4, a5⟩ := place_step hb (k := i + 1) (by omega) hi
    obtain ⟨r', q', l', b1, b2, b3, b4, b5⟩ := place_step hb (k := j + 1) (by omega) hj
    rw [a4] at h1
    rw [b4] at h2
    cases h1
    have h2 := Option.some.inj h2
    obtain ⟨e1, e2⟩ := List.append_inj' h2 rfl
    subst e1
    have := place_inj hb h0 n r.up r'.up q' (by omega) (by omega) (by omega) a3 b3
    cases e2
    rw [this, b5] at a5
    exact (Option.some.inj a5).symm
/-- on the way to a place -/
theorem place_way {rs : List TRow} (hb : Below rs) (h0 : 0 < rs.length) : ∀ (n s k : Nat) (p q : List Nat) (c : Nat), s < n → s < rs.length → k < rs.length → (plcs rs (rs.length - 1)).1[k]? = some p → (plcs rs (rs.length - 1)).1[s]? = some (p ++ c :: q) → ∃ k', (kids rs k)[c]? = some k' ∧ k' < rs.length ∧ (plcs rs (rs.length - 1)).1[k']? = some (p ++ [c])
  | 0, s, _, _, _, _, h, _, _, _, _ => by omega
  | n + 1, 0, k, p, q, c, _, _, _, _, h2 => by
    rw [place_zero hb h0] at h2
    simp at h2
  | n + 1, s + 1, k, p, q, c, hn, hs, hk, h1, h2 => by
    obtain ⟨r, p', l, a1, a2, a3, a4, a5⟩ := place_step hb (k := s + 1) (by omega) hs
    have a4' := a4
    rw [h2] at a4
    have a4 := Option.some.inj a4
    rcases List.eq_nil_or_concat q with e | ⟨q', x, e⟩
    · subst e
      obtain ⟨e1, e2⟩ := List.append_inj' a4 rfl
      subst e1
      cases e2
      have := place_inj hb h0 _ k r.up p (Nat.lt_succ_self _) hk (by omega) h1 a3
      subst this
      exact ⟨s + 1, a5, hs, a4'⟩
    · subst e
      rw [List.concat_eq_append] at a4
      rw [show p ++ c :: (q' ++ [x]) = (p ++ c :: q') ++ [x] by simp] at a4
      obtain ⟨e1, e2⟩ := List.append_inj' a4 rfl
      rw [← e1] at a3
      exact place_way hb h0 n r.up k p q' c (by omega) (by omega) hk h1 a3
/-- apart from the changed row's way nothing is changed -/
theorem rowT_same {rs : List TRow} (hb : Below rs) (h0 : 0 < rs.length) {o o' : Tr} {s : Nat} {ps : List Nat} (hs : s < rs.length) (hps : (plcs rs (rs.length - 1)).1[s]? = some ps) : ∀ (f i : Nat) (p : List Nat), rs.length - i ≤ f → i < rs.length → (plcs rs (rs.length - 1)).1[i]? = some p → (∀ q, ps ≠ p ++ q) → rowT rs s o i = rowT rs (-1) o' i
  | 0, i, p, h, hi, _, _ => by omega
  | f + 1, i, p, h, hi, hp, hn => by
    have hr : rs[i]? = some rs[i] := List.getElem?_eq_getElem hi
    have ne : (i : Int) ≠ (s : Int) := fun e => by
      have : i = s := by omega
      subst this
      rw [hp] at hps
      exact hn [] (by simp [Option.some.inj hps])
    rw [rowT_eq hb h0 hr, rowT_eq hb h0 hr, if_neg ne, if_neg (by omega)]
    congr 1
    refine List.map_congr_left fun k hk => ?_
    obtain ⟨k0, a, b, r, e1, e2⟩ := kids_mem hb h0 hk
    obtain ⟨r', q, l, c1, c2, c3, c4, c5⟩ := place_step hb (k := k) k0 b
    rw [e1] at c1
    cases c1
    rw [e2, hp] at c3
    cases c3
    exact rowT_same hb h0 hs hps f k _ (by omega) b c4 fun q' e => hn ([l] ++ q') (by rw [e]; simp)
/-- put at row s's place: the tree with row s changed -/
theorem put_place {rs : List TRow} (hb : Below rs) (h0 : 0 < rs.length) {o o' : Tr} {s : Nat} {ps : List Nat} (hs : s < rs.length) (hps : (plcs rs (rs.length - 1)).1[s]? = some ps) : ∀ (q : List Nat) (k : Nat) (p : List Nat), k < rs.length → (plcs rs (rs.length - 1)).1[k]? = some p → ps = p ++ q → putZ (rowT rs (-1) o' k) (zs q) o = some (rowT rs s o k)
  | [], k, p, hk, hp, e => by
    rw [List.append_nil] at e
    subst e
    have := place_inj hb h0 _ k s ps (Nat.lt_succ_self _) hk hs hp hps
    subst this
    rw [rowT_eq (sp := (k : Int)) hb h0 (List.getElem?_eq_getElem hk), if_pos rfl, show zs [] = [] from rfl, putZ]
  | c :: q, k, p, hk, hp, e => by
    subst e
    obtain ⟨k', a1, a2, a3⟩ := place_way hb h0 _ s k p q c (Nat.lt_succ_self _) hs hk hp hps
    have hr : rs[k]? = some rs[k] := List.getElem?_eq_getElem hk
    have ne : (k : Int) ≠ (s : Int) := fun e => by
      have : k = s := by omega
      subst this
      rw [hp] at hps
      have := congrArg List.length (Option.some.inj hps)
      simp at this
    have ih := put_place (o := o) (o' := o') hb h0 hs hps q k' (p ++ [c]) a2 a3 (by simp)
    rw [rowT_eq (sp := -1) hb h0 hr, rowT_eq (sp := (s : Int)) hb h0 hr, if_neg ne, if_neg (by omega), show zs (c :: q) = (c : Int) :: zs q from rfl, putZ, nth_nat, List.getElem?_map, a1]
    simp only [Option.map_some, ih, Int.toNat_natCast]
    congr 2
    refine List.ext_getElem? fun i => ?_
    by_cases hi : c = i
    · subst hi
      have hl := (List.getElem?_eq_some_iff.mp a1).1
      rw [List.getElem?_set_self (by rw [List.length_map]; exact hl), List.getElem?_map, a1]
      rfl
    · rw [List.getElem?_set_ne hi, List.getElem?_map, List.getElem?_map]
      cases ei : (kids rs k)[i]? with
      | none => rfl
      | some j =>
        simp only [Option.map_some]
        congr 1
        obtain ⟨j0, b1, b2, r, b3, b4⟩ := kids_mem hb h0 (List.mem_of_getElem? ei)
        obtain ⟨r', p', l, c1, c2, c3, c4, c5⟩ := place_step hb (k := j) j0 b2
        rw [b3] at c1
        cases c1
        rw [b4, hp] at c3
        cases c3
        rw [b4] at c5
        refine (rowT_same hb h0 hs hps _ j _ (Nat.le_refl _) b2 c4 fun q' e => ?_).symm
        rw [List.append_assoc] at e
        have e := List.append_cancel_left e
        have : c = l := by
          have := congrArg (fun xs : List Nat => xs[0]?) e
          simpa using this
        subst this
        have a1' := a1
        rw [c5] at a1'
        have : j = k' := Option.some.inj a1'
        subst this
        exact hi (kids_once h0 ei a1).symm
theorem plcs_short {rs : List TRow} : ∀ (s : Nat) (p : List Nat), p ∈ (plcs rs s).1 → p.length ≤ s
  | 0, p, h => by
    have : p ∈ ([[]] : List (List Nat)) := h
    simp at this
    simp [this]
  | s + 1, p, h => by
    have ih := plcs_short (rs := rs) s
    unfold plcs plc at h
    split at h
    · split at h
      · rename_i q l h1 h2
        rcases List.mem_append.mp h with h | h
        · have := ih p h; omega
        · simp at h
          subst h
          have := ih q (List.mem_of_getElem? h1)
          simp; omega
      · have := ih p h; omega
    · have := ih p h; omega
end Mir
set_option Elab.async false
set_option linter.all false
set_option maxRecDepth 100000
set_option maxHeartbeats 4000000
namespace Mir
open PySem PySem.Spec L2

/-! ### small rows for reckoning -/
def encP (p : List Nat) : D := .tuple (p.map fun k => .int (k : Nat))
theorem map_at {α β : Type} {f : α → β} {xs : List α} {i : Nat} {y : β} (h : (xs.map f)[i]? = some y) : ∃ x, xs[i]? = some x ∧ y = f x := by
  rw [List.getElem?_map] at h
  cases e : xs[i]? with
  | none => rw [e] at h; simp at h
  | some x => rw [e] at h; simp at h; exact ⟨x, rfl, h.symm⟩
theorem enumD_at : ∀ (n i : Nat) (ds : List D) (x : D), (enumD n ds)[i]? = some x → ∃ d, ds[i]? = some d ∧ x = .tuple [.int ((n + i : Nat) : Int), d]
  | n, i, [], x, h => by simp [enumD] at h
  | n, 0, d :: ds, x, h => by simp [enumD] at h; exact ⟨d, rfl, by simp [h]⟩
  | n, i + 1, d :: ds, x, h => by
    obtain ⟨e, h1, h2⟩ := enumD_at (n + 1) i ds x (by simpa [enumD] using h)
    exact ⟨e, by simpa using h1, by rw [h2]; congr 3; congr 1; omega⟩
theorem zipD_at : ∀ (i : Nat) (xs ys : List D) (z : D), (zipD xs ys)[i]? = some z → ∃ x y, xs[i]? = some x ∧ ys[i]? = some y ∧ z = .tuple [x, y]
  | i, [], ys, z, h => by simp at h
  | i, x :: xs, [], z, h => by simp at h
  | 0, x :: xs, y :: ys, z, h => by simp at h; exact ⟨x, y, rfl, rfl, h.symm⟩
  | i + 1, x :: xs, y :: ys, z, h => by
    obtain ⟨a, b, c, d, e⟩ := zipD_at i xs ys z (by simpa using h)
    exact ⟨a, b, by simpa using c, by simpa using d, e⟩
theorem unDs_fun {α : Type} (f : α → D) (xs : List α) : unDs (xs.map fun x => Ow.d (f x)) = some (xs.map f) := by
  have : (xs.map fun x => Ow.d (f x)) = (xs.map f).map Ow.d := by rw [List.map_map]; rfl
  rw [this, unDs_map]
theorem unDs_of {α : Type} (f : α → D) (xs : List α) : shD (.l (xs.map fun x => Ow.d (f x))) = .ok (.list (xs.map f)) := by
  have : (xs.map fun x => Ow.d (f x)) = (xs.map f).map Ow.d := by rw [List.map_map]; rfl
  rw [this, shD_l]
theorem viewAll_of {α : Type} (f : α → D) (xs : List α) : viewAll (xs.map fun x => Ow.d (f x)) = xs.map f := by
  rw [viewAll_map, List.map_map]
  rfl
theorem viewD_of {α : Type} (f : α → D) (xs : List α) : viewD (.l (xs.map fun x => Ow.d (f x))) = .list (xs.map f) := by
  rw [viewD_l, viewAll_of]
theorem rg3_down (n : Nat) (h : n ≤ 1000) : rg3 [.int ((n : Int) - 1), .int 0, .int (-1)] = .ok (rangeCD ((n : Int) - 1) (-1) (n - 1)) := by
  have e : ((n : Int) - 1).toNat = n - 1 := by omega
  rw [← e]
  show guard _ (.ok (rangeCD ((n : Int) - 1) (-1) ((n : Int) - 1 - 0).toNat)) = _
  rw [Int.sub_zero]
  exact guard_ok ⟨rfl, by omega, by omega, by decide, by decide⟩
theorem rg3_all (n : Nat) (h : n ≤ 1000) : rg3 [.int ((n : Int) - 1), .int (-1), .int (-1)] = .ok (rangeCD ((n : Int) - 1) (-1) n) := by
  have e : ((n : Int) - 1 - -1).toNat = n := by omega
  have z : rg3 [.int ((n : Int) - 1), .int (-1), .int (-1)] = guard ((-1 : Int) = -1 ∧ -(2 ^ 62) ≤ (n : Int) - 1 ∧ (n : Int) - 1 < 2 ^ 62 ∧ -(2 ^ 62) ≤ (-1 : Int) ∧ (-1 : Int) < 2 ^ 62) (.ok (rangeCD ((n : Int) - 1) (-1) ((n : Int) - 1 - -1).toNat)) := rfl
  rw [z, guard_ok ⟨rfl, by omega, by omega, by decide, by decide⟩, e]
theorem rg2_up (n : Nat) (h : n ≤ 1000) : rg2 [.int 1, .int (n : Nat)] = .ok (rangeD 1 (n - 1)) := by
  have e : ((n : Int) - 1).toNat = n - 1 := by omega
  rw [← e]
  exact guard_ok ⟨by decide, by decide, by omega, by omega⟩
theorem rep_one (d : D) (n : Nat) (hl : n ≤ 1000) : repO (.l [.d d]) (.int (n : Nat)) = .ok (.l (List.replicate n (.d d))) := by
  rw [repO_of (ds := [d]) rfl ⟨by omega, by omega, by rw [Int.toNat_natCast, sizeLine_eq, List.length_singleton]; omega⟩, Int.toNat_natCast]
  have z : (List.replicate n [d]).flatten.map Ow.d = List.replicate n (.d d) := by simp
  rw [z]
theorem str_len (z : Str) : z.length = z.cps.toList.length := by first | rfl | simp [Str.length]
theorem gMul_small {i j : Int} (h1 : i.natAbs < 2 ^ 250) (h2 : j.natAbs < 2 ^ 250) : gMul (.int i) (.int j) = some (.int (i * j)) := by
  refine gMul_int ?_
  have : ∀ n : Nat, n < 2 ^ 250 → n.log2 < 250 := fun n h => by
    by_cases e : n = 0
    · subst e; decide
    · exact (Nat.log2_lt e).mpr h
  unfold CMulW
  have a := this _ h1
  have b := this _ h2
  omega
theorem gDiv_small {i j : Int} (h1 : 0 < j) (h2 : j.natAbs < 2 ^ 250) : gDiv (.int i) (.int j) = some (.int (i / j)) := by
  refine gDiv_int ⟨h1, ?_⟩
  have := (Nat.log2_lt (n := j.natAbs) (k := 250) (by omega)).mpr h2
  omega
theorem gPow10 (k : Nat) (h : k ≤ 1000) : gPow (.int 10) (.int k) = some (.int (10 ^ k)) := by
  rw [gPow_int ⟨by omega, by omega, by decide⟩]
  simp
theorem cutL_take {α : Type} (xs : List α) (k : Nat) : cutL xs none (some (k : Int)) = xs.take k := by
  unfold cutL
  rw [HT.sIx_none, HT.sIx_nat, List.drop_zero, Nat.sub_zero]
  by_cases h : k ≤ xs.length
  · rw [Nat.min_eq_left h]
  · rw [Nat.min_eq_right (by omega), List.take_of_length_le (Nat.le_refl _), List.take_of_length_le (by omega)]
theorem cutL_drop {α : Type} (xs : List α) (k : Nat) : cutL xs (some (k : Int)) none = xs.drop k := by
  unfold cutL
  rw [HT.sIx_none, HT.sIx_nat]
  by_cases h : k ≤ xs.length
  · rw [Nat.min_eq_left h, List.take_of_length_le (by rw [List.length_drop]; exact Nat.le_refl _)]
  · rw [Nat.min_eq_right (by omega), List.drop_of_length_le (by omega), List.drop_of_length_le (by omega)]
    simp
theorem canAll_of : ∀ ds : List D, (∀ d ∈ ds, d.canLay0 = true) → PyData.canLayAll0 ds = true
  | [], _ => by simp [PyData.canLayAll0]
  | d :: ds, h => by
    rw [PyData.canLayAll0, h d List.mem_cons_self, canAll_of ds fun d hd => h d (List.mem_cons_of_mem _ hd)]
    rfl
theorem depthAll_of {n : Nat} : ∀ ds : List D, (∀ d ∈ ds, d.depth ≤ n) → PyData.depthAll ds ≤ n
  | [], _ => by simp [PyData.depthAll]
  | d :: ds, h => by
    rw [PyData.depthAll]
    have := h d List.mem_cons_self
    have := depthAll_of ds fun d hd => h d (List.mem_cons_of_mem _ hd)
    omega
theorem can_encP (p : List Nat) : (encP p).canLay0 = true := by
  unfold encP
  rw [PyData.canLay0]
  exact canAll_of _ fun d hd => by
    obtain ⟨k, _, rfl⟩ := List.mem_map.mp hd
    rfl
theorem depth_encP (p : List Nat) : (encP p).depth ≤ 1 := by
  unfold encP
  rw [PyData.depth]
  have := depthAll_of (n := 0) (p.map fun k => PyData.int (k : Nat)) fun d hd => by
    obtain ⟨k, _, rfl⟩ := List.mem_map.mp hd
    simp [PyData.depth]
  omega
/-- data that == can be asked of -/
def Nice (d : D) : Prop := d.canLay0 = true ∧ d.depth ≤ 130
theorem gEq_nice {d e : D} (h : Nice d) (g : Nice e) : gEq d e = some (.bool (PyData.eqv d e)) := by
  have z : eqOk d e = true := by unfold eqOk; simp [h.1, h.2, g.1]
  unfold gEq; rw [if_pos (by rw [z, Bool.or_true])]
theorem gNe_nice {d e : D} (h : Nice d) (g : Nice e) : gNe d e = some (.bool (!PyData.eqv d e)) := by
  have z : eqOk d e = true := by unfold eqOk; simp [h.1, h.2, g.1]
  unfold gNe; rw [if_pos (by rw [z, Bool.or_true])]
theorem eqv_self {d : D} (h : Nice d) : PyData.eqv d d = true := SeqAt.eqv_refl d h.1
theorem gEq_self {d : D} (h : Nice d) : gEq d d = some (.bool true) := by rw [gEq_nice h h, eqv_self h]
theorem gNe_self {d : D} (h : Nice d) : gNe d d = some (.bool false) := by rw [gNe_nice h h, eqv_self h]; rfl
theorem nice_encP (p : List Nat) : Nice (encP p) := ⟨can_encP p, by have := depth_encP p; omega⟩

/-! ### trees as data -/
mutual
def okT : Tr → Prop
  | .mk nm _ bs => PyData.strOk nm = true ∧ bs.length ≤ 1000 ∧ okTs bs
def okTs : List Tr → Prop
  | [] => True
  | b :: bs => okT b ∧ okTs bs
end
theorem okTs_iff : ∀ bs : List Tr, okTs bs ↔ ∀ b ∈ bs, okT b
  | [] => by simp [okTs]
  | b :: bs => by rw [okTs, okTs_iff bs]; simp
mutual
theorem can_encT : ∀ t : Tr, okT t → (encT t).canLay0 = true
  | .mk nm k bs, h => by
    rw [okT] at h
    rw [encT, PyData.canLay0]
    simp [PyData.canLayAll0, PyData.canLay0, h.1, can_encTs bs h.2.2]
theorem can_encTs : ∀ bs : List Tr, okTs bs → PyData.canLayAll0 (encTs bs) = true
  | [], _ => by simp [encTs, PyData.canLayAll0]
  | b :: bs, h => by
    rw [okTs] at h
    rw [encTs, PyData.canLayAll0, can_encT b h.1, can_encTs bs h.2]
    rfl
end
mutual
theorem depth_encT : ∀ t : Tr, (encT t).depth ≤ 2 * levT t
  | .mk nm k bs => by
    rw [encT, levT]
    have := depth_encTs bs
    simp only [PyData.depth, PyData.depthAll]
    omega
theorem depth_encTs : ∀ bs : List Tr, PyData.depthAll (encTs bs) ≤ 2 * levTs bs
  | [] => by simp [encTs, PyData.depthAll]
  | b :: bs => by
    rw [encTs, PyData.depthAll, levTs]
    have := depth_encT b
    have := depth_encTs bs
    omega
end
theorem nice_encT {t : Tr} (h : okT t) (hl : levT t ≤ 65) : Nice (encT t) := ⟨can_encT t h, by have := depth_encT t; omega⟩
def encF (bs : List Tr) : Ow := .l (bs.map fun t => .d (encT t))
theorem shD_forest (bs : List Tr) : shD (encF bs) = .ok (.list (bs.map encT)) := unDs_of encT bs

/-! ### names by a number -/
abbrev abc : Str := "abcdefghijklmnopqrstuvwxyz"
theorem abc_len : abc.cps.toList.length = 26 := by decide +kernel
theorem abc_ok : abc.cps.toList.all (· < 0x110000) = true := by decide +kernel
theorem str_app_len (z u : Str) : (z ++ u).length = z.length + u.length := by
  show (z.cps ++ u.cps).size = z.cps.size + u.cps.size
  simp
theorem strOk_app {z u : Str} (h : PyData.strOk z = true) (g : PyData.strOk u = true) : PyData.strOk (z ++ u) = true := by
  unfold PyData.strOk at *
  show (z.cps ++ u.cps).all (· < 0x110000) = true
  rw [Array.all_append, h, g]
  rfl
theorem abc_at {k : Nat} (hk : k < 26) : ∃ u : Str, u.length = 1 ∧ PyData.strOk u = true ∧ gIx (.str abc) (.int (k : Int)) = some (.str u) := by
  have hm : abc.cps.toList[k]'(by rw [abc_len]; exact hk) ∈ abc.cps.toList := List.getElem_mem _
  refine ⟨⟨#[abc.cps.toList[k]'(by rw [abc_len]; exact hk)]⟩, rfl, ?_, ?_⟩
  · have := List.all_eq_true.mp abc_ok _ hm
    unfold PyData.strOk
    simpa using this
  · show (if abc.length ≤ sizeLine then _ else none) = _
    rw [if_pos (by rw [str_len, abc_len, sizeLine_eq]; decide), atI_natD (List.getElem?_eq_getElem _)]
    rfl
theorem name_by (c : Int) (h0 : 0 ≤ c) (h1 : c < 2147483648) : ∃ z : Str, finR ((sSeq (sSet 1 (eM (eC (.str "abcdefghijklmnopqrstuvwxyz")) Ow.d))
    (sSeq (sSet 2 (eM (eC (.str "")) Ow.d))
    (sSeq (sFor (eB (aCons (eM (eBinO gAdd (eC (.int 1)) (eBin gMod (eVar 0) (eC (.int 8)))) viewD) aNil) rg1) (gtName 3)
    (sSeq (sSet 0 (eM (eM (eBinO gAdd (eBin gDiv (eVar 0) (eC (.int 3))) (eBin gMul (eC (.int 7)) (eVar 3))) viewD) Ow.d))
    (sSet 2 (eM (eM (eBinO gAdd (eVar 2) (eBin gIx (eVar 1) (eBin gMod (eVar 0) (eC (.int 26))))) viewD) Ow.d))))
    (sRet (eM (eVar 2) Ow.d))))) (envOf 3 [.int c])) = .ok (.d (.str z)) ∧ z.length ≤ 8 ∧ PyData.strOk z = true := by
  have key := forL_ind (g := gtName 3) (f := (sSeq (sSet 0 (eM (eM (eBinO gAdd (eBin gDiv (eVar 0) (eC (.int 3))) (eBin gMul (eC (.int 7)) (eVar 3))) viewD) Ow.d))
    (sSet 2 (eM (eM (eBinO gAdd (eVar 2) (eBin gIx (eVar 1) (eBin gMod (eVar 0) (eC (.int 26))))) viewD) Ow.d)))) (rangeD 0 (1 + c % 8).toNat)
    (fun i env => ∃ (c' : Int) (z : Str) (x : Option Ow), env = [some (.d (.int c')), some (.d (.str "abcdefghijklmnopqrstuvwxyz")), some (.d (.str z)), x] ∧ 0 ≤ c' ∧ z.length ≤ i ∧ PyData.strOk z = true) (fun i d env hd ⟨c', z, x, he, hc, hz, ho⟩ => by
      obtain ⟨hi, ed⟩ := rangeD_at hd
      rw [Int.zero_add] at ed
      subst ed he
      have hmul : gMul (.int 7) (.int (i : Nat)) = some (.int (7 * (i : Nat))) := gMul_small (by decide) (by
        have : (10 : Nat) < 2 ^ 250 := by decide
        omega)
      have hdiv : gDiv (.int c') (.int 3) = some (.int (c' / 3)) := gDiv_small (by decide) (by decide)
      have hmod : gMod (.int (c' / 3 + 7 * (i : Nat))) (.int 26) = some (.int ((c' / 3 + 7 * (i : Nat)) % 26)) := gMod_int (by decide)
      obtain ⟨k, hk⟩ : ∃ k : Nat, (c' / 3 + 7 * (i : Nat)) % 26 = (k : Int) := ⟨((c' / 3 + 7 * (i : Nat)) % 26).toNat, by omega⟩
      have hk26 : k < 26 := by omega
      obtain ⟨u, hu, uo, hix⟩ := abc_at hk26
      rw [hk] at hmod
      have hadd : gAdd (.str z) (.str u) = some (.d (.str (z ++ u))) := gAdd_str (by rw [hu, sizeLine_eq]; omega)
      refine ⟨_, rfl, _, .inl ?_, c' / 3 + 7 * (i : Nat), z ++ u, some (.d (.int (i : Nat))), rfl, by omega, ?_, strOk_app ho uo⟩
      · simp [hmul, hdiv, hmod, hix, hadd]
      · rw [str_app_len, hu]
        omega) [some (.d (.int c)), some (.d (.str "abcdefghijklmnopqrstuvwxyz")), some (.d (.str "")), none] ⟨c, "", none, rfl, h0, by decide, by first | rfl | decide +kernel⟩
  obtain ⟨env', e1, c', z, x, e2, h2, h3, h4⟩ := key
  subst e2
  refine ⟨z, ?_, ?_, h4⟩
  · have hmod : gMod (.int c) (.int 8) = some (.int (c % 8)) := gMod_int (by decide)
    have hr : rg1 [.int (1 + c % 8)] = .ok (rangeD 0 (1 + c % 8).toNat) := guard_ok (by omega)
    simp [hmod, hr, e1]
  · have : (rangeD 0 (1 + c % 8).toNat).length = (1 + c % 8).toNat := by simp [rangeD]
    rw [this] at h3
    omega
theorem okT_at : ∀ (p : List Int) (t u : Tr), okT t → atZ t p = some u → okT u
  | [], t, u, h, e => by rw [atZ] at e; cases e; exact h
  | z :: p, .mk nm k bs, u, h, e => by
    rw [atZ] at e
    rw [okT] at h
    cases hn : nth bs z with
    | none => rw [hn] at e; cases e
    | some b =>
      rw [hn] at e
      refine okT_at p b u ((okTs_iff bs).mp h.2.2 b ?_) e
      unfold nth at hn
      split at hn
      · cases hn
      · exact List.mem_of_getElem? hn
theorem lcR_filter {g : D → Ev → Option Ev} {c : Ev → R Bool} {e : Ev → R Ow} {env : Ev} (P : D → Bool) (h : D → Ow) : ∀ ds : List D, (∀ d ∈ ds, ∃ env1, g d env = some env1 ∧ c env1 = .ok (P d) ∧ (P d = true → e env1 = .ok (h d))) → lcR g c e env ds = .ok ((ds.filter P).map h)
  | [], _ => rfl
  | d :: ds, q => by
    obtain ⟨env1, q1, q2, q3⟩ := q d List.mem_cons_self
    have ih := lcR_filter (g := g) (c := c) (e := e) (env := env) P h ds fun d hd => q d (List.mem_cons_of_mem _ hd)
    unfold lcR
    rw [q1]
    simp only [q2, noEx_ok, R.bind_ok]
    cases hp : P d with
    | true =>
      rw [List.filter_cons_of_pos hp]
      simp only [if_true, q3 hp, noEx_ok, R.bind_ok, ih]
      rfl
    | false =>
      rw [List.filter_cons_of_neg (by rw [hp]; exact Bool.false_ne_true)]
      simp only [Bool.false_eq_true, if_false, ih]
/-- the rows that hang below a row, counted -/
theorem kf_count {rs : List TRow} (j : Nat) : ∀ s, s + 1 ≤ rs.length → (kf rs s j).length = ((rs.drop (rs.length - s)).filter fun r => decide (r.up = j)).length
  | 0, h => by simp [kf]
  | s + 1, h => by
    have ih := kf_count (rs := rs) j s (by omega)
    have hl : rs.length - (s + 1) < rs.length := by omega
    have ek : rs.length - 1 - s = rs.length - (s + 1) := by omega
    rw [List.drop_eq_getElem_cons hl, kf, ek, List.getElem?_eq_getElem hl]
    have en : rs.length - (s + 1) + 1 = rs.length - s := by omega
    rw [en]
    by_cases c : (rs[rs.length - (s + 1)]).up = j
    · rw [Option.map_some, if_pos (by rw [c]), List.filter_cons_of_pos (by simpa using c), List.length_cons, List.length_cons, ih]
    · rw [Option.map_some, if_neg (fun z => c (Option.some.inj z)), List.filter_cons_of_neg (by simpa using c), ih]
theorem kf_few {rs : List TRow} : ∀ s j, (kf rs s j).length ≤ s
  | 0, _ => by simp [kf]
  | s + 1, j => by
    unfold kf
    have := kf_few (rs := rs) s j
    split
    · simp; omega
    · omega
theorem rowT_facts {rs : List TRow} (hb : Below rs) (h0 : 0 < rs.length) (hl : rs.length ≤ 1000) {sp : Int} {o : Tr} (ho : okT o) (hn : ∀ r ∈ rs, PyData.strOk r.nm = true) : ∀ (f j : Nat), rs.length - j ≤ f → j < rs.length → levT (rowT rs sp o j) ≤ rs.length - j + levT o ∧ okT (rowT rs sp o j)
  | 0, j, h, hj => by omega
  | f + 1, j, h, hj => by
    have hr : rs[j]? = some rs[j] := List.getElem?_eq_getElem hj
    have ih : ∀ k ∈ kids rs j, levT (rowT rs sp o k) ≤ rs.length - j - 1 + levT o ∧ okT (rowT rs sp o k) := fun k hk => by
      obtain ⟨a, b, c, _⟩ := kids_mem hb h0 hk
      have := rowT_facts hb h0 hl (sp := sp) ho hn f k (by omega) c
      exact ⟨by omega, this.2⟩
    rw [rowT_eq hb h0 hr]
    split
    · exact ⟨by omega, ho⟩
    · have lv : ∀ ks : List Nat, (∀ k ∈ ks, levT (rowT rs sp o k) ≤ rs.length - j - 1 + levT o ∧ okT (rowT rs sp o k)) → levTs (ks.map (rowT rs sp o)) ≤ rs.length - j - 1 + levT o ∧ okTs (ks.map (rowT rs sp o)) := by
        intro ks
        induction ks with
        | nil => intro _; simp [levTs, okTs]
        | cons k ks ihk =>
          intro q
          obtain ⟨a, b⟩ := ihk fun k hk => q k (List.mem_cons_of_mem _ hk)
          obtain ⟨c, d⟩ := q k List.mem_cons_self
          rw [List.map_cons, levTs, okTs]
          exact ⟨by omega, d, b⟩
      obtain ⟨a, b⟩ := lv _ ih
      rw [levT, okT]
      refine ⟨by omega, hn _ (List.getElem_mem _), ?_, b⟩
      rw [List.length_map]
      have := kf_few (rs := rs) (rs.length - 1) j
      show (kf rs (rs.length - 1) j).length ≤ 1000
      omega
end Mir
set_option Elab.async false
set_option linter.all false
set_option maxRecDepth 100000
set_option maxHeartbeats 4000000
namespace Mir
open PySem PySem.Spec L2

/-! ### texts by their signs' numbers -/
def tx (l : List Nat) : Str := ⟨l.toArray⟩
@[simp] theorem tx_cps (l : List Nat) : (tx l).cps.toList = l := by simp [tx]
@[simp] theorem tx_len (l : List Nat) : (tx l).length = l.length := by rw [str_len, tx_cps]
theorem tx_of (z : Str) : z = tx z.cps.toList := by
  cases z with
  | mk a => simp [tx]
theorem tx_app (a b : List Nat) : tx a ++ tx b = tx (a ++ b) := by
  show (⟨(tx a).cps ++ (tx b).cps⟩ : Str) = _
  simp [tx]
theorem tx_inj {a b : List Nat} (h : tx a = tx b) : a = b := by
  have := congrArg (fun z : Str => z.cps.toList) h
  simpa using this
theorem gLen_tx (l : List Nat) (h : l.length ≤ 16777216) : gLen [.str (tx l)] = some (.d (.int l.length)) := by
  show (if (tx l).length ≤ sizeLine then some (Ow.d (.int (tx l).length)) else none) = _
  rw [tx_len, if_pos (by rw [sizeLine_eq]; exact h)]
theorem gIx_tx {l : List Nat} {i c : Nat} (h : l[i]? = some c) (hl : l.length ≤ 16777216) : gIx (.str (tx l)) (.int (i : Nat)) = some (.str (tx [c])) := by
  show (if (tx l).length ≤ sizeLine then (atI (tx l).cps.toList (i : Int)).map fun c => PyData.str ⟨#[c]⟩ else none) = _
  rw [tx_len, tx_cps, if_pos (by rw [sizeLine_eq]; exact hl), atI_natD h]
  rfl
theorem atI_last {α : Type} {xs : List α} {x : α} : atI (xs ++ [x]) (-1) = some x := by
  unfold atI ixN
  rw [if_neg (by decide)]
  have : -((xs ++ [x]).length : Int) ≤ -1 := by rw [List.length_append, List.length_singleton]; omega
  rw [if_pos this]
  have e : (-1 + ((xs ++ [x]).length : Int)).toNat = xs.length := by rw [List.length_append, List.length_singleton]; omega
  show (xs ++ [x])[(-1 + ((xs ++ [x]).length : Int)).toNat]? = _
  rw [e, List.getElem?_append_right (Nat.le_refl _)]
  simp
theorem gIx_last {l : List Nat} {c : Nat} (hl : l.length < 16777216) : gIx (.str (tx (l ++ [c]))) (.int (-1)) = some (.str (tx [c])) := by
  show (if (tx (l ++ [c])).length ≤ sizeLine then (atI (tx (l ++ [c])).cps.toList (-1)).map fun c => PyData.str ⟨#[c]⟩ else none) = _
  rw [tx_len, tx_cps, if_pos (by rw [sizeLine_eq]; simp; omega), atI_last]
  rfl
def inS (c : Nat) (z : Str) : Bool := decide (c ∈ z.cps.toList)
theorem gIn_tx (c : Nat) (z : Str) : gIn (.str (tx [c])) (.str z) = some (.bool (inS c z)) := gIn_sign c z
theorem gEq_tx (a b : List Nat) : gEq (.str (tx a)) (.str (tx b)) = some (.bool (decide (a = b))) := by
  have : PyData.eqv (.str (tx a)) (.str (tx b)) = decide (a = b) := by
    show (tx a == tx b) = _
    by_cases h : a = b
    · subst h; simp
    · rw [decide_eq_false h]
      exact beq_eq_false_iff_ne.mpr fun e => h (tx_inj e)
  show some (PyData.bool (PyData.eqv (.str (tx a)) (.str (tx b)))) = _
  rw [this]
theorem gSl_tx {l : List Nat} {i j : Nat} (h : j ≤ l.length) (hi : i ≤ j) (hl : l.length ≤ 16777216) : gSl (.str (tx l)) (some (i : Int)) (some (j : Int)) = some (.d (.str (tx ((l.drop i).take (j - i))))) := by
  show (if (tx l).length ≤ sizeLine then some (Ow.d (.str (cutS (tx l) (some (i : Int)) (some (j : Int))))) else none) = _
  rw [tx_len, if_pos (by rw [sizeLine_eq]; exact hl)]
  unfold cutS
  rw [tx_len, tx_cps, HT.sIx_nat, HT.sIx_nat, Nat.min_eq_left h, Nat.min_eq_left (by omega)]
  rfl
theorem gSl_to {l : List Nat} {k : Nat} (hl : l.length ≤ 16777216) : gSl (.str (tx l)) none (some (k : Int)) = some (.d (.str (tx (l.take k)))) := by
  show (if (tx l).length ≤ sizeLine then some (Ow.d (.str (cutS (tx l) none (some (k : Int))))) else none) = _
  rw [tx_len, if_pos (by rw [sizeLine_eq]; exact hl)]
  unfold cutS
  rw [tx_len, tx_cps, HT.sIx_nat, HT.sIx_none, List.drop_zero, Nat.sub_zero]
  by_cases h : k ≤ l.length
  · rw [Nat.min_eq_left h]; rfl
  · rw [Nat.min_eq_right (by omega), List.take_of_length_le (Nat.le_refl _), List.take_of_length_le (by omega)]; rfl
theorem gAdd_tx {a b : List Nat} (h : a.length + b.length ≤ 16777216) : gAdd (.str (tx a)) (.str (tx b)) = some (.d (.str (tx (a ++ b)))) := by
  rw [gAdd_str (by rw [tx_len, tx_len, sizeLine_eq]; exact h), tx_app]
/-! letters, figures, signs -/
def isL (c : Nat) : Bool := decide (97 ≤ c) && decide (c ≤ 122)
def isF (c : Nat) : Bool := decide (48 ≤ c) && decide (c ≤ 57)
def sigs : List Nat := [40, 41, 59, 58, 61, 124, 42]
theorem abc_is : abc.cps.toList = (List.range 26).map (fun k => 97 + k) := by decide +kernel
theorem mem_abc (c : Nat) : decide (c ∈ abc.cps.toList) = isL c := by
  rw [abc_is]
  unfold isL
  by_cases h : 97 ≤ c ∧ c ≤ 122
  · rw [decide_eq_true (List.mem_map.mpr ⟨c - 97, List.mem_range.mpr (by omega), by omega⟩)]
    simp [h]
  · rw [decide_eq_false fun z => ?_]
    · by_cases h1 : 97 ≤ c
      · have : ¬ c ≤ 122 := fun q => h ⟨h1, q⟩
        simp [h1, this]
      · simp [h1]
    · obtain ⟨k, hk, e⟩ := List.mem_map.mp z
      rw [List.mem_range] at hk
      exact h ⟨by omega, by omega⟩
abbrev figs : Str := "0123456789"
theorem figs_is : figs.cps.toList = (List.range 10).map (fun k => 48 + k) := by decide +kernel
theorem mem_figs (c : Nat) : decide (c ∈ figs.cps.toList) = isF c := by
  rw [figs_is]
  unfold isF
  by_cases h : 48 ≤ c ∧ c ≤ 57
  · rw [decide_eq_true (List.mem_map.mpr ⟨c - 48, List.mem_range.mpr (by omega), by omega⟩)]
    simp [h]
  · rw [decide_eq_false fun z => ?_]
    · by_cases h1 : 48 ≤ c
      · have : ¬ c ≤ 57 := fun q => h ⟨h1, q⟩
        simp [h1, this]
      · simp [h1]
    · obtain ⟨k, hk, e⟩ := List.mem_map.mp z
      rw [List.mem_range] at hk
      exact h ⟨by omega, by omega⟩
theorem sigs_is : (Str.ofString "();:=|*").cps.toList = sigs := by decide +kernel
theorem sp_is : (Str.ofString " ") = tx [32] := by rw [tx_of (Str.ofString " ")]; congr 1
theorem sp4_is : (Str.ofString "    ") = tx [32, 32, 32, 32] := by rw [tx_of (Str.ofString "    ")]; congr 1
theorem minus_is : (Str.ofString "-") = tx [45] := by rw [tx_of (Str.ofString "-")]; congr 1
theorem nought_is : (Str.ofString "0") = tx [48] := by rw [tx_of (Str.ofString "0")]; congr 1
theorem empty_is : (Str.ofString "") = tx [] := by rw [tx_of (Str.ofString "")]; congr 1

/-! ### whole numbers told -/
theorem numL_head : ∀ n : Nat, 1 ≤ n → ∃ c r, TL.numL n = c :: r ∧ c ≠ 48 := by
  intro n
  induction n using Nat.strongRecOn with
  | _ n ih =>
    intro h
    by_cases h1 : n < 10
    · rw [TL.numL_lt h1]
      exact ⟨48 + n, [], rfl, by omega⟩
    · rw [TL.numL_step (by omega)]
      obtain ⟨c, r, e, ne⟩ := ih (n / 10) (by omega) (by omega)
      rw [e]
      exact ⟨c, r ++ [48 + n % 10], rfl, ne⟩
theorem numL_zero : TL.numL 0 = [48] := TL.numL_lt (by decide)
theorem numL_isF (n : Nat) : ∀ c ∈ TL.numL n, isF c = true := fun c hc => by
  have := TL.numL_digits n c hc
  unfold isF
  simp [this.1, this.2]
theorem num_tx (n : Nat) : Str.ofString (toString ((n : Nat) : Int)) = tx (TL.numL n) := by
  rw [tx_of (Str.ofString (toString ((n : Nat) : Int)))]
  congr 1
  exact TL.tl_num n
theorem neg_tx (n : Nat) : Str.ofString (toString (Int.negSucc n)) = tx (45 :: TL.numL (n + 1)) := by
  have e : toString (Int.negSucc n) = "-" ++ toString ((n + 1 : Nat) : Int) := rfl
  have h : (toString ((n + 1 : Nat) : Int)).toList.map Char.toNat = TL.numL (n + 1) := by
    have := TL.tl_num (n + 1)
    rw [Str.ofString_eq_toList] at this
    simpa [TL.tl] using this
  rw [e, Str.ofString_eq_toList, String.toList_append, List.map_append, h]
  rfl
theorem inS_abc (c : Nat) : inS c abc = isL c := mem_abc c
theorem inS_figs (c : Nat) : inS c figs = isF c := mem_figs c
theorem inS_sigs (c : Nat) : inS c (Str.ofString "();:=|*") = decide (c ∈ sigs) := by unfold inS; rw [sigs_is]
end Mir
set_option Elab.async false
set_option linter.all false
set_option maxRecDepth 100000
set_option maxHeartbeats 4000000
namespace Mir
open PySem PySem.Spec L2
theorem abc_ix {k : Nat} (hk : k < 26) : gIx (.str abc) (.int (k : Int)) = some (.str (tx [97 + k])) := by
  rw [tx_of abc, abc_is]
  refine gIx_tx ?_ (by simp)
  rw [List.getElem?_map, List.getElem?_range hk]
  rfl
theorem strOk_tx {l : List Nat} (h : ∀ c ∈ l, c < 1000) : PyData.strOk (tx l) = true := by
  unfold PyData.strOk
  simp only [tx, List.all_toArray, List.all_eq_true, decide_eq_true_eq]
  intro c hc
  have := h c hc
  omega
theorem isL_small {c : Nat} (h : isL c = true) : c < 1000 := by
  unfold isL at h
  simp only [Bool.and_eq_true, decide_eq_true_eq] at h
  omega
theorem isF_small {c : Nat} (h : isF c = true) : c < 1000 := by
  unfold isF at h
  simp only [Bool.and_eq_true, decide_eq_true_eq] at h
  omega
theorem name_tx (c : Int) (h0 : 0 ≤ c) (h1 : c < 2147483648) : ∃ w : List Nat, finR ((sSeq (sSet 1 (eM (eC (.str "abcdefghijklmnopqrstuvwxyz")) Ow.d))
    (sSeq (sSet 2 (eM (eC (.str "")) Ow.d))
    (sSeq (sFor (eB (aCons (eM (eBinO gAdd (eC (.int 1)) (eBin gMod (eVar 0) (eC (.int 8)))) viewD) aNil) rg1) (gtName 3)
    (sSeq (sSet 0 (eM (eM (eBinO gAdd (eBin gDiv (eVar 0) (eC (.int 3))) (eBin gMul (eC (.int 7)) (eVar 3))) viewD) Ow.d))
    (sSet 2 (eM (eM (eBinO gAdd (eVar 2) (eBin gIx (eVar 1) (eBin gMod (eVar 0) (eC (.int 26))))) viewD) Ow.d))))
    (sRet (eM (eVar 2) Ow.d))))) (envOf 3 [.int c])) = .ok (.d (.str (tx w))) ∧ w ≠ [] ∧ (∀ c ∈ w, isL c = true) ∧ w.length ≤ 8 := by
  have key := forL_ind (g := gtName 3) (f := (sSeq (sSet 0 (eM (eM (eBinO gAdd (eBin gDiv (eVar 0) (eC (.int 3))) (eBin gMul (eC (.int 7)) (eVar 3))) viewD) Ow.d))
    (sSet 2 (eM (eM (eBinO gAdd (eVar 2) (eBin gIx (eVar 1) (eBin gMod (eVar 0) (eC (.int 26))))) viewD) Ow.d)))) (rangeD 0 (1 + c % 8).toNat)
    (fun i env => ∃ (c' : Int) (w : List Nat) (x : Option Ow), env = [some (.d (.int c')), some (.d (.str "abcdefghijklmnopqrstuvwxyz")), some (.d (.str (tx w))), x] ∧ 0 ≤ c' ∧ w.length = i ∧ ∀ c ∈ w, isL c = true) (fun i d env hd ⟨c', w, x, he, hc, hz, ho⟩ => by
      obtain ⟨hi, ed⟩ := rangeD_at hd
      rw [Int.zero_add] at ed
      subst ed he
      have hmul : gMul (.int 7) (.int (i : Nat)) = some (.int (7 * (i : Nat))) := gMul_small (by decide) (by
        have : (10 : Nat) < 2 ^ 250 := by decide
        omega)
      have hdiv : gDiv (.int c') (.int 3) = some (.int (c' / 3)) := gDiv_small (by decide) (by decide)
      have hmod : gMod (.int (c' / 3 + 7 * (i : Nat))) (.int 26) = some (.int ((c' / 3 + 7 * (i : Nat)) % 26)) := gMod_int (by decide)
      obtain ⟨k, hk⟩ : ∃ k : Nat, (c' / 3 + 7 * (i : Nat)) % 26 = (k : Int) := ⟨((c' / 3 + 7 * (i : Nat)) % 26).toNat, by omega⟩
      have hk26 : k < 26 := by omega
      have hix := abc_ix hk26
      rw [hk] at hmod
      have hadd : gAdd (.str (tx w)) (.str (tx [97 + k])) = some (.d (.str (tx (w ++ [97 + k])))) := gAdd_tx (by rw [List.length_singleton]; omega)
      refine ⟨_, rfl, _, .inl ?_, c' / 3 + 7 * (i : Nat), w ++ [97 + k], some (.d (.int (i : Nat))), rfl, by omega, by simp [hz], fun c hc => ?_⟩
      · simp [hmul, hdiv, hmod, hix, hadd]
      · rcases List.mem_append.mp hc with h | h
        · exact ho c h
        · rw [List.mem_singleton] at h
          subst h
          unfold isL
          have a : 97 ≤ 97 + k := by omega
          have b : 97 + k ≤ 122 := by omega
          simp [a, b]) [some (.d (.int c)), some (.d (.str "abcdefghijklmnopqrstuvwxyz")), some (.d (.str "")), none] ⟨c, [], none, by rw [← empty_is], h0, rfl, fun c hc => by cases hc⟩
  obtain ⟨env', e1, c', w, x, e2, h2, h3, h4⟩ := key
  subst e2
  have hlen : (rangeD 0 (1 + c % 8).toNat).length = (1 + c % 8).toNat := by simp [rangeD]
  rw [hlen] at h3
  refine ⟨w, ?_, ?_, h4, by omega⟩
  · have hmod : gMod (.int c) (.int 8) = some (.int (c % 8)) := gMod_int (by decide)
    have hr : rg1 [.int (1 + c % 8)] = .ok (rangeD 0 (1 + c % 8).toNat) := guard_ok (by omega)
    simp [hmod, hr, e1]
  · intro e
    rw [e] at h3
    simp at h3
    omega
theorem log2_lt_of {n k : Nat} (h : n < 2 ^ k) (hk : 0 < k) : n.log2 < k := by
  by_cases e : n = 0
  · subst e; rw [show Nat.log2 0 = 0 from by decide]; exact hk
  · exact (Nat.log2_lt e).mpr h
theorem gStr_nat {n : Nat} (h : n < 2 ^ 1000) : gStr [.int (n : Nat)] = some (.d (.str (tx (TL.numL n)))) := by
  have : (Int.natAbs (n : Int)).log2 < 1920 := by
    rw [Int.natAbs_natCast]
    have := log2_lt_of h (by decide)
    omega
  show (if (Int.natAbs (n : Int)).log2 < 1920 then some (Ow.d (PyData.str (Str.ofString (toString (n : Int))))) else none) = _
  rw [if_pos this, num_tx]
theorem gStr_neg {n : Nat} (h : n + 1 < 2 ^ 1000) : gStr [.int (Int.negSucc n)] = some (.d (.str (tx (45 :: TL.numL (n + 1))))) := by
  have : (Int.negSucc n).natAbs.log2 < 1920 := by
    show (n + 1).log2 < 1920
    have := log2_lt_of h (by decide)
    omega
  show (if (Int.negSucc n).natAbs.log2 < 1920 then some (Ow.d (PyData.str (Str.ofString (toString (Int.negSucc n))))) else none) = _
  rw [if_pos this, neg_tx]
end Mir
set_option Elab.async false
set_option linter.all false
set_option maxRecDepth 100000
set_option maxHeartbeats 4000000
namespace G
open PySem PySem.Spec L2 Mir
def top (i : Nat) : Stmt := PySem.Challenge.pw_turnery_k03_words_of_a_text.main.body.getD i (.Pass ⟨0, 0, 0, 0⟩)
abbrev s_run_end : Stmt := top 7
abbrev s_word_end : Stmt := top 8
abbrev s_words : Stmt := top 9
abbrev s__law_name_by : Stmt := top 11
abbrev s__law_word_by : Stmt := top 12
abbrev s__law_letter : Stmt := top 13
abbrev s__law_figure : Stmt := top 14
abbrev s__law_touch : Stmt := top 15
abbrev s_law : Stmt := top 16
/-! mirrors -/
/-- run_end: 0 text, 1 start, 2 signs, 3 end -/
noncomputable def b_run_end (m : Nat → List PyData → R Ow) : Ev → SR :=
    (sSeq (sSet 3 (eM (eVar 1) Ow.d))
    (sSeq (whileN (tAndE (eB (eBin gLt (eVar 3) (eM (eCa gLen (aCons (eVar 0) aNil)) viewD)) asB) (eB (eBin gIn (eBin gIx (eVar 0) (eVar 3)) (eVar 2)) asB))
    (sAug gAddA 3 (eC (.int 1))) 1000000)
    (sRet (eM (eVar 3) Ow.d))))
/-- word_end: 0 text, 1 start, 2 end, 3 first -/
noncomputable def b_word_end (m : Nat → List PyData → R Ow) : Ev → SR :=
    (sSeq (sIf (eB (eBin gIn (eBin gIx (eVar 0) (eVar 1)) (eC (.str "();:=|*"))) asB)
    (sRet (eBinO gAdd (eVar 1) (eC (.int 1))))
    sSkip)
    (sSeq (sSet 2 (eM (eM (eB (aCons (eVar 0) (aCons (eVar 1) (aCons (eC (.str "abcdefghijklmnopqrstuvwxyz")) aNil))) (m 0)) viewD) Ow.d))
    (sSeq (sIf (eB (eBin gGt (eVar 2) (eVar 1)) asB)
    (sSeq (sIf (eB (eBin gGt (eBin gSub (eVar 2) (eVar 1)) (eC (.int 8))) asB)
    sNo
    sSkip)
    (sRet (eM (eVar 2) Ow.d)))
    sSkip)
    (sSeq (sSet 3 (eM (eM (eBinO gAdd (eVar 1) (eB (eCa gInt (aCons (eBin gEq (eBin gIx (eVar 0) (eVar 1)) (eC (.str "-"))) aNil)) shD)) viewD) Ow.d))
    (sSeq (sSet 2 (eM (eM (eB (aCons (eVar 0) (aCons (eVar 3) (aCons (eC (.str "0123456789")) aNil))) (m 0)) viewD) Ow.d))
    (sSeq (sIf (tOrE (eB (eBin gEq (eVar 2) (eVar 3)) asB) (eB (eBin gGt (eBin gSub (eVar 2) (eVar 3)) (eC (.int 60))) asB))
    sNo
    sSkip)
    (sSeq (sIf (tAndE (eB (eBin gEq (eBin gIx (eVar 0) (eVar 3)) (eC (.str "0"))) asB) (tOrE (eB (eBin gGt (eBin gSub (eVar 2) (eVar 3)) (eC (.int 1))) asB) (eB (eBin gGt (eVar 3) (eVar 1)) asB)))
    sNo
    sSkip)
    (sRet (eM (eVar 2) Ow.d)))))))))
/-- words: 0 text, 1 found, 2 here, 3 end -/
noncomputable def b_words (m : Nat → List PyData → R Ow) : Ev → SR :=
    (sSeq (sIf (tNotE (eB (eB (eVar 0) (gIsi "str")) asB))
    sNo
    sSkip)
    (sSeq (sSet 1 (eLst aNil))
    (sSeq (sSet 2 (eM (eC (.int 0)) Ow.d))
    (sSeq (whileN (eB (eBin gLt (eVar 2) (eM (eCa gLen (aCons (eVar 0) aNil)) viewD)) asB)
    (sSeq (sIf (eB (eBin gEq (eBin gIx (eVar 0) (eVar 2)) (eC (.str " "))) asB)
    (sSeq (sAug gAddA 2 (eC (.int 1)))
    sCont)
    sSkip)
    (sSeq (sSet 3 (eM (eM (eB (aCons (eVar 0) (aCons (eVar 2) aNil)) (m 1)) viewD) Ow.d))
    (sSeq (sApp 1 (eSl (eVar 0) (eB (eVar 2) asI) (eB (eVar 3) asI)))
    (sSet 2 (eM (eVar 3) Ow.d))))) 1000000)
    (sRetV 1)))))
/-- _law_name_by: 0 _law_cell, 1 _law_letters, 2 _law_name, 3 _law_k -/
noncomputable def b__law_name_by (m : Nat → List PyData → R Ow) : Ev → SR :=
    (sSeq (sSet 1 (eM (eC (.str "abcdefghijklmnopqrstuvwxyz")) Ow.d))
    (sSeq (sSet 2 (eM (eC (.str "")) Ow.d))
    (sSeq (sFor (eB (aCons (eM (eBinO gAdd (eC (.int 1)) (eBin gMod (eVar 0) (eC (.int 8)))) viewD) aNil) rg1) (gtName 3)
    (sSeq (sSet 0 (eM (eM (eBinO gAdd (eBin gDiv (eVar 0) (eC (.int 3))) (eBin gMul (eC (.int 7)) (eVar 3))) viewD) Ow.d))
    (sSet 2 (eM (eM (eBinO gAdd (eVar 2) (eBin gIx (eVar 1) (eBin gMod (eVar 0) (eC (.int 26))))) viewD) Ow.d))))
    (sRet (eM (eVar 2) Ow.d)))))
/-- _law_word_by: 0 _law_cell, 1 _law_number, 2 _law_way -/
noncomputable def b__law_word_by (m : Nat → List PyData → R Ow) : Ev → SR :=
    (sSeq (sSet 1 (eM (eBin gMod (eVar 0) (eBin gPow (eC (.int 10)) (eC (.int 64)))) Ow.d))
    (sSeq (sSet 2 (eM (eBin gMod (eVar 1) (eC (.int 7))) Ow.d))
    (sSeq (sIf (eB (eBin gLt (eVar 2) (eC (.int 2))) asB)
    (sRet (eB (aCons (eBin gMod (eBin gMul (eBin gDiv (eVar 1) (eC (.int 7))) (eC (.int 48271))) (eC (.int 2147483647))) aNil) (m 3)))
    sSkip)
    (sSeq (sIf (eB (eBin gEq (eVar 2) (eC (.int 2))) asB)
    (sRet (eCa gStr (aCons (eBin gMod (eBin gDiv (eVar 1) (eC (.int 7))) (eBin gPow (eC (.int 10)) (eC (.int 60)))) aNil)))
    sSkip)
    (sSeq (sIf (eB (eBin gEq (eVar 2) (eC (.int 3))) asB)
    (sRet (eCa gStr (aCons (eBin gSub (eBin gSub (eC (.int 0)) (eC (.int 1))) (eBin gMod (eBin gDiv (eVar 1) (eC (.int 7))) (eBin gSub (eBin gPow (eC (.int 10)) (eC (.int 60))) (eC (.int 1))))) aNil)))
    sSkip)
    (sSeq (sIf (eB (eBin gEq (eVar 2) (eC (.int 4))) asB)
    (sRet (eCa gStr (aCons (eBin gSub (eBin gMod (eBin gDiv (eVar 1) (eC (.int 14))) (eC (.int 13))) (eC (.int 6))) aNil)))
    sSkip)
    (sRet (eM (eBin gIx (eC (.str "();:=|*")) (eBin gMod (eBin gDiv (eVar 1) (eC (.int 7))) (eC (.int 7)))) Ow.d))))))))
/-- _law_letter: 0 _law_sign -/
noncomputable def b__law_letter (m : Nat → List PyData → R Ow) : Ev → SR :=
    (sRet (eM (eBin gIn (eVar 0) (eC (.str "abcdefghijklmnopqrstuvwxyz"))) Ow.d))
/-- _law_figure: 0 _law_sign -/
noncomputable def b__law_figure (m : Nat → List PyData → R Ow) : Ev → SR :=
    (sRet (eM (eBin gIn (eVar 0) (eC (.str "0123456789"))) Ow.d))
/-- _law_touch: 0 _law_one, 1 _law_other -/
noncomputable def b__law_touch (m : Nat → List PyData → R Ow) : Ev → SR :=
    (sSeq (sIf (eB (eM (eB (aCons (eBin gIx (eVar 0) (eB (eC (.int 1)) gNeg)) aNil) (m 5)) viewD) asB)
    (sRet (eB (aCons (eBin gIx (eVar 1) (eC (.int 0))) aNil) (m 5)))
    sSkip)
    (sRet (eM (eAnd (eM (eB (aCons (eBin gIx (eVar 0) (eB (eC (.int 1)) gNeg)) aNil) (m 6)) viewD) (eM (eB (aCons (eBin gIx (eVar 1) (eC (.int 0))) aNil) (m 6)) viewD)) Ow.d)))
/-- law: 0 _law_script, 1 _law_due, 2 _law_written, 3 _law_cell, 4 _law_word, 5 _law_blanks, 6 _law_found -/
noncomputable def b_law (m : Nat → List PyData → R Ow) : Ev → SR :=
    (sSeq (sSet 1 (eLst aNil))
    (sSeq (sSet 2 (eM (eC (.str "")) Ow.d))
    (sSeq (sFor (eB (eM (eSl (eVar 0) oNone (eB (eC (.int 50)) asI)) viewD) itD) (gtName 3)
    (sSeq (sSet 4 (eM (eM (eB (aCons (eVar 3) aNil) (m 4)) viewD) Ow.d))
    (sSeq (sSet 5 (eM (eBin gMod (eBin gMod (eBin gMul (eVar 3) (eC (.int 69621))) (eC (.int 1000003))) (eC (.int 4))) Ow.d))
    (sSeq (sIf (tAndE (eB (eBin gNe (eM (eVarO 1) viewD) (eM (eLst aNil) viewD)) asB) (tAndE (eB (eBin gEq (eVar 5) (eC (.int 0))) asB) (eB (eM (eB (aCons (eBin gIx (eB (eVarO 1) shD) (eB (eC (.int 1)) gNeg)) (aCons (eVar 4) aNil)) (m 7)) viewD) asB)))
    (sSet 5 (eM (eC (.int 1)) Ow.d))
    sSkip)
    (sSeq (sSet 2 (eM (eM (eBinO gAdd (eB (eBinO gAdd (eVar 2) (eB (eSl (eC (.str "    ")) oNone (eB (eVar 5) asI)) shD)) shD) (eVar 4)) viewD) Ow.d))
    (sApp 1 (eM (eVar 4) Ow.d)))))))
    (sSeq (sSet 2 (eM (eM (eBinO gAdd (eVar 2) (eB (eSl (eC (.str "    ")) oNone (eB (eBin gMod (eM (eCa gLen (aCons (eVar 0) aNil)) viewD) (eC (.int 4))) asI)) shD)) viewD) Ow.d))
    (sSeq (sSet 6 (eB (aCons (eVar 2) aNil) (m 2)))
    (sSeq (sIf (tOrE (tNotE (eB (eB (eM (eVarO 6) viewD) (gIsi "list")) asB)) (eB (eBin gNe (eM (eVarO 6) viewD) (eM (eVarO 1) viewD)) asB))
    (sRet (eM (eC (.bool false)) Ow.d))
    sSkip)
    (sSeq (sForV 6 (gtName 4)
    (sIf (tNotE (eB (eB (eVar 4) (gIsi "str")) asB))
    (sRet (eM (eC (.bool false)) Ow.d))
    sSkip))
    (sSeq (sApp 6 (eM (eC (.str "a")) Ow.d))
    (sSeq (sSet 6 (eB (aCons (eVar 2) aNil) (m 2)))
    (sRet (eM (eBin gEq (eM (eVarO 6) viewD) (eM (eVarO 1) viewD)) Ow.d)))))))))))
noncomputable def mir : Nat → Nat → List PyData → R Ow
  | 0, _ => fun _ => .no
  | n + 1, i => match i with
    | 0 => runB 1 (b_run_end (mir n))
    | 1 => runB 2 (b_word_end (mir n))
    | 2 => runB 3 (b_words (mir n))
    | 3 => runB 3 (b__law_name_by (mir n))
    | 4 => runB 2 (b__law_word_by (mir n))
    | 5 => runB 0 (b__law_letter (mir n))
    | 6 => runB 0 (b__law_figure (mir n))
    | 7 => runB 0 (b__law_touch (mir n))
    | 8 => runB 6 (b_law (mir n))
    | _ => fun _ => .no
theorem mir_run_end (n : Nat) (ds : List PyData) : mir (n + 1) 0 ds = runB 1 (b_run_end (mir n)) ds := rfl
theorem mir_word_end (n : Nat) (ds : List PyData) : mir (n + 1) 1 ds = runB 2 (b_word_end (mir n)) ds := rfl
theorem mir_words (n : Nat) (ds : List PyData) : mir (n + 1) 2 ds = runB 3 (b_words (mir n)) ds := rfl
theorem mir__law_name_by (n : Nat) (ds : List PyData) : mir (n + 1) 3 ds = runB 3 (b__law_name_by (mir n)) ds := rfl
theorem mir__law_word_by (n : Nat) (ds : List PyData) : mir (n + 1) 4 ds = runB 2 (b__law_word_by (mir n)) ds := rfl
theorem mir__law_letter (n : Nat) (ds : List PyData) : mir (n + 1) 5 ds = runB 0 (b__law_letter (mir n)) ds := rfl
theorem mir__law_figure (n : Nat) (ds : List PyData) : mir (n + 1) 6 ds = runB 0 (b__law_figure (mir n)) ds := rfl
theorem mir__law_touch (n : Nat) (ds : List PyData) : mir (n + 1) 7 ds = runB 0 (b__law_touch (mir n)) ds := rfl
theorem mir_law (n : Nat) (ds : List PyData) : mir (n + 1) 8 ds = runB 6 (b_law (mir n)) ds := rfl
theorem run_run_end (m : Nat → List PyData → R Ow) (ds : List PyData) : runB 1 (b_run_end m) ds = finR (((sSeq (sSet 3 (eM (eVar 1) Ow.d))
    (sSeq (whileN (tAndE (eB (eBin gLt (eVar 3) (eM (eCa gLen (aCons (eVar 0) aNil)) viewD)) asB) (eB (eBin gIn (eBin gIx (eVar 0) (eVar 3)) (eVar 2)) asB))
    (sAug gAddA 3 (eC (.int 1))) 1000000)
    (sRet (eM (eVar 3) Ow.d))))) (envOf 1 ds)) := runB_fin _ _ _
theorem run_word_end (m : Nat → List PyData → R Ow) (ds : List PyData) : runB 2 (b_word_end m) ds = finR (((sSeq (sIf (eB (eBin gIn (eBin gIx (eVar 0) (eVar 1)) (eC (.str "();:=|*"))) asB)
    (sRet (eBinO gAdd (eVar 1) (eC (.int 1))))
    sSkip)
    (sSeq (sSet 2 (eM (eM (eB (aCons (eVar 0) (aCons (eVar 1) (aCons (eC (.str "abcdefghijklmnopqrstuvwxyz")) aNil))) (m 0)) viewD) Ow.d))
    (sSeq (sIf (eB (eBin gGt (eVar 2) (eVar 1)) asB)
    (sSeq (sIf (eB (eBin gGt (eBin gSub (eVar 2) (eVar 1)) (eC (.int 8))) asB)
    sNo
    sSkip)
    (sRet (eM (eVar 2) Ow.d)))
    sSkip)
    (sSeq (sSet 3 (eM (eM (eBinO gAdd (eVar 1) (eB (eCa gInt (aCons (eBin gEq (eBin gIx (eVar 0) (eVar 1)) (eC (.str "-"))) aNil)) shD)) viewD) Ow.d))
    (sSeq (sSet 2 (eM (eM (eB (aCons (eVar 0) (aCons (eVar 3) (aCons (eC (.str "0123456789")) aNil))) (m 0)) viewD) Ow.d))
    (sSeq (sIf (tOrE (eB (eBin gEq (eVar 2) (eVar 3)) asB) (eB (eBin gGt (eBin gSub (eVar 2) (eVar 3)) (eC (.int 60))) asB))
    sNo
    sSkip)
    (sSeq (sIf (tAndE (eB (eBin gEq (eBin gIx (eVar 0) (eVar 3)) (eC (.str "0"))) asB) (tOrE (eB (eBin gGt (eBin gSub (eVar 2) (eVar 3)) (eC (.int 1))) asB) (eB (eBin gGt (eVar 3) (eVar 1)) asB)))
    sNo
    sSkip)
    (sRet (eM (eVar 2) Ow.d)))))))))) (envOf 2 ds)) := runB_fin _ _ _
theorem run_words (m : Nat → List PyData → R Ow) (ds : List PyData) : runB 3 (b_words m) ds = finR (((sSeq (sIf (tNotE (eB (eB (eVar 0) (gIsi "str")) asB))
    sNo
    sSkip)
    (sSeq (sSet 1 (eLst aNil))
    (sSeq (sSet 2 (eM (eC (.int 0)) Ow.d))
    (sSeq (whileN (eB (eBin gLt (eVar 2) (eM (eCa gLen (aCons (eVar 0) aNil)) viewD)) asB)
    (sSeq (sIf (eB (eBin gEq (eBin gIx (eVar 0) (eVar 2)) (eC (.str " "))) asB)
    (sSeq (sAug gAddA 2 (eC (.int 1)))
    sCont)
    sSkip)
    (sSeq (sSet 3 (eM (eM (eB (aCons (eVar 0) (aCons (eVar 2) aNil)) (m 1)) viewD) Ow.d))
    (sSeq (sApp 1 (eSl (eVar 0) (eB (eVar 2) asI) (eB (eVar 3) asI)))
    (sSet 2 (eM (eVar 3) Ow.d))))) 1000000)
    (sRetV 1)))))) (envOf 3 ds)) := runB_fin _ _ _
theorem run__law_name_by (m : Nat → List PyData → R Ow) (ds : List PyData) : runB 3 (b__law_name_by m) ds = finR (((sSeq (sSet 1 (eM (eC (.str "abcdefghijklmnopqrstuvwxyz")) Ow.d))
    (sSeq (sSet 2 (eM (eC (.str "")) Ow.d))
    (sSeq (sFor (eB (aCons (eM (eBinO gAdd (eC (.int 1)) (eBin gMod (eVar 0) (eC (.int 8)))) viewD) aNil) rg1) (gtName 3)
    (sSeq (sSet 0 (eM (eM (eBinO gAdd (eBin gDiv (eVar 0) (eC (.int 3))) (eBin gMul (eC (.int 7)) (eVar 3))) viewD) Ow.d))
    (sSet 2 (eM (eM (eBinO gAdd (eVar 2) (eBin gIx (eVar 1) (eBin gMod (eVar 0) (eC (.int 26))))) viewD) Ow.d))))
    (sRet (eM (eVar 2) Ow.d)))))) (envOf 3 ds)) := runB_fin _ _ _
theorem run__law_word_by (m : Nat → List PyData → R Ow) (ds : List PyData) : runB 2 (b__law_word_by m) ds = finR (((sSeq (sSet 1 (eM (eBin gMod (eVar 0) (eBin gPow (eC (.int 10)) (eC (.int 64)))) Ow.d))
    (sSeq (sSet 2 (eM (eBin gMod (eVar 1) (eC (.int 7))) Ow.d))
    (sSeq (sIf (eB (eBin gLt (eVar 2) (eC (.int 2))) asB)
    (sRet (eB (aCons (eBin gMod (eBin gMul (eBin gDiv (eVar 1) (eC (.int 7))) (eC (.int 48271))) (eC (.int 2147483647))) aNil) (m 3)))
    sSkip)
    (sSeq (sIf (eB (eBin gEq (eVar 2) (eC (.int 2))) asB)
    (sRet (eCa gStr (aCons (eBin gMod (eBin gDiv (eVar 1) (eC (.int 7))) (eBin gPow (eC (.int 10)) (eC (.int 60)))) aNil)))
    sSkip)
    (sSeq (sIf (eB (eBin gEq (eVar 2) (eC (.int 3))) asB)
    (sRet (eCa gStr (aCons (eBin gSub (eBin gSub (eC (.int 0)) (eC (.int 1))) (eBin gMod (eBin gDiv (eVar 1) (eC (.int 7))) (eBin gSub (eBin gPow (eC (.int 10)) (eC (.int 60))) (eC (.int 1))))) aNil)))
    sSkip)
    (sSeq (sIf (eB (eBin gEq (eVar 2) (eC (.int 4))) asB)
    (sRet (eCa gStr (aCons (eBin gSub (eBin gMod (eBin gDiv (eVar 1) (eC (.int 14))) (eC (.int 13))) (eC (.int 6))) aNil)))
    sSkip)
    (sRet (eM (eBin gIx (eC (.str "();:=|*")) (eBin gMod (eBin gDiv (eVar 1) (eC (.int 7))) (eC (.int 7)))) Ow.d))))))))) (envOf 2 ds)) := runB_fin _ _ _
theorem run__law_letter (m : Nat → List PyData → R Ow) (ds : List PyData) : runB 0 (b__law_letter m) ds = finR (((sRet (eM (eBin gIn (eVar 0) (eC (.str "abcdefghijklmnopqrstuvwxyz"))) Ow.d))) (envOf 0 ds)) := runB_fin _ _ _
theorem run__law_figure (m : Nat → List PyData → R Ow) (ds : List PyData) : runB 0 (b__law_figure m) ds = finR (((sRet (eM (eBin gIn (eVar 0) (eC (.str "0123456789"))) Ow.d))) (envOf 0 ds)) := runB_fin _ _ _
theorem run__law_touch (m : Nat → List PyData → R Ow) (ds : List PyData) : runB 0 (b__law_touch m) ds = finR (((sSeq (sIf (eB (eM (eB (aCons (eBin gIx (eVar 0) (eB (eC (.int 1)) gNeg)) aNil) (m 5)) viewD) asB)
    (sRet (eB (aCons (eBin gIx (eVar 1) (eC (.int 0))) aNil) (m 5)))
    sSkip)
    (sRet (eM (eAnd (eM (eB (aCons (eBin gIx (eVar 0) (eB (eC (.int 1)) gNeg)) aNil) (m 6)) viewD) (eM (eB (aCons (eBin gIx (eVar 1) (eC (.int 0))) aNil) (m 6)) viewD)) Ow.d)))) (envOf 0 ds)) := runB_fin _ _ _
theorem run_law (m : Nat → List PyData → R Ow) (ds : List PyData) : runB 6 (b_law m) ds = finR (((sSeq (sSet 1 (eLst aNil))
    (sSeq (sSet 2 (eM (eC (.str "")) Ow.d))
    (sSeq (sFor (eB (eM (eSl (eVar 0) oNone (eB (eC (.int 50)) asI)) viewD) itD) (gtName 3)
    (sSeq (sSet 4 (eM (eM (eB (aCons (eVar 3) aNil) (m 4)) viewD) Ow.d))
    (sSeq (sSet 5 (eM (eBin gMod (eBin gMod (eBin gMul (eVar 3) (eC (.int 69621))) (eC (.int 1000003))) (eC (.int 4))) Ow.d))
    (sSeq (sIf (tAndE (eB (eBin gNe (eM (eVarO 1) viewD) (eM (eLst aNil) viewD)) asB) (tAndE (eB (eBin gEq (eVar 5) (eC (.int 0))) asB) (eB (eM (eB (aCons (eBin gIx (eB (eVarO 1) shD) (eB (eC (.int 1)) gNeg)) (aCons (eVar 4) aNil)) (m 7)) viewD) asB)))
    (sSet 5 (eM (eC (.int 1)) Ow.d))
    sSkip)
    (sSeq (sSet 2 (eM (eM (eBinO gAdd (eB (eBinO gAdd (eVar 2) (eB (eSl (eC (.str "    ")) oNone (eB (eVar 5) asI)) shD)) shD) (eVar 4)) viewD) Ow.d))
    (sApp 1 (eM (eVar 4) Ow.d)))))))
    (sSeq (sSet 2 (eM (eM (eBinO gAdd (eVar 2) (eB (eSl (eC (.str "    ")) oNone (eB (eBin gMod (eM (eCa gLen (aCons (eVar 0) aNil)) viewD) (eC (.int 4))) asI)) shD)) viewD) Ow.d))
    (sSeq (sSet 6 (eB (aCons (eVar 2) aNil) (m 2)))
    (sSeq (sIf (tOrE (tNotE (eB (eB (eM (eVarO 6) viewD) (gIsi "list")) asB)) (eB (eBin gNe (eM (eVarO 6) viewD) (eM (eVarO 1) viewD)) asB))
    (sRet (eM (eC (.bool false)) Ow.d))
    sSkip)
    (sSeq (sForV 6 (gtName 4)
    (sIf (tNotE (eB (eB (eVar 4) (gIsi "str")) asB))
    (sRet (eM (eC (.bool false)) Ow.d))
    sSkip))
    (sSeq (sApp 6 (eM (eC (.str "a")) Ow.d))
    (sSeq (sSet 6 (eB (aCons (eVar 2) aNil) (m 2)))
    (sRet (eM (eBin gEq (eM (eVarO 6) viewD) (eM (eVarO 1) viewD)) Ow.d)))))))))))) (envOf 6 ds)) := runB_fin _ _ _
/-! soundness -/
abbrev N_run_end : List Str := ["text", "start", "signs", "end"]
theorem sc_run_end : FnScope N_run_end ["text", "start", "signs"] (defScope s_run_end) := ⟨rfl, rfl, rfl, by decide +kernel, rfl, by decide +kernel, by decide +kernel⟩
abbrev N_word_end : List Str := ["text", "start", "end", "first"]
theorem sc_word_end : FnScope N_word_end ["text", "start"] (defScope s_word_end) := ⟨rfl, rfl, rfl, by decide +kernel, rfl, by decide +kernel, by decide +kernel⟩
abbrev N_words : List Str := ["text", "found", "here", "end"]
theorem sc_words : FnScope N_words ["text"] (defScope s_words) := ⟨rfl, rfl, rfl, by decide +kernel, rfl, by decide +kernel, by decide +kernel⟩
abbrev N__law_name_by : List Str := ["_law_cell", "_law_letters", "_law_name", "_law_k"]
theorem sc__law_name_by : FnScope N__law_name_by ["_law_cell"] (defScope s__law_name_by) := ⟨rfl, rfl, rfl, by decide +kernel, rfl, by decide +kernel, by decide +kernel⟩
abbrev N__law_word_by : List Str := ["_law_cell", "_law_number", "_law_way"]
theorem sc__law_word_by : FnScope N__law_word_by ["_law_cell"] (defScope s__law_word_by) := ⟨rfl, rfl, rfl, by decide +kernel, rfl, by decide +kernel, by decide +kernel⟩
abbrev N__law_letter : List Str := ["_law_sign"]
theorem sc__law_letter : FnScope N__law_letter ["_law_sign"] (defScope s__law_letter) := ⟨rfl, rfl, rfl, by decide +kernel, rfl, by decide +kernel, by decide +kernel⟩
abbrev N__law_figure : List Str := ["_law_sign"]
theorem sc__law_figure : FnScope N__law_figure ["_law_sign"] (defScope s__law_figure) := ⟨rfl, rfl, rfl, by decide +kernel, rfl, by decide +kernel, by decide +kernel⟩
abbrev N__law_touch : List Str := ["_law_one", "_law_other"]
theorem sc__law_touch : FnScope N__law_touch ["_law_one", "_law_other"] (defScope s__law_touch) := ⟨rfl, rfl, rfl, by decide +kernel, rfl, by decide +kernel, by decide +kernel⟩
abbrev N_law : List Str := ["_law_script", "_law_due", "_law_written", "_law_cell", "_law_word", "_law_blanks", "_law_found"]
theorem sc_law : FnScope N_law ["_law_script"] (defScope s_law) := ⟨rfl, rfl, rfl, by decide +kernel, rfl, by decide +kernel, by decide +kernel⟩
structure Txt (K : PySem.W.Frag) (mg : Str → Option Value) (f : Nat → Addr) (fd : Nat → FuncData) : Prop where
  F_run_end : Fun K "run_end" "run_end" s_run_end (f 0) (fd 0)
  B_run_end : Binds K (fd 0) ["text", "start", "signs"] []
  M_run_end : mg "run_end" = some (.ref (f 0))
  F_word_end : Fun K "word_end" "word_end" s_word_end (f 1) (fd 1)
  B_word_end : Binds K (fd 1) ["text", "start"] []
  M_word_end : mg "word_end" = some (.ref (f 1))
  F_words : Fun K "words" "words" s_words (f 2) (fd 2)
  B_words : Binds K (fd 2) ["text"] []
  M_words : mg "words" = some (.ref (f 2))
  F__law_name_by : Fun K "_law_name_by" "_law_name_by" s__law_name_by (f 3) (fd 3)
  B__law_name_by : Binds K (fd 3) ["_law_cell"] []
  M__law_name_by : mg "_law_name_by" = some (.ref (f 3))
  F__law_word_by : Fun K "_law_word_by" "_law_word_by" s__law_word_by (f 4) (fd 4)
  B__law_word_by : Binds K (fd 4) ["_law_cell"] []
  M__law_word_by : mg "_law_word_by" = some (.ref (f 4))
  F__law_letter : Fun K "_law_letter" "_law_letter" s__law_letter (f 5) (fd 5)
  B__law_letter : Binds K (fd 5) ["_law_sign"] []
  M__law_letter : mg "_law_letter" = some (.ref (f 5))
  F__law_figure : Fun K "_law_figure" "_law_figure" s__law_figure (f 6) (fd 6)
  B__law_figure : Binds K (fd 6) ["_law_sign"] []
  M__law_figure : mg "_law_figure" = some (.ref (f 6))
  F__law_touch : Fun K "_law_touch" "_law_touch" s__law_touch (f 7) (fd 7)
  B__law_touch : Binds K (fd 7) ["_law_one", "_law_other"] []
  M__law_touch : mg "_law_touch" = some (.ref (f 7))
  F_law : Fun K "law" "law" s_law (f 8) (fd 8)
  B_law : Binds K (fd 8) ["_law_script"] []
  M_law : mg "law" = some (.ref (f 8))
  z_int : mg "int" = none
  z_isinstance : mg "isinstance" = none
  z_len : mg "len" = none
  z_list : mg "list" = none
  z_range : mg "range" = none
  z_str : mg "str" = none
  k_FIGURES : ∃ u, mg "FIGURES" = some u ∧ RelV (.str "0123456789") u
  k_LETTERS : ∃ u, mg "LETTERS" = some u ∧ RelV (.str "abcdefghijklmnopqrstuvwxyz") u
  k_SIGNS : ∃ u, mg "SIGNS" = some u ∧ RelV (.str "();:=|*") u
structure Fns (P : Program) (w : World) (K : PySem.W.Frag) (mg : Str → Option Value) (base : Heap) (f : Nat → Addr) (fd : Nat → FuncData) (n : Nat) : Prop where
  g_run_end : FnOk P w K mg base (L2.CX P w) n (f 0) (fd 0) ["text", "start", "signs"] (spM K mg 3 (mir n 0))
  g_word_end : FnOk P w K mg base (L2.CX P w) n (f 1) (fd 1) ["text", "start"] (spM K mg 2 (mir n 1))
  g_words : FnOk P w K mg base (L2.CX P w) n (f 2) (fd 2) ["text"] (spM K mg 1 (mir n 2))
  g__law_name_by : FnOk P w K mg base (L2.CX P w) n (f 3) (fd 3) ["_law_cell"] (spM K mg 1 (mir n 3))
  g__law_word_by : FnOk P w K mg base (L2.CX P w) n (f 4) (fd 4) ["_law_cell"] (spM K mg 1 (mir n 4))
  g__law_letter : FnOk P w K mg base (L2.CX P w) n (f 5) (fd 5) ["_law_sign"] (spM K mg 1 (mir n 5))
  g__law_figure : FnOk P w K mg base (L2.CX P w) n (f 6) (fd 6) ["_law_sign"] (spM K mg 1 (mir n 6))
  g__law_touch : FnOk P w K mg base (L2.CX P w) n (f 7) (fd 7) ["_law_one", "_law_other"] (spM K mg 2 (mir n 7))
  g_law : FnOk P w K mg base (L2.CX P w) n (f 8) (fd 8) ["_law_script"] (spM K mg 1 (mir n 8))
section
variable {P : Program} {w : World} {K : PySem.W.Frag} {mg : Str → Option Value} {base : Heap} {f : Nat → Addr} {fd : Nat → FuncData} {n : Nat}
theorem ok_run_end (T : Txt K mg f fd) (G : Fns P w K mg base f fd n) : FnOk P w K mg base (L2.CX P w) (n + 1) (f 0) (fd 0) ["text", "start", "signs"] (spM K mg 3 (mir (n + 1) 0)) :=
  mk_fn (l := 1) (fb := b_run_end (mir n)) T.F_run_end sc_run_end rfl (fun _ => rfl) fun cdv A outer s H E hr =>
    (dss_cons (ds_set 3 sc_run_end.nd (de_df (df_var 1)))
    (dss_cons (ds_while 1000000 (passes_of rfl) (dt_dw (dw_and (dt_lt (dv_df (df_var 3)) (dv_de (de_len rfl T.z_len (dal_cons (dl_df (df_var 0)) dal_nil)))) (dw_and1 (dt_in (room_eq hr) (dv_df (df_ix (dl_df (df_var 0)) (dv_df (df_var 3)))) (dv_df (df_var 2))))))
    (dss_one (ds_aug 3 iop_addA opS_addA sc_run_end.nd (dv_df df_int))))
    (dss_one (ds_ret (de_df (df_var 3))))))
theorem ok_word_end (T : Txt K mg f fd) (G : Fns P w K mg base f fd n) : FnOk P w K mg base (L2.CX P w) (n + 1) (f 1) (fd 1) ["text", "start"] (spM K mg 2 (mir (n + 1) 1)) :=
  mk_fn (l := 2) (fb := b_word_end (mir n)) T.F_word_end sc_word_end rfl (fun _ => rfl) fun cdv A outer s H E hr =>
    (dss_cons (ds_if (dt_in (room_eq hr) (dv_df (df_ix (dl_df (df_var 0)) (dv_df (df_var 1)))) (dv_df (df_gstr rfl T.k_SIGNS.choose_spec.1 T.k_SIGNS.choose_spec.2)))
    (dss_one (ds_ret (de_add (dl_df (df_var 1)) (dl_df df_int))))
    dss_nil)
    (dss_cons (ds_set 2 sc_word_end.nd (de_df (df_de (de_call G.g_run_end (takes_of rfl rfl rfl rfl) hr rfl T.M_run_end T.F_run_end.kp T.B_run_end (da_cons (df_var 0) (da_cons (df_var 1) (da_cons (df_gstr rfl T.k_LETTERS.choose_spec.1 T.k_LETTERS.choose_spec.2) da_nil))) (aCons_len (aCons_len (aCons_len (fun _ _ h => aNil_len h))))))))
    (dss_cons (ds_if (dt_gt (dv_df (df_var 2)) (dv_df (df_var 1)))
    (dss_cons (ds_if (dt_gt (dv_df (df_sub (dv_df (df_var 2)) (dv_df (df_var 1)))) (dv_df df_int))
    (dss_one ds_no)
    dss_nil)
    (dss_one (ds_ret (de_df (df_var 2)))))
    dss_nil)
    (dss_cons (ds_set 3 sc_word_end.nd (de_df (df_de (de_add (dl_df (df_var 1)) (dl_de (de_int rfl T.z_int (dal_cons (dl_df (df_eq (room_eq hr) (dv_df (df_ix (dl_df (df_var 0)) (dv_df (df_var 1)))) (dv_df df_str))) dal_nil)))))))
    (dss_cons (ds_set 2 sc_word_end.nd (de_df (df_de (de_call G.g_run_end (takes_of rfl rfl rfl rfl) hr rfl T.M_run_end T.F_run_end.kp T.B_run_end (da_cons (df_var 0) (da_cons (df_var 3) (da_cons (df_gstr rfl T.k_FIGURES.choose_spec.1 T.k_FIGURES.choose_spec.2) da_nil))) (aCons_len (aCons_len (aCons_len (fun _ _ h => aNil_len h))))))))
    (dss_cons (ds_if (dt_dw (dw_or (dt_eq (room_eq hr) (dv_df (df_var 2)) (dv_df (df_var 3))) (dw_or1 (dt_gt (dv_df (df_sub (dv_df (df_var 2)) (dv_df (df_var 3)))) (dv_df df_int)))))
    (dss_one ds_no)
    dss_nil)
    (dss_cons (ds_if (dt_dw (dw_and (dt_eq (room_eq hr) (dv_df (df_ix (dl_df (df_var 0)) (dv_df (df_var 3)))) (dv_df df_str)) (dw_and1 (dt_dw (dw_or (dt_gt (dv_df (df_sub (dv_df (df_var 2)) (dv_df (df_var 3)))) (dv_df df_int)) (dw_or1 (dt_gt (dv_df (df_var 3)) (dv_df (df_var 1)))))))))
    (dss_one ds_no)
    dss_nil)
    (dss_one (ds_ret (de_df (df_var 2)))))))))))
theorem ok_words (T : Txt K mg f fd) (G : Fns P w K mg base f fd n) : FnOk P w K mg base (L2.CX P w) (n + 1) (f 2) (fd 2) ["text"] (spM K mg 1 (mir (n + 1) 2)) :=
  mk_fn (l := 3) (fb := b_words (mir n)) T.F_words sc_words rfl (fun _ => rfl) fun cdv A outer s H E hr =>
    (dss_cons (ds_if (dt_not (dt_val (dv_df (df_isi (dv_df (df_var 0)) rfl T.z_isinstance rfl T.z_str rfl))))
    (dss_one ds_no)
    dss_nil)
    (dss_cons (ds_set 1 sc_words.nd (de_lst da_nil))
    (dss_cons (ds_set 2 sc_words.nd (de_df df_int))
    (dss_cons (ds_while 1000000 (passes_of rfl) (dt_lt (dv_df (df_var 2)) (dv_de (de_len rfl T.z_len (dal_cons (dl_df (df_var 0)) dal_nil))))
    (dss_cons (ds_if (dt_eq (room_eq hr) (dv_df (df_ix (dl_df (df_var 0)) (dv_df (df_var 2)))) (dv_df df_str))
    (dss_cons (ds_aug 2 iop_addA opS_addA sc_words.nd (dv_df df_int))
    (dss_one ds_cont))
    dss_nil)
    (dss_cons (ds_set 3 sc_words.nd (de_df (df_de (de_call G.g_word_end (takes_of rfl rfl rfl rfl) hr rfl T.M_word_end T.F_word_end.kp T.B_word_end (da_cons (df_var 0) (da_cons (df_var 2) da_nil)) (aCons_len (aCons_len (fun _ _ h => aNil_len h)))))))
    (dss_cons (ds_app 1 (de_slice (dl_df (df_var 0)) (do_some (dv_df (df_var 2))) (do_some (dv_df (df_var 3)))))
    (dss_one (ds_set 2 sc_words.nd (de_df (df_var 3))))))))
    (dss_one (ds_retV 1))))))
theorem ok__law_name_by (T : Txt K mg f fd) (G : Fns P w K mg base f fd n) : FnOk P w K mg base (L2.CX P w) (n + 1) (f 3) (fd 3) ["_law_cell"] (spM K mg 1 (mir (n + 1) 3)) :=
  mk_fn (l := 3) (fb := b__law_name_by (mir n)) T.F__law_name_by sc__law_name_by rfl (fun _ => rfl) fun cdv A outer s H E hr =>
    (dss_cons (ds_set 1 sc__law_name_by.nd (de_df df_str))
    (dss_cons (ds_set 2 sc__law_name_by.nd (de_df df_str))
    (dss_cons (ds_for (ix := [3]) (passes_of rfl) rfl (di_range1 rfl T.z_range (da_cons (df_de (de_add (dl_df df_int) (dl_df (df_mod (dv_df (df_var 0)) (dv_df df_int))))) da_nil)) (dg_name 3 sc__law_name_by.nd)
    (dss_cons (ds_set 0 sc__law_name_by.nd (de_df (df_de (de_add (dl_df (df_div (dv_df (df_var 0)) (dv_df df_int))) (dl_df (df_mul (dv_df df_int) (dv_df (df_var 3))))))))
    (dss_one (ds_set 2 sc__law_name_by.nd (de_df (df_de (de_add (dl_df (df_var 2)) (dl_df (df_ix (dl_df (df_var 1)) (dv_df (df_mod (dv_df (df_var 0)) (dv_df df_int))))))))))))
    (dss_one (ds_ret (de_df (df_var 2)))))))
theorem ok__law_word_by (T : Txt K mg f fd) (G : Fns P w K mg base f fd n) : FnOk P w K mg base (L2.CX P w) (n + 1) (f 4) (fd 4) ["_law_cell"] (spM K mg 1 (mir (n + 1) 4)) :=
  mk_fn (l := 2) (fb := b__law_word_by (mir n)) T.F__law_word_by sc__law_word_by rfl (fun _ => rfl) fun cdv A outer s H E hr =>
    (dss_cons (ds_set 1 sc__law_word_by.nd (de_df (df_mod (dv_df (df_var 0)) (dv_df (df_pow (dv_df df_int) (dv_df df_int))))))
    (dss_cons (ds_set 2 sc__law_word_by.nd (de_df (df_mod (dv_df (df_var 1)) (dv_df df_int))))
    (dss_cons (ds_if (dt_lt (dv_df (df_var 2)) (dv_df df_int))
    (dss_one (ds_ret (de_call G.g__law_name_by (takes_of rfl rfl rfl rfl) hr rfl T.M__law_name_by T.F__law_name_by.kp T.B__law_name_by (da_cons (df_mod (dv_df (df_mul (dv_df (df_div (dv_df (df_var 1)) (dv_df df_int))) (dv_df df_int))) (dv_df df_int)) da_nil) (aCons_len (fun _ _ h => aNil_len h)))))
    dss_nil)
    (dss_cons (ds_if (dt_eq (room_eq hr) (dv_df (df_var 2)) (dv_df df_int))
    (dss_one (ds_ret (de_str rfl T.z_str (dal_cons (dl_df (df_mod (dv_df (df_div (dv_df (df_var 1)) (dv_df df_int))) (dv_df (df_pow (dv_df df_int) (dv_df df_int))))) dal_nil))))
    dss_nil)
    (dss_cons (ds_if (dt_eq (room_eq hr) (dv_df (df_var 2)) (dv_df df_int))
    (dss_one (ds_ret (de_str rfl T.z_str (dal_cons (dl_df (df_sub (dv_df (df_sub (dv_df df_int) (dv_df df_int))) (dv_df (df_mod (dv_df (df_div (dv_df (df_var 1)) (dv_df df_int))) (dv_df (df_sub (dv_df (df_pow (dv_df df_int) (dv_df df_int))) (dv_df df_int))))))) dal_nil))))
    dss_nil)
    (dss_cons (ds_if (dt_eq (room_eq hr) (dv_df (df_var 2)) (dv_df df_int))
    (dss_one (ds_ret (de_str rfl T.z_str (dal_cons (dl_df (df_sub (dv_df (df_mod (dv_df (df_div (dv_df (df_var 1)) (dv_df df_int))) (dv_df df_int))) (dv_df df_int))) dal_nil))))
    dss_nil)
    (dss_one (ds_ret (de_df (df_ix (dl_df df_str) (dv_df (df_mod (dv_df (df_div (dv_df (df_var 1)) (dv_df df_int))) (dv_df df_int)))))))))))))
theorem ok__law_letter (T : Txt K mg f fd) (G : Fns P w K mg base f fd n) : FnOk P w K mg base (L2.CX P w) (n + 1) (f 5) (fd 5) ["_law_sign"] (spM K mg 1 (mir (n + 1) 5)) :=
  mk_fn (l := 0) (fb := b__law_letter (mir n)) T.F__law_letter sc__law_letter rfl (fun _ => rfl) fun cdv A outer s H E hr =>
    (dss_one (ds_ret (de_df (df_in (room_eq hr) (dv_df (df_var 0)) (dv_df df_str)))))
theorem ok__law_figure (T : Txt K mg f fd) (G : Fns P w K mg base f fd n) : FnOk P w K mg base (L2.CX P w) (n + 1) (f 6) (fd 6) ["_law_sign"] (spM K mg 1 (mir (n + 1) 6)) :=
  mk_fn (l := 0) (fb := b__law_figure (mir n)) T.F__law_figure sc__law_figure rfl (fun _ => rfl) fun cdv A outer s H E hr =>
    (dss_one (ds_ret (de_df (df_in (room_eq hr) (dv_df (df_var 0)) (dv_df df_str)))))
theorem ok__law_touch (T : Txt K mg f fd) (G : Fns P w K mg base f fd n) : FnOk P w K mg base (L2.CX P w) (n + 1) (f 7) (fd 7) ["_law_one", "_law_other"] (spM K mg 2 (mir (n + 1) 7)) :=
  mk_fn (l := 0) (fb := b__law_touch (mir n)) T.F__law_touch sc__law_touch rfl (fun _ => rfl) fun cdv A outer s H E hr =>
    (dss_cons (ds_if (dt_val (dv_de (de_call G.g__law_letter (takes_of rfl rfl rfl rfl) hr rfl T.M__law_letter T.F__law_letter.kp T.B__law_letter (da_cons (df_ix (dl_df (df_var 0)) (dv_df (df_neg (dv_df df_int)))) da_nil) (aCons_len (fun _ _ h => aNil_len h)))))
    (dss_one (ds_ret (de_call G.g__law_letter (takes_of rfl rfl rfl rfl) hr rfl T.M__law_letter T.F__law_letter.kp T.B__law_letter (da_cons (df_ix (dl_df (df_var 1)) (dv_df df_int)) da_nil) (aCons_len (fun _ _ h => aNil_len h)))))
    dss_nil)
    (dss_one (ds_ret (de_df (df_and (dv_de (de_call G.g__law_figure (takes_of rfl rfl rfl rfl) hr rfl T.M__law_figure T.F__law_figure.kp T.B__law_figure (da_cons (df_ix (dl_df (df_var 0)) (dv_df (df_neg (dv_df df_int)))) da_nil) (aCons_len (fun _ _ h => aNil_len h)))) (df_one (df_de (de_call G.g__law_figure (takes_of rfl rfl rfl rfl) hr rfl T.M__law_figure T.F__law_figure.kp T.B__law_figure (da_cons (df_ix (dl_df (df_var 1)) (dv_df df_int)) da_nil) (aCons_len (fun _ _ h => aNil_len h))))))))))
theorem ok_law (T : Txt K mg f fd) (G : Fns P w K mg base f fd n) : FnOk P w K mg base (L2.CX P w) (n + 1) (f 8) (fd 8) ["_law_script"] (spM K mg 1 (mir (n + 1) 8)) :=
  mk_fn (l := 6) (fb := b_law (mir n)) T.F_law sc_law rfl (fun _ => rfl) fun cdv A outer s H E hr =>
    (dss_cons (ds_set 1 sc_law.nd (de_lst da_nil))
    (dss_cons (ds_set 2 sc_law.nd (de_df df_str))
    (dss_cons (ds_for (ix := [3]) (passes_of rfl) rfl (di_seq (df_de (de_slice (dl_df (df_var 0)) do_none (do_some (dv_df df_int))))) (dg_name 3 sc_law.nd)
    (dss_cons (ds_set 4 sc_law.nd (de_df (df_de (de_call G.g__law_word_by (takes_of rfl rfl rfl rfl) hr rfl T.M__law_word_by T.F__law_word_by.kp T.B__law_word_by (da_cons (df_var 3) da_nil) (aCons_len (fun _ _ h => aNil_len h))))))
    (dss_cons (ds_set 5 sc_law.nd (de_df (df_mod (dv_df (df_mod (dv_df (df_mul (dv_df (df_var 3)) (dv_df df_int))) (dv_df df_int))) (dv_df df_int))))
    (dss_cons (ds_if (dt_dw (dw_and (dt_ne (room_eq hr) (dv_dp (dp_var 1)) (dv_de (de_lst da_nil))) (dw_and (dt_eq (room_eq hr) (dv_df (df_var 5)) (dv_df df_int)) (dw_and1 (dt_val (dv_de (de_call G.g__law_touch (takes_of rfl rfl rfl rfl) hr rfl T.M__law_touch T.F__law_touch.kp T.B__law_touch (da_cons (df_ix (dl_dp (dp_var 1)) (dv_df (df_neg (dv_df df_int)))) (da_cons (df_var 4) da_nil)) (aCons_len (aCons_len (fun _ _ h => aNil_len h))))))))))
    (dss_one (ds_set 5 sc_law.nd (de_df df_int)))
    dss_nil)
    (dss_cons (ds_set 2 sc_law.nd (de_df (df_de (de_add (dl_de (de_add (dl_df (df_var 2)) (dl_de (de_slice (dl_df df_str) do_none (do_some (dv_df (df_var 5))))))) (dl_df (df_var 4))))))
    (dss_one (ds_app 1 (de_df (df_var 4)))))))))
    (dss_cons (ds_set 2 sc_law.nd (de_df (df_de (de_add (dl_df (df_var 2)) (dl_de (de_slice (dl_df df_str) do_none (do_some (dv_df (df_mod (dv_de (de_len rfl T.z_len (dal_cons (dl_df (df_var 0)) dal_nil))) (dv_df df_int))))))))))
    (dss_cons (ds_set 6 sc_law.nd (de_call G.g_words (takes_of rfl rfl rfl rfl) hr rfl T.M_words T.F_words.kp T.B_words (da_cons (df_var 2) da_nil) (aCons_len (fun _ _ h => aNil_len h))))
    (dss_cons (ds_if (dt_dw (dw_or (dt_not (dt_val (dv_df (df_isi (dv_dp (dp_var 6)) rfl T.z_isinstance rfl T.z_list rfl)))) (dw_or1 (dt_ne (room_eq hr) (dv_dp (dp_var 6)) (dv_dp (dp_var 1))))))
    (dss_one (ds_ret (de_df df_bl)))
    dss_nil)
    (dss_cons (ds_forV (ix := [4]) 6 (passes_of rfl) rfl (dg_name 4 sc_law.nd)
    (dss_one (ds_if (dt_not (dt_val (dv_df (df_isi (dv_df (df_var 4)) rfl T.z_isinstance rfl T.z_str rfl))))
    (dss_one (ds_ret (de_df df_bl)))
    dss_nil)))
    (dss_cons (ds_app 6 (de_df df_str))
    (dss_cons (ds_set 6 sc_law.nd (de_call G.g_words (takes_of rfl rfl rfl rfl) hr rfl T.M_words T.F_words.kp T.B_words (da_cons (df_var 2) da_nil) (aCons_len (fun _ _ h => aNil_len h))))
    (dss_one (ds_ret (de_df (df_eq (room_eq hr) (dv_dp (dp_var 6)) (dv_dp (dp_var 1)))))))))))))))
theorem fn_none {f : Addr} {fd : FuncData} {ps : List Str} {k i : Nat} : FnOk P w K mg base (L2.CX P w) 0 f fd ps (spM K mg k (mir 0 i)) := by
  have no : ∀ vs H Q E, ¬ spM K mg k (mir 0 i) vs H Q E := fun vs H Q E ⟨F, ds, _, _, _, h⟩ => h
  exact ⟨fun vs H Q E h => absurd h (no vs H Q E), fun A outer s H args us vs Q E _ _ _ _ h => absurd h (no vs H Q E)⟩
theorem all_fns (T : Txt K mg f fd) : ∀ n, Fns P w K mg base f fd n
  | 0 => ⟨fn_none, fn_none, fn_none, fn_none, fn_none, fn_none, fn_none, fn_none, fn_none⟩
  | n + 1 => by
    have G := all_fns T n
    exact ⟨ok_run_end T G, ok_word_end T G, ok_words T G, ok__law_name_by T G, ok__law_word_by T G, ok__law_letter T G, ok__law_figure T G, ok__law_touch T G, ok_law T G⟩
end
def pick {α : Type} (z : α) : List α → Nat → α
  | [], _ => z
  | x :: _, 0 => x
  | _ :: xs, n + 1 => pick z xs n
theorem all_mk (L : Nat) {l : PySem.W.OpenLaw} {w : World} {K : PySem.W.Frag} {h : Heap} {mg : Str → Option Value} {fa : Addr} (X : K.In h) (G : h.Ns PySem.mainGlobals mg) (hfa : mg "law" = some (.ref fa))
    {od0 an0 : Option Addr} {sl0 : Array (Option Value)} {oc0 kV0 dc0 pm0 cd0 ct0 : Value} {f0 : Addr}
    (a0 : PySem.W.nsIn K PySem.mainGlobals "run_end" = some (some (.ref f0))) (l0 : K.lookup f0 = some ⟨oc0, od0, .func (PySem.W.fnOf "run_end" "run_end" (defArgs s_run_end) (defBody s_run_end) (defScope s_run_end) .none kV0 dc0 pm0 an0 cd0 ct0), sl0⟩) (c0 : PySem.W.codeIn K cd0 "run_end" = true) (k0 : PySem.W.keepIn K (.ref f0) = true)
    {od1 an1 : Option Addr} {sl1 : Array (Option Value)} {oc1 kV1 dc1 pm1 cd1 ct1 : Value} {f1 : Addr}
    (a1 : PySem.W.nsIn K PySem.mainGlobals "word_end" = some (some (.ref f1))) (l1 : K.lookup f1 = some ⟨oc1, od1, .func (PySem.W.fnOf "word_end" "word_end" (defArgs s_word_end) (defBody s_word_end) (defScope s_word_end) .none kV1 dc1 pm1 an1 cd1 ct1), sl1⟩) (c1 : PySem.W.codeIn K cd1 "word_end" = true) (k1 : PySem.W.keepIn K (.ref f1) = true)
    {od2 an2 : Option Addr} {sl2 : Array (Option Value)} {oc2 kV2 dc2 pm2 cd2 ct2 : Value} {f2 : Addr}
    (a2 : PySem.W.nsIn K PySem.mainGlobals "words" = some (some (.ref f2))) (l2 : K.lookup f2 = some ⟨oc2, od2, .func (PySem.W.fnOf "words" "words" (defArgs s_words) (defBody s_words) (defScope s_words) .none kV2 dc2 pm2 an2 cd2 ct2), sl2⟩) (c2 : PySem.W.codeIn K cd2 "words" = true) (k2 : PySem.W.keepIn K (.ref f2) = true)
    {od3 an3 : Option Addr} {sl3 : Array (Option Value)} {oc3 kV3 dc3 pm3 cd3 ct3 : Value} {f3 : Addr}
    (a3 : PySem.W.nsIn K PySem.mainGlobals "_law_name_by" = some (some (.ref f3))) (l3 : K.lookup f3 = some ⟨oc3, od3, .func (PySem.W.fnOf "_law_name_by" "_law_name_by" (defArgs s__law_name_by) (defBody s__law_name_by) (defScope s__law_name_by) .none kV3 dc3 pm3 an3 cd3 ct3), sl3⟩) (c3 : PySem.W.codeIn K cd3 "_law_name_by" = true) (k3 : PySem.W.keepIn K (.ref f3) = true)
    {od4 an4 : Option Addr} {sl4 : Array (Option Value)} {oc4 kV4 dc4 pm4 cd4 ct4 : Value} {f4 : Addr}
    (a4 : PySem.W.nsIn K PySem.mainGlobals "_law_word_by" = some (some (.ref f4))) (l4 : K.lookup f4 = some ⟨oc4, od4, .func (PySem.W.fnOf "_law_word_by" "_law_word_by" (defArgs s__law_word_by) (defBody s__law_word_by) (defScope s__law_word_by) .none kV4 dc4 pm4 an4 cd4 ct4), sl4⟩) (c4 : PySem.W.codeIn K cd4 "_law_word_by" = true) (k4 : PySem.W.keepIn K (.ref f4) = true)
    {od5 an5 : Option Addr} {sl5 : Array (Option Value)} {oc5 kV5 dc5 pm5 cd5 ct5 : Value} {f5 : Addr}
    (a5 : PySem.W.nsIn K PySem.mainGlobals "_law_letter" = some (some (.ref f5))) (l5 : K.lookup f5 = some ⟨oc5, od5, .func (PySem.W.fnOf "_law_letter" "_law_letter" (defArgs s__law_letter) (defBody s__law_letter) (defScope s__law_letter) .none kV5 dc5 pm5 an5 cd5 ct5), sl5⟩) (c5 : PySem.W.codeIn K cd5 "_law_letter" = true) (k5 : PySem.W.keepIn K (.ref f5) = true)
    {od6 an6 : Option Addr} {sl6 : Array (Option Value)} {oc6 kV6 dc6 pm6 cd6 ct6 : Value} {f6 : Addr}
    (a6 : PySem.W.nsIn K PySem.mainGlobals "_law_figure" = some (some (.ref f6))) (l6 : K.lookup f6 = some ⟨oc6, od6, .func (PySem.W.fnOf "_law_figure" "_law_figure" (defArgs s__law_figure) (defBody s__law_figure) (defScope s__law_figure) .none kV6 dc6 pm6 an6 cd6 ct6), sl6⟩) (c6 : PySem.W.codeIn K cd6 "_law_figure" = true) (k6 : PySem.W.keepIn K (.ref f6) = true)
    {od7 an7 : Option Addr} {sl7 : Array (Option Value)} {oc7 kV7 dc7 pm7 cd7 ct7 : Value} {f7 : Addr}
    (a7 : PySem.W.nsIn K PySem.mainGlobals "_law_touch" = some (some (.ref f7))) (l7 : K.lookup f7 = some ⟨oc7, od7, .func (PySem.W.fnOf "_law_touch" "_law_touch" (defArgs s__law_touch) (defBody s__law_touch) (defScope s__law_touch) .none kV7 dc7 pm7 an7 cd7 ct7), sl7⟩) (c7 : PySem.W.codeIn K cd7 "_law_touch" = true) (k7 : PySem.W.keepIn K (.ref f7) = true)
    {od8 an8 : Option Addr} {sl8 : Array (Option Value)} {oc8 kV8 dc8 pm8 cd8 ct8 : Value} {f8 : Addr}
    (a8 : PySem.W.nsIn K PySem.mainGlobals "law" = some (some (.ref f8))) (l8 : K.lookup f8 = some ⟨oc8, od8, .func (PySem.W.fnOf "law" "law" (defArgs s_law) (defBody s_law) (defScope s_law) .none kV8 dc8 pm8 an8 cd8 ct8), sl8⟩) (c8 : PySem.W.codeIn K cd8 "law" = true) (k8 : PySem.W.keepIn K (.ref f8) = true)
    (z_int : PySem.W.nsIn K PySem.mainGlobals "int" = some none)
    (z_isinstance : PySem.W.nsIn K PySem.mainGlobals "isinstance" = some none)
    (z_len : PySem.W.nsIn K PySem.mainGlobals "len" = some none)
    (z_list : PySem.W.nsIn K PySem.mainGlobals "list" = some none)
    (z_range : PySem.W.nsIn K PySem.mainGlobals "range" = some none)
    (z_str : PySem.W.nsIn K PySem.mainGlobals "str" = some none)
    {u_FIGURES : Value} (g_FIGURES : PySem.W.nsIn K PySem.mainGlobals "FIGURES" = some (some u_FIGURES)) (r_FIGURES : RelV (.str "0123456789") u_FIGURES)
    {u_LETTERS : Value} (g_LETTERS : PySem.W.nsIn K PySem.mainGlobals "LETTERS" = some (some u_LETTERS)) (r_LETTERS : RelV (.str "abcdefghijklmnopqrstuvwxyz") u_LETTERS)
    {u_SIGNS : Value} (g_SIGNS : PySem.W.nsIn K PySem.mainGlobals "SIGNS" = some (some u_SIGNS)) (r_SIGNS : RelV (.str "();:=|*") u_SIGNS) :
    ∃ fd : FuncData, (∀ (s : Shared) (v : Value), BindsTo s fd ⟨[v], []⟩ [("_law_script", v)]) ∧ ∀ base : Heap, K.In base → base.Ns PySem.mainGlobals mg → FnOk l.prog w K mg base (L2.CX l.prog w) L fa fd ["_law_script"] (spM K mg 1 (mir L 8)) := by
  have e := hfa.symm.trans (PySem.W.mg_of X G a8)
  cases e
  have F0 := fun_mk (st := s_run_end) l0 c0 k0
  have F1 := fun_mk (st := s_word_end) l1 c1 k1
  have F2 := fun_mk (st := s_words) l2 c2 k2
  have F3 := fun_mk (st := s__law_name_by) l3 c3 k3
  have F4 := fun_mk (st := s__law_word_by) l4 c4 k4
  have F5 := fun_mk (st := s__law_letter) l5 c5 k5
  have F6 := fun_mk (st := s__law_figure) l6 c6 k6
  have F7 := fun_mk (st := s__law_touch) l7 c7 k7
  have F8 := fun_mk (st := s_law) l8 c8 k8
  have T : Txt K mg (pick 0 [f0, f1, f2, f3, f4, f5, f6, f7, fa]) (pick (PySem.W.fnOf "law" "law" (defArgs s_law) (defBody s_law) (defScope s_law) .none kV8 dc8 pm8 an8 cd8 ct8) [PySem.W.fnOf "run_end" "run_end" (defArgs s_run_end) (defBody s_run_end) (defScope s_run_end) .none kV0 dc0 pm0 an0 cd0 ct0, PySem.W.fnOf "word_end" "word_end" (defArgs s_word_end) (defBody s_word_end) (defScope s_word_end) .none kV1 dc1 pm1 an1 cd1 ct1, PySem.W.fnOf "words" "words" (defArgs s_words) (defBody s_words) (defScope s_words) .none kV2 dc2 pm2 an2 cd2 ct2, PySem.W.fnOf "_law_name_by" "_law_name_by" (defArgs s__law_name_by) (defBody s__law_name_by) (defScope s__law_name_by) .none kV3 dc3 pm3 an3 cd3 ct3, PySem.W.fnOf "_law_word_by" "_law_word_by" (defArgs s__law_word_by) (defBody s__law_word_by) (defScope s__law_word_by) .none kV4 dc4 pm4 an4 cd4 ct4, PySem.W.fnOf "_law_letter" "_law_letter" (defArgs s__law_letter) (defBody s__law_letter) (defScope s__law_letter) .none kV5 dc5 pm5 an5 cd5 ct5, PySem.W.fnOf "_law_figure" "_law_figure" (defArgs s__law_figure) (defBody s__law_figure) (defScope s__law_figure) .none kV6 dc6 pm6 an6 cd6 ct6, PySem.W.fnOf "_law_touch" "_law_touch" (defArgs s__law_touch) (defBody s__law_touch) (defScope s__law_touch) .none kV7 dc7 pm7 an7 cd7 ct7, PySem.W.fnOf "law" "law" (defArgs s_law) (defBody s_law) (defScope s_law) .none kV8 dc8 pm8 an8 cd8 ct8]) := {
    F_run_end := F0,
    B_run_end := F0.binds (ps := ["text", "start", "signs"]) fun _ _ _ _ _ _ us hl => match us, hl with | [_, _, _], _ => rfl,
    M_run_end := PySem.W.mg_of X G a0,
    F_word_end := F1,
    B_word_end := F1.binds (ps := ["text", "start"]) fun _ _ _ _ _ _ us hl => match us, hl with | [_, _], _ => rfl,
    M_word_end := PySem.W.mg_of X G a1,
    F_words := F2,
    B_words := F2.binds (ps := ["text"]) fun _ _ _ _ _ _ us hl => match us, hl with | [_], _ => rfl,
    M_words := PySem.W.mg_of X G a2,
    F__law_name_by := F3,
    B__law_name_by := F3.binds (ps := ["_law_cell"]) fun _ _ _ _ _ _ us hl => match us, hl with | [_], _ => rfl,
    M__law_name_by := PySem.W.mg_of X G a3,
    F__law_word_by := F4,
    B__law_word_by := F4.binds (ps := ["_law_cell"]) fun _ _ _ _ _ _ us hl => match us, hl with | [_], _ => rfl,
    M__law_word_by := PySem.W.mg_of X G a4,
    F__law_letter := F5,
    B__law_letter := F5.binds (ps := ["_law_sign"]) fun _ _ _ _ _ _ us hl => match us, hl with | [_], _ => rfl,
    M__law_letter := PySem.W.mg_of X G a5,
    F__law_figure := F6,
    B__law_figure := F6.binds (ps := ["_law_sign"]) fun _ _ _ _ _ _ us hl => match us, hl with | [_], _ => rfl,
    M__law_figure := PySem.W.mg_of X G a6,
    F__law_touch := F7,
    B__law_touch := F7.binds (ps := ["_law_one", "_law_other"]) fun _ _ _ _ _ _ us hl => match us, hl with | [_, _], _ => rfl,
    M__law_touch := PySem.W.mg_of X G a7,
    F_law := F8,
    B_law := F8.binds (ps := ["_law_script"]) fun _ _ _ _ _ _ us hl => match us, hl with | [_], _ => rfl,
    M_law := PySem.W.mg_of X G a8,
    z_int := PySem.W.mg_none_of X G z_int,
    z_isinstance := PySem.W.mg_none_of X G z_isinstance,
    z_len := PySem.W.mg_none_of X G z_len,
    z_list := PySem.W.mg_none_of X G z_list,
    z_range := PySem.W.mg_none_of X G z_range,
    z_str := PySem.W.mg_none_of X G z_str,
    k_FIGURES := ⟨u_FIGURES, PySem.W.mg_of X G g_FIGURES, r_FIGURES⟩,
    k_LETTERS := ⟨u_LETTERS, PySem.W.mg_of X G g_LETTERS, r_LETTERS⟩,
    k_SIGNS := ⟨u_SIGNS, PySem.W.mg_of X G g_SIGNS, r_SIGNS⟩ }
  refine ⟨PySem.W.fnOf "law" "law" (defArgs s_law) (defBody s_law) (defScope s_law) .none kV8 dc8 pm8 an8 cd8 ct8, fun s v => .of_eq rfl, fun base _ _ => ?_⟩
  exact (all_fns (P := l.prog) (w := w) (base := base) T L).g_law
end G
set_option Elab.async false
set_option linter.all false
set_option maxRecDepth 100000
set_option maxHeartbeats 4000000
namespace G
open PySem PySem.Spec L2 Mir
theorem take_head {α : Type} {xs ys : List α} : (xs ++ ys)[xs.length]? = ys.head? := by
  rw [List.getElem?_append_right (Nat.le_refl _)]
  simp [List.head?_eq_getElem?]
/-- run_end goes on while the signs are of the wanted ones -/
theorem run_loop (z : Str) (l : List Nat) (hl : l.length ≤ 1000000) (s : Int) : ∀ (a pre rest : List Nat) (n : Nat), l = pre ++ a ++ rest → (∀ c ∈ a, inS c z = true) → (∀ c, rest.head? = some c → inS c z = false) → a.length < n →
    whileN (tAndE (eB (eBin gLt (eVar 3) (eM (eCa gLen (aCons (eVar 0) aNil)) viewD)) asB) (eB (eBin gIn (eBin gIx (eVar 0) (eVar 3)) (eVar 2)) asB)) (sAug gAddA 3 (eC (.int 1))) n
      [some (.d (.str (tx l))), some (.d (.int s)), some (.d (.str z)), some (.d (.int (pre.length : Nat)))] = .nx [some (.d (.str (tx l))), some (.d (.int s)), some (.d (.str z)), some (.d (.int ((pre.length + a.length : Nat) : Int)))]
  | a, pre, rest, 0, _, _, _, h => by omega
  | [], pre, rest, n + 1, e, ha, hr, h => by
    have gl := gLen_tx l (by omega)
    unfold whileN
    cases rest with
    | nil =>
      have : l.length = pre.length := by rw [e]; simp
      simp [gl, this]
    | cons c rest =>
      have hc : l[pre.length]? = some c := by rw [e, List.append_nil, take_head]; rfl
      have hlt : pre.length < l.length := (List.getElem?_eq_some_iff.mp hc).1
      have ix := gIx_tx hc (by omega)
      have no := hr c rfl
      simp [gl, hlt, ix, gIn_tx, no]
  | c :: a, pre, rest, n + 1, e, ha, hr, h => by
    have gl := gLen_tx l (by omega)
    have hc : l[pre.length]? = some c := by rw [e, List.append_assoc, take_head]; rfl
    have hlt : pre.length < l.length := (List.getElem?_eq_some_iff.mp hc).1
    have ix := gIx_tx hc (by omega)
    have yes := ha c List.mem_cons_self
    have ih := run_loop z l hl s a (pre ++ [c]) rest n (by rw [e]; simp) (fun d hd => ha d (List.mem_cons_of_mem _ hd)) hr (by simp at h; omega)
    have e1 : (pre ++ [c]).length + a.length = pre.length + (c :: a).length := by simp; omega
    rw [e1] at ih
    have e2 : ((pre ++ [c]).length : Int) = (pre.length : Int) + 1 := by simp
    rw [e2] at ih
    unfold whileN
    simp [gl, hlt, ix, gIn_tx, yes] at ih ⊢
    exact ih
theorem run_end_ok (n : Nat) (z : Str) (l pre a rest : List Nat) (e : l = pre ++ a ++ rest) (hl : l.length ≤ 900000) (ha : ∀ c ∈ a, inS c z = true) (hr : ∀ c, rest.head? = some c → inS c z = false) :
    mir (n + 1) 0 [.str (tx l), .int (pre.length : Nat), .str z] = .ok (.d (.int ((pre.length + a.length : Nat) : Int))) := by
  rw [mir_run_end, run_run_end]
  have := run_loop z l (by omega) (pre.length : Nat) a pre rest 1000000 e ha hr (by have := congrArg List.length e; simp at this; omega)
  generalize (1000000 : Nat) = big at *
  simp [this]
/-- a word -/
def Wd (w : List Nat) : Prop := (∃ c, c ∈ sigs ∧ w = [c]) ∨ (w ≠ [] ∧ (∀ c ∈ w, isL c = true) ∧ w.length ≤ 8) ∨ (∃ c r, w = c :: r ∧ (∀ x ∈ w, isF x = true) ∧ w.length ≤ 60 ∧ (c = 48 → r = [])) ∨
  ∃ c r, w = 45 :: c :: r ∧ (∀ x ∈ c :: r, isF x = true) ∧ (c :: r).length ≤ 60 ∧ c ≠ 48
/-- what may follow it -/
def Fol (w rest : List Nat) : Prop := ∀ p x c, w = p ++ [x] → rest.head? = some c → (isL x = true → isL c = false) ∧ (isF x = true → isF c = false)
theorem wd_ne {w : List Nat} (h : Wd w) : w ≠ [] := by
  rcases h with ⟨c, _, rfl⟩ | ⟨h, _⟩ | ⟨c, r, rfl, _⟩ | ⟨c, r, rfl, _⟩ <;> simp_all
theorem isL_sig {c : Nat} (h : isL c = true) : c ∉ sigs ∧ isF c = false ∧ c ≠ 45 ∧ c ≠ 32 := by
  unfold isL at h
  simp only [Bool.and_eq_true, decide_eq_true_eq] at h
  refine ⟨fun z => ?_, ?_, by omega, by omega⟩
  · simp [sigs] at z; omega
  · unfold isF
    have : ¬ c ≤ 57 := by omega
    simp [this]
theorem isF_sig {c : Nat} (h : isF c = true) : c ∉ sigs ∧ isL c = false ∧ c ≠ 45 ∧ c ≠ 32 := by
  unfold isF at h
  simp only [Bool.and_eq_true, decide_eq_true_eq] at h
  refine ⟨fun z => ?_, ?_, by omega, by omega⟩
  · simp [sigs] at z; omega
  · unfold isL
    have : ¬ 97 ≤ c := by omega
    simp [this]
theorem gInt_bool (b : Bool) : gInt [.bool b] = some (.d (.int (if b then 1 else 0))) := rfl
theorem word_end_ok (n : Nat) (l pre w rest : List Nat) (hL : l = pre ++ w ++ rest) (hw : Wd w) (hf : Fol w rest) (hl : l.length ≤ 900000) :
    mir (n + 2) 1 [.str (tx l), .int (pre.length : Nat)] = .ok (.d (.int ((pre.length + w.length : Nat) : Int))) := by
  have hne := wd_ne hw
  obtain ⟨c0, w0, hw0⟩ : ∃ c0 w0, w = c0 :: w0 := by
    cases w with
    | nil => exact absurd rfl hne
    | cons c r => exact ⟨c, r, rfl⟩
  have hc : l[pre.length]? = some c0 := by rw [hL, List.append_assoc, take_head, hw0]; rfl
  have ix := gIx_tx hc (by omega)
  rw [mir_word_end, run_word_end]
  obtain ⟨p, x, hx⟩ : ∃ p x, w = p ++ [x] := by
    rcases List.eq_nil_or_concat w with e | ⟨p, x, e⟩
    · exact absurd e hne
    · exact ⟨p, x, by rw [e, List.concat_eq_append]⟩
  have xin : x ∈ w := by rw [hx]; simp
  have noL : isL c0 = false → mir (n + 1) 0 [.str (tx l), .int (pre.length : Nat), .str abc] = .ok (.d (.int ((pre.length : Nat) : Int))) := fun h => by
    have := run_end_ok n abc l pre [] (w ++ rest) (by rw [hL]; simp) hl (fun c h => by cases h) (fun c hc => by
      rw [hw0] at hc
      cases hc
      rw [inS_abc, h])
    simpa using this
  rcases hw with ⟨c, hs, rfl⟩ | ⟨_, hall, h8⟩ | ⟨c, r, rfl, hall, h60, h0⟩ | ⟨c, r, rfl, hall, h60, h0⟩
  · cases hw0
    have : inS c0 (Str.ofString "();:=|*") = true := by rw [inS_sigs]; exact decide_eq_true hs
    simp [ix, gIn_tx, this]
  · have hL0 := hall c0 (by rw [hw0]; exact List.mem_cons_self)
    have re := run_end_ok n abc l pre w rest hL hl (fun c hc => by rw [inS_abc]; exact hall c hc) (fun c hc => by
      rw [inS_abc, (hf p x c hx hc).1 (hall x xin)])
    have ns : inS c0 (Str.ofString "();:=|*") = false := by rw [inS_sigs]; exact decide_eq_false (isL_sig hL0).1
    have w1 : 0 < w.length := List.length_pos_iff.mpr hne
    have a1 : (pre.length : Int) < (pre.length : Int) + (w.length : Int) := by omega
    have a2 : ¬ (8 : Int) < (pre.length : Int) + (w.length : Int) - (pre.length : Int) := by omega
    simp only [Int.natCast_add] at re ⊢
    simp [ix, gIn_tx, ns, re, w1, a1, a2]
  · have hF0 := hall c List.mem_cons_self
    obtain ⟨q1, _⟩ := List.cons.inj hw0
    subst q1
    have re := run_end_ok n figs l pre (c :: r) rest hL hl (fun c hc => by rw [inS_figs]; exact hall c hc) (fun y hy => by
      rw [inS_figs, (hf p x y hx hy).2 (hall x xin)])
    have ns : inS c (Str.ofString "();:=|*") = false := by rw [inS_sigs]; exact decide_eq_false (isF_sig hF0).1
    have rl := noL (isF_sig hF0).2.1
    have nm : ¬ c = 45 := (isF_sig hF0).2.2.1
    obtain ⟨W, hW⟩ : ∃ W, W = (c :: r).length := ⟨_, rfl⟩
    have hW1 : 1 ≤ W := by rw [hW]; simp
    have h48 : c = 48 → W = 1 := fun h => by rw [hW, h0 h]; rfl
    rw [← hW] at re h60 ⊢
    have a1 : ¬ (60 : Int) < (pre.length : Int) + (W : Int) - (pre.length : Int) := by omega
    have a2 : ¬ (pre.length : Int) + (W : Int) = (pre.length : Int) := by omega
    simp only [Int.natCast_add] at re ⊢
    by_cases h : c = 48
    · have := h48 h
      subst this
      subst h
      have a3 : ¬ (1 : Int) < (pre.length : Int) + 1 - (pre.length : Int) := by omega
      simp only [Int.natCast_one] at re a1 a2 ⊢
      simp [ix, gIn_tx, ns, rl, minus_is, nought_is, gEq_tx, nm, gInt_bool, re, a1, a2, a3]
    · simp [ix, gIn_tx, ns, rl, minus_is, nought_is, gEq_tx, nm, gInt_bool, re, a1, a2, h]
  · obtain ⟨q1, _⟩ := List.cons.inj hw0
    subst q1
    have hF0 := hall c List.mem_cons_self
    have hc1 : l[pre.length + 1]? = some c := by
      rw [hL]
      have : (pre ++ [45]).length = pre.length + 1 := by simp
      rw [← this, show pre ++ 45 :: c :: r ++ rest = (pre ++ [45]) ++ (c :: r ++ rest) by simp, take_head]
      rfl
    have ix1 := gIx_tx hc1 (by omega)
    have xr : ∃ p', c :: r = p' ++ [x] := by
      cases p with
      | nil => simp at hx
      | cons q p =>
        rw [List.cons_append] at hx
        exact ⟨p, (List.cons.inj hx).2⟩
    obtain ⟨p', hx'⟩ := xr
    have xin' : x ∈ c :: r := by rw [hx']; simp
    have re := run_end_ok n figs l (pre ++ [45]) (c :: r) rest (by rw [hL]; simp) hl (fun c hc => by rw [inS_figs]; exact hall c hc) (fun y hy => by
      rw [inS_figs, (hf p x y hx hy).2 (hall x xin')])
    have ns : inS 45 (Str.ofString "();:=|*") = false := by rw [inS_sigs]; decide
    have rl := noL (by decide)
    obtain ⟨W, hW⟩ : ∃ W, W = (c :: r).length := ⟨_, rfl⟩
    have hW1 : 1 ≤ W := by rw [hW]; simp
    have hW2 : (45 :: c :: r).length = W + 1 := by rw [hW]; rfl
    rw [← hW] at re h60
    rw [hW2]
    have e2 : ((pre ++ [45]).length : Int) = (pre.length : Int) + 1 := by simp
    have e3 : (((pre ++ [45]).length + W : Nat) : Int) = (pre.length : Int) + 1 + (W : Int) := by simp
    rw [e2, e3] at re
    have a1 : ¬ (60 : Int) < (pre.length : Int) + 1 + (W : Int) - ((pre.length : Int) + 1) := by omega
    have a2 : ¬ (pre.length : Int) + 1 + (W : Int) = (pre.length : Int) + 1 := by omega
    have e4 : ((pre.length + (W + 1) : Nat) : Int) = (pre.length : Int) + 1 + (W : Int) := by omega
    have ix1' : gIx (.str (tx l)) (.int ((pre.length : Int) + 1)) = some (.str (tx [c])) := ix1
    rw [e4]
    simp [ix, gIn_tx, ns, rl, minus_is, nought_is, gEq_tx, gInt_bool, re, a1, a2, ix1', h0]
end G
set_option Elab.async false
set_option linter.all false
set_option maxRecDepth 100000
set_option maxHeartbeats 4000000
namespace G
open PySem PySem.Spec L2 Mir
def build : List (Nat × List Nat) → Nat → List Nat
  | [], t => List.replicate t 32
  | (b, w) :: r, t => List.replicate b 32 ++ (w ++ build r t)
def Good : List (Nat × List Nat) → Nat → Prop
  | [], _ => True
  | (_, w) :: r, t => Wd w ∧ Fol w (build r t) ∧ Good r t
abbrev wc : Ev → R Bool := (eB (eBin gLt (eVar 2) (eM (eCa gLen (aCons (eVar 0) aNil)) viewD)) asB)
abbrev wb (m : Nat → List PyData → R Ow) : Ev → SR := (sSeq (sIf (eB (eBin gEq (eBin gIx (eVar 0) (eVar 2)) (eC (.str " "))) asB)
    (sSeq (sAug gAddA 2 (eC (.int 1)))
    sCont)
    sSkip)
    (sSeq (sSet 3 (eM (eM (eB (aCons (eVar 0) (aCons (eVar 2) aNil)) (m 1)) viewD) Ow.d))
    (sSeq (sApp 1 (eSl (eVar 0) (eB (eVar 2) asI) (eB (eVar 3) asI)))
    (sSet 2 (eM (eVar 3) Ow.d)))))
theorem w_end (m : Nat → List PyData → R Ow) (l : List Nat) (hl : l.length ≤ 900000) (fs : List Ow) (x : Option Ow) (n : Nat) :
    whileN wc (wb m) (n + 1) [some (.d (.str (tx l))), some (.l fs), some (.d (.int (l.length : Nat))), x] = .nx [some (.d (.str (tx l))), some (.l fs), some (.d (.int (l.length : Nat))), x] := by
  have gl := gLen_tx l (by omega)
  unfold whileN
  simp [gl]
theorem w_blank (m : Nat → List PyData → R Ow) (l : List Nat) (hl : l.length ≤ 900000) (fs : List Ow) (x : Option Ow) (n h : Nat) (hc : l[h]? = some 32) :
    whileN wc (wb m) (n + 1) [some (.d (.str (tx l))), some (.l fs), some (.d (.int (h : Nat))), x] = whileN wc (wb m) n [some (.d (.str (tx l))), some (.l fs), some (.d (.int ((h + 1 : Nat) : Int))), x] := by
  have gl := gLen_tx l (by omega)
  have hlt : h < l.length := (List.getElem?_eq_some_iff.mp hc).1
  have ix := gIx_tx hc (by omega)
  have c1 : wc [some (.d (.str (tx l))), some (.l fs), some (.d (.int (h : Nat))), x] = .ok true := by simp [gl, hlt]
  have c2 : wb m [some (.d (.str (tx l))), some (.l fs), some (.d (.int (h : Nat))), x] = .ct [some (.d (.str (tx l))), some (.l fs), some (.d (.int ((h + 1 : Nat) : Int))), x] := by
    simp [ix, sp_is, gEq_tx, sCont]
  rw [whileN, c1, R.st_ok, if_pos rfl, c2]
theorem w_word (n0 : Nat) (l pre w rest : List Nat) (e : l = pre ++ w ++ rest) (hw : Wd w) (hf : Fol w rest) (hl : l.length ≤ 900000) (fs : List Ow) (hfs : fs.length < 16777216) (x : Option Ow) (n : Nat) :
    whileN wc (wb (mir (n0 + 2))) (n + 1) [some (.d (.str (tx l))), some (.l fs), some (.d (.int (pre.length : Nat))), x] =
    whileN wc (wb (mir (n0 + 2))) n [some (.d (.str (tx l))), some (.l (fs ++ [.d (.str (tx w))])), some (.d (.int ((pre.length + w.length : Nat) : Int))), some (.d (.int ((pre.length + w.length : Nat) : Int)))] := by
  have gl := gLen_tx l (by omega)
  have hne := wd_ne hw
  obtain ⟨c0, w0, hw0⟩ : ∃ c0 w0, w = c0 :: w0 := by
    cases w with
    | nil => exact absurd rfl hne
    | cons c r => exact ⟨c, r, rfl⟩
  have hc : l[pre.length]? = some c0 := by rw [e, List.append_assoc, take_head, hw0]; rfl
  have hlt : pre.length < l.length := (List.getElem?_eq_some_iff.mp hc).1
  have ix := gIx_tx hc (by omega)
  have n32 : ¬ c0 = 32 := by
    have hin : c0 ∈ w := by rw [hw0]; exact List.mem_cons_self
    rcases hw with ⟨c, hs, rfl⟩ | ⟨_, hall, _⟩ | ⟨c, r, rfl, hall, _⟩ | ⟨c, r, rfl, hall, _⟩
    · have : c0 = c := (List.cons.inj hw0).1.symm
      subst this
      intro z; subst z
      simp [sigs] at hs
    · exact (isL_sig (hall c0 hin)).2.2.2
    · exact (isF_sig (hall c0 hin)).2.2.2
    · have : c0 = 45 := (List.cons.inj hw0).1.symm
      omega
  have we := word_end_ok n0 l pre w rest e hw hf hl
  have hlen : pre.length + w.length ≤ l.length := by rw [e]; simp
  have sl := gSl_tx (l := l) hlen (Nat.le_add_right _ _) (by omega)
  have cut : (l.drop pre.length).take (pre.length + w.length - pre.length) = w := by
    subst e
    simp
  rw [cut] at sl
  have c1 : wc [some (.d (.str (tx l))), some (.l fs), some (.d (.int (pre.length : Nat))), x] = .ok true := by simp [gl, hlt]
  obtain ⟨E, hE⟩ : ∃ E : Nat, E = pre.length + w.length := ⟨_, rfl⟩
  rw [← hE] at we sl ⊢
  have c2 : wb (mir (n0 + 2)) [some (.d (.str (tx l))), some (.l fs), some (.d (.int (pre.length : Nat))), x] = .nx [some (.d (.str (tx l))), some (.l (fs ++ [.d (.str (tx w))])), some (.d (.int (E : Int))), some (.d (.int (E : Int)))] := by
    simp [ix, sp_is, gEq_tx, n32, we, sl, sizeLine_eq, hfs]
  rw [whileN, c1, R.st_ok, if_pos rfl, c2]
theorem w_blanks (m : Nat → List PyData → R Ow) (l : List Nat) (hl : l.length ≤ 900000) (fs : List Ow) (x : Option Ow) : ∀ (b n : Nat) (pre rest : List Nat), l = pre ++ (List.replicate b 32 ++ rest) →
    whileN wc (wb m) (n + b) [some (.d (.str (tx l))), some (.l fs), some (.d (.int (pre.length : Nat))), x] = whileN wc (wb m) n [some (.d (.str (tx l))), some (.l fs), some (.d (.int ((pre.length + b : Nat) : Int))), x]
  | 0, n, pre, rest, e => rfl
  | b + 1, n, pre, rest, e => by
    have hc : l[pre.length]? = some 32 := by rw [e, take_head, List.replicate_succ]; rfl
    rw [← Nat.add_assoc, w_blank m l hl fs x (n + b) pre.length hc]
    have ih := w_blanks m l hl fs x b n (pre ++ [32]) rest (by rw [e, List.replicate_succ]; simp)
    have e1 : (pre ++ [32]).length = pre.length + 1 := by simp
    rw [e1, Nat.add_assoc, Nat.add_comm 1 b] at ih
    exact ih
theorem w_all (n0 : Nat) (l : List Nat) (hl : l.length ≤ 900000) (t : Nat) : ∀ (segs : List (Nat × List Nat)) (pre : List Nat) (fs : List Ow) (x : Option Ow) (n : Nat), l = pre ++ build segs t → Good segs t → fs.length + segs.length ≤ 900000 → (build segs t).length < n →
    ∃ y, whileN wc (wb (mir (n0 + 2))) n [some (.d (.str (tx l))), some (.l fs), some (.d (.int (pre.length : Nat))), x] = .nx [some (.d (.str (tx l))), some (.l (fs ++ segs.map fun s => .d (.str (tx s.2)))), some (.d (.int (l.length : Nat))), y]
  | [], pre, fs, x, n, e, _, _, hn => by
    have hb : (build [] t).length = t := by simp [build]
    obtain ⟨k, rfl⟩ : ∃ k, n = k + 1 + t := ⟨n - 1 - t, by omega⟩
    have e' : l = pre ++ (List.replicate t 32 ++ []) := by rw [e]; simp [build]
    rw [w_blanks (mir (n0 + 2)) l hl fs x t (k + 1) pre [] e']
    have el : pre.length + t = l.length := by rw [e']; simp
    rw [el, w_end _ l hl]
    exact ⟨x, by simp⟩
  | (b, w) :: segs, pre, fs, x, n, e, hg, hfs, hn => by
    obtain ⟨g1, g2, g3⟩ := hg
    have w1 : 0 < w.length := List.length_pos_iff.mpr (wd_ne g1)
    have hb : (build ((b, w) :: segs) t).length = b + (w.length + (build segs t).length) := by simp [build]
    obtain ⟨k, rfl⟩ : ∃ k, n = k + 1 + b := ⟨n - 1 - b, by omega⟩
    have e' : l = pre ++ (List.replicate b 32 ++ (w ++ build segs t)) := e
    rw [w_blanks (mir (n0 + 2)) l hl fs x b (k + 1) pre _ e']
    have e2 : l = (pre ++ List.replicate b 32) ++ w ++ build segs t := by rw [e']; simp
    have e3 : (pre ++ List.replicate b 32).length = pre.length + b := by simp
    rw [← e3, w_word n0 l _ w _ e2 g1 g2 hl fs (by simp at hfs; omega)]
    obtain ⟨y, ih⟩ := w_all n0 l hl t segs ((pre ++ List.replicate b 32) ++ w) (fs ++ [.d (.str (tx w))]) (some (.d (.int (((pre ++ List.replicate b 32).length + w.length : Nat) : Int)))) k e2 g3 (by simp at hfs ⊢; omega) (by omega)
    have e4 : ((pre ++ List.replicate b 32) ++ w).length = (pre ++ List.replicate b 32).length + w.length := List.length_append
    rw [e4] at ih
    exact ⟨y, by rw [ih]; simp⟩
theorem words_ok (n0 : Nat) (segs : List (Nat × List Nat)) (t : Nat) (hg : Good segs t) (hs : segs.length ≤ 1000) (hl : (build segs t).length ≤ 900000) :
    mir (n0 + 3) 2 [.str (tx (build segs t))] = .ok (.l (segs.map fun s => .d (.str (tx s.2)))) := by
  rw [mir_words, run_words]
  obtain ⟨l, hL⟩ : ∃ l, l = build segs t := ⟨_, rfl⟩
  rw [← hL] at hl ⊢
  obtain ⟨y, h⟩ := w_all n0 l hl t segs [] [] none 1000000 hL hg (by simp; omega) (by rw [← hL]; omega)
  have isi : gIsi "str" (.str (tx l)) = .ok (.bool true) := rfl
  simp only [List.length_nil, List.nil_append] at h
  have h' : whileN wc (wb (mir (n0 + 2))) 1000000 [some (.d (.str (tx l))), some (.l []), some (.d (.int 0)), none] = .nx [some (.d (.str (tx l))), some (.l (segs.map fun s => .d (.str (tx s.2)))), some (.d (.int (l.length : Nat))), y] := h
  generalize (1000000 : Nat) = big at *
  unfold wc wb at h'
  simp [isi, sizeLine_eq, sRetV, h']
end G
set_option Elab.async false
set_option linter.all false
set_option maxRecDepth 100000
set_option maxHeartbeats 4000000
namespace G
open PySem PySem.Spec L2 Mir
theorem wd_num {n : Nat} (h : n < 10 ^ 60) : Wd (TL.numL n) := by
  refine .inr (.inr (.inl ?_))
  have hl := TL.numL_len (n := n) (k := 60) (by decide) h
  have hf := numL_isF n
  by_cases z : n = 0
  · subst z
    rw [numL_zero] at hf hl ⊢
    exact ⟨48, [], rfl, hf, hl, fun _ => rfl⟩
  · obtain ⟨c, r, e, ne⟩ := numL_head n (by omega)
    exact ⟨c, r, e, hf, hl, fun z => absurd z ne⟩
theorem wd_neg {n : Nat} (h : n + 1 < 10 ^ 60) : Wd (45 :: TL.numL (n + 1)) := by
  refine .inr (.inr (.inr ?_))
  have hl := TL.numL_len (n := n + 1) (k := 60) (by decide) h
  have hf := numL_isF (n + 1)
  obtain ⟨c, r, e, ne⟩ := numL_head (n + 1) (by omega)
  rw [e] at hf hl ⊢
  exact ⟨c, r, rfl, hf, hl, ne⟩
theorem sig_at {k : Nat} (h : k < 7) : ∃ c, c ∈ sigs ∧ gIx (.str "();:=|*") (.int (k : Nat)) = some (.str (tx [c])) := by
  have hl : sigs.length = 7 := rfl
  refine ⟨sigs[k]'(by omega), List.getElem_mem _, ?_⟩
  show gIx (.str (Str.ofString "();:=|*")) _ = _
  rw [tx_of (Str.ofString "();:=|*"), sigs_is]
  exact gIx_tx (List.getElem?_eq_getElem _) (by rw [hl]; decide)
theorem word_by_ok (n : Nat) (c : Int) : ∃ w, mir (n + 2) 4 [.int c] = .ok (.d (.str (tx w))) ∧ Wd w := by
  rw [mir__law_word_by, run__law_word_by]
  have p64 : gPow (.int 10) (.int 64) = some (.int (10 ^ 64)) := gPow10 64 (by decide)
  have p60 : gPow (.int 10) (.int 60) = some (.int (10 ^ 60)) := gPow10 60 (by decide)
  obtain ⟨T, hT⟩ : ∃ T : Int, T = 10 ^ 64 := ⟨_, rfl⟩
  obtain ⟨S, hS⟩ : ∃ S : Nat, S = 10 ^ 60 := ⟨_, rfl⟩
  have hTp : 0 < T := by rw [hT]; decide
  have hSp : 10 < S := by rw [hS]; decide
  have hSi : (10 : Int) ^ 60 = (S : Int) := by rw [hS]; decide
  have hSb : S < 2 ^ 1000 := by rw [hS]; decide +kernel
  have hTl : T < 2 ^ 250 := by rw [hT]; decide
  rw [hSi] at p60
  rw [← hT] at p64
  have m1 : gMod (.int c) (.int T) = some (.int (c % T)) := gMod_int hTp
  obtain ⟨u, hu⟩ : ∃ u : Nat, c % T = (u : Int) := ⟨(c % T).toNat, by have := Int.emod_nonneg c (Int.ne_of_gt hTp); omega⟩
  have huT : (u : Int) < T := by rw [← hu]; exact Int.emod_lt_of_pos c hTp
  rw [hu] at m1
  have m2 : gMod (.int (u : Int)) (.int 7) = some (.int ((u : Int) % 7)) := gMod_int (by decide)
  have d1 : gDiv (.int (u : Int)) (.int 7) = some (.int ((u : Int) / 7)) := gDiv_small (by decide) (by decide)
  have d2 : gDiv (.int (u : Int)) (.int 14) = some (.int ((u : Int) / 14)) := gDiv_small (by decide) (by decide)
  by_cases w1 : (u : Int) % 7 < 2
  · have mm : gMul (.int ((u : Int) / 7)) (.int 48271) = some (.int ((u : Int) / 7 * 48271)) := gMul_by (by decide) (by decide)
    have m3 : gMod (.int ((u : Int) / 7 * 48271)) (.int 2147483647) = some (.int ((u : Int) / 7 * 48271 % 2147483647)) := gMod_int (by decide)
    obtain ⟨w, h1, h2, h3, h4⟩ := name_tx ((u : Int) / 7 * 48271 % 2147483647) (by omega) (by omega)
    refine ⟨w, ?_, .inr (.inl ⟨h2, h3, h4⟩)⟩
    rw [← run__law_name_by (mir n), ← mir__law_name_by] at h1
    simp [p64, m1, m2, d1, mm, m3, w1, h1]
  · by_cases w2 : (u : Int) % 7 = 2
    · have m3 : gMod (.int ((u : Int) / 7)) (.int (S : Int)) = some (.int ((u : Int) / 7 % (S : Int))) := gMod_int (by omega)
      have e3 : (u : Int) / 7 % (S : Int) = ((u / 7 % S : Nat) : Int) := by rw [Int.natCast_emod, Int.natCast_ediv]; rfl
      have lt : u / 7 % S < S := Nat.mod_lt _ (by omega)
      rw [e3] at m3
      generalize hv : u / 7 % S = v at m3 lt
      have st := gStr_nat (n := v) (by omega)
      refine ⟨TL.numL v, ?_, wd_num (by rw [← hS]; exact lt)⟩
      simp [p64, p60, m1, m2, d1, m3, w1, w2, st]
    · by_cases w3 : (u : Int) % 7 = 3
      · have m3 : gMod (.int ((u : Int) / 7)) (.int ((S : Int) - 1)) = some (.int ((u : Int) / 7 % ((S : Int) - 1))) := gMod_int (by omega)
        have e3 : (u : Int) / 7 % ((S : Int) - 1) = ((u / 7 % (S - 1) : Nat) : Int) := by
          rw [show (S : Int) - 1 = ((S - 1 : Nat) : Int) from by omega, Int.natCast_emod, Int.natCast_ediv]; rfl
        have lt : u / 7 % (S - 1) < S - 1 := Nat.mod_lt _ (by omega)
        rw [e3] at m3
        generalize hv : u / 7 % (S - 1) = v at m3 lt
        have st := gStr_neg (n := v) (by omega)
        have e4 : (-1 : Int) - (v : Nat) = Int.negSucc v := by omega
        refine ⟨45 :: TL.numL (v + 1), ?_, wd_neg (by rw [← hS]; omega)⟩
        simp [p64, p60, m1, m2, d1, m3, w1, w2, w3, e4, st]
      · by_cases w4 : (u : Int) % 7 = 4
        · have m3 : gMod (.int ((u : Int) / 14)) (.int 13) = some (.int ((u : Int) / 14 % 13)) := gMod_int (by decide)
          have hx : 0 ≤ (u : Int) / 14 % 13 ∧ (u : Int) / 14 % 13 < 13 := by omega
          generalize (u : Int) / 14 % 13 = x at m3 hx
          by_cases s0 : 0 ≤ x - 6
          · obtain ⟨v, hv⟩ : ∃ v : Nat, x - 6 = (v : Int) := ⟨(x - 6).toNat, by omega⟩
            have st := gStr_nat (n := v) (by omega)
            refine ⟨TL.numL v, ?_, wd_num (by rw [← hS]; omega)⟩
            simp [p64, p60, m1, m2, d2, m3, w1, w2, w3, w4, hv, st]
          · obtain ⟨v, hv⟩ : ∃ v : Nat, x - 6 = Int.negSucc v := ⟨(-(x - 6) - 1).toNat, by omega⟩
            have st := gStr_neg (n := v) (by omega)
            refine ⟨45 :: TL.numL (v + 1), ?_, wd_neg (by rw [← hS]; omega)⟩
            simp [p64, p60, m1, m2, d2, m3, w1, w2, w3, w4, hv, st]
        · have m3 : gMod (.int ((u : Int) / 7)) (.int 7) = some (.int ((u : Int) / 7 % 7)) := gMod_int (by decide)
          obtain ⟨k, hk⟩ : ∃ k : Nat, (u : Int) / 7 % 7 = (k : Int) := ⟨((u : Int) / 7 % 7).toNat, by omega⟩
          obtain ⟨s, hs, hix⟩ := sig_at (k := k) (by omega)
          rw [hk] at m3
          refine ⟨[s], ?_, .inl ⟨s, hs, rfl⟩⟩
          simp [p64, p60, m1, m2, d1, m3, w1, w2, w3, w4, hix]
/-- two words that would run together -/
def tch (p w : List Nat) : Bool := match p.getLast?, w.head? with
  | some x, some c => (isL x && isL c) || (isF x && isF c)
  | _, _ => false
theorem touch_ok (n : Nat) {p w : List Nat} (hp : Wd p) (hw : Wd w) : mir (n + 2) 7 [.str (tx p), .str (tx w)] = .ok (.d (.bool (tch p w))) := by
  obtain ⟨q, x, rfl⟩ : ∃ q x, p = q ++ [x] := by
    rcases List.eq_nil_or_concat p with e | ⟨q, x, e⟩
    · exact absurd e (wd_ne hp)
    · exact ⟨q, x, by rw [e, List.concat_eq_append]⟩
  obtain ⟨c, r, rfl⟩ : ∃ c r, w = c :: r := by
    cases w with
    | nil => exact absurd rfl (wd_ne hw)
    | cons c r => exact ⟨c, r, rfl⟩
  have lp : ∀ {w : List Nat}, Wd w → w.length < 16777216 := fun h => by
    rcases h with ⟨_, _, rfl⟩ | ⟨_, _, h⟩ | ⟨_, _, rfl, _, h, _⟩ | ⟨_, _, rfl, _, h, _⟩ <;> simp at * <;> omega
  have l1 := lp hp
  have l2 := lp hw
  have i1 := gIx_last (l := q) (c := x) (by simp at l1; omega)
  have i2 : gIx (.str (tx (c :: r))) (.int 0) = some (.str (tx [c])) := gIx_tx (i := 0) rfl (by omega)
  have L : ∀ c, mir (n + 1) 5 [.str (tx [c])] = .ok (.d (.bool (isL c))) := fun c => by
    have := gIn_tx c abc
    rw [inS_abc] at this
    rw [mir__law_letter, run__law_letter]
    simp [this]
  have F : ∀ c, mir (n + 1) 6 [.str (tx [c])] = .ok (.d (.bool (isF c))) := fun c => by
    have := gIn_tx c figs
    rw [inS_figs] at this
    rw [mir__law_figure, run__law_figure]
    simp [this]
  rw [mir__law_touch, run__law_touch]
  have t : tch (q ++ [x]) (c :: r) = ((isL x && isL c) || (isF x && isF c)) := by simp [tch]
  rw [t]
  cases hx : isL x with
  | true =>
    have := (isL_sig hx).2.1
    simp [i1, i2, L, F, hx, this]
  | false =>
    cases hf : isF x <;> simp [i1, i2, L, F, hx, hf]
theorem fol_of {p r : List Nat} (hp : Wd p) : (∀ c, r.head? = some c → tch p (c :: []) = false) → Fol p r := by
  intro h q x c e hc
  have := h c hc
  rw [e] at this
  simp [tch] at this
  exact this
end G
set_option Elab.async false
set_option linter.all false
set_option maxRecDepth 100000
set_option maxHeartbeats 4000000
namespace G
open PySem PySem.Spec L2 Mir
theorem build_rep : ∀ (segs : List (Nat × List Nat)) (t : Nat), build segs t = build segs 0 ++ List.replicate t 32
  | [], t => by simp [build]
  | (b, w) :: r, t => by rw [build, build, build_rep r t]; simp
theorem build_snoc : ∀ (segs : List (Nat × List Nat)) (b : Nat) (w : List Nat), build (segs ++ [(b, w)]) 0 = build segs 0 ++ (List.replicate b 32 ++ w)
  | [], b, w => by simp [build]
  | (c, v) :: r, b, w => by rw [List.cons_append, build, build, build_snoc r b w]; simp
theorem fol_sp {w r : List Nat} (h : ∀ c, r.head? = some c → c = 32) : Fol w r := fun p x c _ hc => by
  have := h c hc
  subst this
  exact ⟨fun _ => rfl, fun _ => rfl⟩
theorem head_rep (b : Nat) (r : List Nat) (h : 0 < b) : (List.replicate b 32 ++ r).head? = some 32 := by
  obtain ⟨k, rfl⟩ : ∃ k, b = k + 1 := ⟨b - 1, by omega⟩
  simp [List.replicate_succ]
theorem head_app {w r s : List Nat} (h : w ≠ []) : (w ++ r).head? = (w ++ s).head? := by
  cases w with
  | nil => exact absurd rfl h
  | cons c w => rfl
theorem fol_head {w r s : List Nat} (h : Fol w r) (e : s.head? = r.head?) : Fol w s := fun p x c hw hc => h p x c hw (by rw [← e]; exact hc)
theorem tch_head {p w : List Nat} {c : Nat} (h : w.head? = some c) : tch p [c] = tch p w := by unfold tch; rw [h]; rfl
def GoodA (segs : List (Nat × List Nat)) : Prop := ∀ t, Good segs t
theorem good_snoc {b : Nat} {w : List Nat} (hw : Wd w) : ∀ segs : List (Nat × List Nat), GoodA segs → (∀ p x, segs = p ++ [x] → b = 0 → tch x.2 w = false) → GoodA (segs ++ [(b, w)])
  | [], _, _ => fun t => ⟨hw, fol_sp (fun c hc => by
      cases t with
      | zero => cases hc
      | succ t => simp [build, List.replicate_succ] at hc; exact hc.symm), trivial⟩
  | (c, v) :: r, hg, hl => fun t => by
    have hv : Wd v := (hg 0).1
    have ih := good_snoc hw r (fun t => (hg t).2.2) (fun p x e => hl ((c, v) :: p) x (by rw [e]; rfl)) t
    refine ⟨hv, ?_, ih⟩
    show Fol v (build (r ++ [(b, w)]) t)
    cases r with
    | nil =>
      show Fol v (List.replicate b 32 ++ (w ++ List.replicate t 32))
      by_cases hb : b = 0
      · subst hb
        refine fol_of hv fun d hd => ?_
        have : w.head? = some d := by
          have := head_app (r := List.replicate t 32) (s := []) (wd_ne hw)
          rw [List.append_nil] at this
          rw [← this]
          simpa using hd
        rw [tch_head this]
        exact hl [] (c, v) rfl rfl
      · refine fol_sp fun d hd => ?_
        rw [head_rep _ _ (by omega)] at hd
        cases hd
        rfl
    | cons y r =>
      obtain ⟨d, u⟩ := y
      have f := (hg t).2.1
      have hu : Wd u := (hg t).2.2.1
      refine fol_head f ?_
      show (List.replicate d 32 ++ (u ++ build (r ++ [(b, w)]) t)).head? = (List.replicate d 32 ++ (u ++ build r t)).head?
      by_cases hd : d = 0
      · subst hd
        exact head_app (w := u) (wd_ne hu)
      · rw [head_rep _ _ (by omega), head_rep _ _ (by omega)]
theorem wd_len {w : List Nat} (h : Wd w) : w.length ≤ 61 := by
  rcases h with ⟨_, _, rfl⟩ | ⟨_, _, h⟩ | ⟨_, _, rfl, _, h, _⟩ | ⟨_, _, rfl, _, h, _⟩ <;> simp at * <;> omega
theorem wd_ok {w : List Nat} (h : Wd w) : PyData.strOk (tx w) = true := by
  refine strOk_tx fun c hc => ?_
  rcases h with ⟨d, hs, rfl⟩ | ⟨_, h, _⟩ | ⟨_, _, rfl, h, _⟩ | ⟨d, r, rfl, h, _⟩
  · rw [List.mem_singleton] at hc
    subst hc
    simp [sigs] at hs
    omega
  · exact isL_small (h c hc)
  · exact isF_small (h c hc)
  · rcases List.mem_cons.mp hc with h1 | h1
    · omega
    · exact isF_small (h c h1)
theorem good_mem : ∀ (segs : List (Nat × List Nat)) (t : Nat), Good segs t → ∀ s ∈ segs, Wd s.2
  | [], _, _, s, hs => by cases hs
  | (b, w) :: r, t, hg, s, hs => by
    rcases List.mem_cons.mp hs with rfl | h
    · exact hg.1
    · exact good_mem r t hg.2.2 s h
theorem nice_list {ds : List PyData} {n : Nat} (h : ∀ d ∈ ds, d.canLay0 = true ∧ d.depth ≤ n) (hn : n ≤ 129) : Nice (.list ds) := by
  refine ⟨?_, ?_⟩
  · rw [PyData.canLay0]
    exact canAll_of _ fun d hd => (h d hd).1
  · rw [PyData.depth]
    have := depthAll_of ds fun d hd => (h d hd).2
    omega
theorem nice_words {segs : List (Nat × List Nat)} {t : Nat} (hg : Good segs t) : Nice (.list (segs.map fun s => PyData.str (tx s.2))) := nice_list (n := 0) (fun d hd => by
  obtain ⟨s, hs, rfl⟩ := List.mem_map.mp hd
  refine ⟨?_, by simp [PyData.depth]⟩
  rw [PyData.canLay0]
  exact wd_ok (good_mem segs t hg s hs)) (by decide)
theorem gNe_nil {ds : List PyData} (h : Nice (.list ds)) : gNe (.list ds) (.list []) = some (.bool (!ds.isEmpty)) := by
  have n0 : Nice (.list []) := nice_list (n := 0) (fun d hd => by cases hd) (by decide)
  rw [gNe_nice h n0]
  cases ds with
  | nil => rw [eqv_self n0]; rfl
  | cons d ds => simp [PyData.eqv, PyData.eqvAll]
theorem build_len : ∀ (segs : List (Nat × List Nat)) (t : Nat), (∀ s ∈ segs, s.1 ≤ 3 ∧ s.2.length ≤ 61) → (build segs t).length ≤ 64 * segs.length + t
  | [], t, _ => by simp [build]
  | (b, w) :: r, t, h => by
    have a := h (b, w) List.mem_cons_self
    have ih := build_len r t fun s hs => h s (List.mem_cons_of_mem _ hs)
    have : (build ((b, w) :: r) t).length = b + (w.length + (build r t).length) := by simp [build]
    rw [this, List.length_cons]
    have a1 := a.1
    have a2 := a.2
    simp only at a1 a2
    omega
end G
set_option Elab.async false
set_option linter.all false
set_option maxRecDepth 100000
set_option maxHeartbeats 4000000
namespace G
open PySem PySem.Spec L2 Mir
abbrev dueD (segs : List (Nat × List Nat)) : List PyData := segs.map fun s => PyData.str (tx s.2)
abbrev dueO (segs : List (Nat × List Nat)) : Ow := .l (segs.map fun s => .d (PyData.str (tx s.2)))
theorem blanks_of {b : Nat} (h : b < 4) : gSl (.str "    ") none (some (b : Int)) = some (.d (.str (tx (List.replicate b 32)))) := by
  show gSl (.str (Str.ofString "    ")) none _ = _
  rw [sp4_is, gSl_to (by decide)]
  have : ∀ b, b < 4 → List.take b [32, 32, 32, 32] = List.replicate b 32 := by decide
  rw [this b h]
noncomputable abbrev lb (m : Nat → List PyData → R Ow) : Ev → SR := (sSeq (sSet 4 (eM (eM (eB (aCons (eVar 3) aNil) (m 4)) viewD) Ow.d))
    (sSeq (sSet 5 (eM (eBin gMod (eBin gMod (eBin gMul (eVar 3) (eC (.int 69621))) (eC (.int 1000003))) (eC (.int 4))) Ow.d))
    (sSeq (sIf (tAndE (eB (eBin gNe (eM (eVarO 1) viewD) (eM (eLst aNil) viewD)) asB) (tAndE (eB (eBin gEq (eVar 5) (eC (.int 0))) asB) (eB (eM (eB (aCons (eBin gIx (eB (eVarO 1) shD) (eB (eC (.int 1)) gNeg)) (aCons (eVar 4) aNil)) (m 7)) viewD) asB)))
    (sSet 5 (eM (eC (.int 1)) Ow.d))
    sSkip)
    (sSeq (sSet 2 (eM (eM (eBinO gAdd (eB (eBinO gAdd (eVar 2) (eB (eSl (eC (.str "    ")) oNone (eB (eVar 5) asI)) shD)) shD) (eVar 4)) viewD) Ow.d))
    (sApp 1 (eM (eVar 4) Ow.d))))))
theorem lb_ok (n : Nat) (a0 a4 a5 a6 : Option Ow) (segs : List (Nat × List Nat)) (c : Int) (hg : GoodA segs) (hs : ∀ s ∈ segs, s.1 ≤ 3 ∧ s.2.length ≤ 61) (hn : segs.length ≤ 1000) :
    ∃ b w x4 x5, Wd w ∧ b ≤ 3 ∧ (∀ p x, segs = p ++ [x] → b = 0 → tch x.2 w = false) ∧ lb (mir (n + 2)) [a0, some (dueO segs), some (.d (.str (tx (build segs 0)))), some (.d (.int c)), a4, a5, a6] =
      .nx [a0, some (dueO (segs ++ [(b, w)])), some (.d (.str (tx (build (segs ++ [(b, w)]) 0)))), some (.d (.int c)), x4, x5, a6] := by
  obtain ⟨w, hw, hwd⟩ := word_by_ok n c
  have hbl := build_len segs 0 hs
  have hwl := wd_len hwd
  have mm : gMul (.int c) (.int 69621) = some (.int (c * 69621)) := gMul_by (by decide) (by decide)
  have m1 : gMod (.int (c * 69621)) (.int 1000003) = some (.int (c * 69621 % 1000003)) := gMod_int (by decide)
  have m2 : gMod (.int (c * 69621 % 1000003)) (.int 4) = some (.int (c * 69621 % 1000003 % 4)) := gMod_int (by decide)
  obtain ⟨b, hb⟩ : ∃ b : Nat, c * 69621 % 1000003 % 4 = (b : Int) := ⟨(c * 69621 % 1000003 % 4).toNat, by omega⟩
  have hb4 : b < 4 := by omega
  rw [hb] at m2
  have ad : ∀ b : Nat, b < 4 → gAdd (.str (tx (build segs 0))) (.str (tx (List.replicate b 32))) = some (.d (.str (tx (build segs 0 ++ List.replicate b 32)))) := fun b hb => gAdd_tx (by rw [List.length_replicate]; omega)
  have ad2 : ∀ b : Nat, b < 4 → gAdd (.str (tx (build segs 0 ++ List.replicate b 32))) (.str (tx w)) = some (.d (.str (tx (build (segs ++ [(b, w)]) 0)))) := fun b hb => by
    rw [gAdd_tx (by rw [List.length_append, List.length_replicate]; omega), build_snoc, List.append_assoc]
  have bl := fun (b : Nat) (h : b < 4) => blanks_of h
  have ne := gNe_nil (nice_words (hg 0))
  have sh := unDs_of (fun s : Nat × List Nat => PyData.str (tx s.2)) segs
  have vw := viewD_of (fun s : Nat × List Nat => PyData.str (tx s.2)) segs
  have du : ∀ b : Nat, segs.map (fun s : Nat × List Nat => Ow.d (PyData.str (tx s.2))) ++ [Ow.d (.str (tx w))] = (segs ++ [(b, w)]).map (fun s : Nat × List Nat => Ow.d (PyData.str (tx s.2))) := fun b => by simp
  have hlen : segs.length < sizeLine := by rw [sizeLine_eq]; omega
  have b1 := bl 1 (by decide)
  have a1 := ad 1 (by decide)
  have c1 := ad2 1 (by decide)
  have bb := bl b hb4
  have ab := ad b hb4
  have cb := ad2 b hb4
  have d1 := du 1
  have db := du b
  rw [show ((1 : Nat) : Int) = 1 from rfl] at b1
  simp only [dueO] at *
  rcases List.eq_nil_or_concat segs with e | ⟨p, x, e⟩
  · subst e
    refine ⟨b, w, some (.d (.str (tx w))), some (.d (.int (b : Int))), hwd, by omega, fun p x e => absurd e (by simp), ?_⟩
    simp only [List.map_nil, List.length_nil, List.nil_append, List.isEmpty_nil, Bool.not_true] at *
    simp [hw, mm, m1, m2, ne, bb, ab, cb, hlen, viewD]

  · rw [List.concat_eq_append] at e
    have hx : Wd x.2 := good_mem segs 0 (hg 0) x (by rw [e]; simp)
    have tt := touch_ok n hx hwd
    have nei : (dueD segs).isEmpty = false := by rw [e]; simp
    rw [show (List.map (fun s : Nat × List Nat => PyData.str (tx s.2)) segs).isEmpty = false from nei] at ne
    have last : atI (List.map (fun s : Nat × List Nat => PyData.str (tx s.2)) segs) (-1) = some (.str (tx x.2)) := by rw [e, List.map_append]; exact atI_last
    by_cases q : b = 0 ∧ tch x.2 w = true
    · obtain ⟨q1, q2⟩ := q
      subst q1
      refine ⟨1, w, some (.d (.str (tx w))), some (.d (.int 1)), hwd, by omega, fun _ _ _ z => absurd z (by decide), ?_⟩
      rw [← d1]
      simp only [List.replicate_one] at b1 a1 c1
      simp [hw, mm, m1, m2, vw, ne, sh, last, tt, q2, b1, a1, c1, hlen]

    · refine ⟨b, w, some (.d (.str (tx w))), some (.d (.int (b : Int))), hwd, by omega, fun p' x' e' z => ?_, ?_⟩
      · have : x' = x := by
          rw [e] at e'
          have := List.append_inj_right' e' rfl
          simpa using this.symm
        rw [this]
        cases t : tch x.2 w with
        | false => rfl
        | true => exact absurd ⟨z, t⟩ q
      · rw [← db]
        by_cases z : b = 0
        · subst z
          have t : tch x.2 w = false := by
            cases t : tch x.2 w with
            | false => rfl
            | true => exact absurd ⟨rfl, t⟩ q
          rw [show ((0 : Nat) : Int) = 0 from rfl] at bb
          simp only [List.replicate_zero, List.append_nil] at bb ab cb
          simp [hw, mm, m1, m2, vw, ne, sh, last, tt, t, bb, ab, cb, hlen]

        · have zi : ¬ (b : Int) = 0 := by omega
          simp [hw, mm, m1, m2, vw, ne, sh, last, tt, z, zi, bb, ab, cb, hlen]

end G
set_option Elab.async false
set_option linter.all false
set_option maxRecDepth 100000
set_option maxHeartbeats 4000000
namespace G
open PySem PySem.Spec L2 Mir
theorem loop_ok (n : Nat) (a0 a6 : Option Ow) (cs : List Int) (hcs : cs.length ≤ 1000) :
    ∃ segs x3 x4 x5, segs.length ≤ 1000 ∧ GoodA segs ∧ (build segs 0).length ≤ 64 * segs.length ∧ forL (gtName 3) (lb (mir (n + 2))) (cs.map PyData.int) [a0, some (.l []), some (.d (.str (tx []))), none, none, none, a6] =
      .nx [a0, some (dueO segs), some (.d (.str (tx (build segs 0)))), x3, x4, x5, a6] := by
  obtain ⟨env', h1, segs, x3, x4, x5, h2, h3, h4, h5⟩ := forL_ind (g := gtName 3) (f := lb (mir (n + 2))) (cs.map PyData.int) (fun i env => ∃ (segs : List (Nat × List Nat)) (x3 x4 x5 : Option Ow), segs.length = i ∧ GoodA segs ∧ (∀ s ∈ segs, s.1 ≤ 3 ∧ s.2.length ≤ 61) ∧ env = [a0, some (dueO segs), some (.d (.str (tx (build segs 0)))), x3, x4, x5, a6])
    (fun i d env hd ⟨segs, x3, x4, x5, hi, hg, hs, he⟩ => by
      obtain ⟨c, hc, rfl⟩ := map_at hd
      have hil := (List.getElem?_eq_some_iff.mp hc).1
      subst he
      obtain ⟨b, w, y4, y5, hw, hb, ht, e⟩ := lb_ok n a0 x4 x5 a6 segs c hg hs (by omega)
      refine ⟨_, rfl, _, .inl e, segs ++ [(b, w)], _, y4, y5, by simp [hi], good_snoc hw segs hg ht, fun s hx => ?_, rfl⟩
      rcases List.mem_append.mp hx with h | h
      · exact hs s h
      · rw [List.mem_singleton] at h
        subst h
        exact ⟨hb, wd_len hw⟩) [a0, some (.l []), some (.d (.str (tx []))), none, none, none, a6] ⟨[], none, none, none, rfl, fun _ => trivial, fun s hs => (by cases hs), rfl⟩
  subst h5
  rw [List.length_map] at h2
  have := build_len segs 0 h4
  exact ⟨segs, x3, x4, x5, by omega, h3, by omega, h1⟩
theorem back_ok (segs : List (Nat × List Nat)) (a0 a1 a2 a3 a5 x4 : Option Ow) : ∃ y4, forLV 6 (segs.map fun s => Ow.d (PyData.str (tx s.2))) (gtName 4) (sIf (tNotE (eB (eB (eVar 4) (gIsi "str")) asB))
    (sRet (eM (eC (.bool false)) Ow.d))
    sSkip) (segs.map fun s => PyData.str (tx s.2)) [a0, a1, a2, a3, x4, a5, some (dueO segs)] = .nx [a0, a1, a2, a3, y4, a5, some (dueO segs)] := by
  obtain ⟨env', h1, y4, h2⟩ := forLV_ind (g := gtName 4) (f := sIf (tNotE (eB (eB (eVar 4) (gIsi "str")) asB))
    (sRet (eM (eC (.bool false)) Ow.d))
    sSkip) (j := 6) (os := segs.map fun s => Ow.d (PyData.str (tx s.2))) (segs.map fun s => PyData.str (tx s.2)) (fun i env => ∃ y4, env = [a0, a1, a2, a3, y4, a5, some (dueO segs)]) (fun i d env hd ⟨y4, he⟩ => by
      obtain ⟨s, _, rfl⟩ := map_at hd
      subst he
      have isi : gIsi "str" (.str (tx s.2)) = .ok (.bool true) := rfl
      exact ⟨_, rfl, [a0, a1, a2, a3, some (.d (.str (tx s.2))), a5, some (dueO segs)], .inl (by simp [isi]), rfl, _, rfl⟩) _ ⟨x4, rfl⟩
  subst h2
  exact ⟨y4, h1⟩
theorem law_true (L : Nat) (hL : 6 ≤ L) (ns : List Int) (h : ns.length ≤ 63) : mir L 8 [.list (ns.map PyData.int)] = .ok (.d (.bool true)) := by
  obtain ⟨n, rfl⟩ : ∃ n, L = n + 4 := ⟨L - 4, by omega⟩
  rw [mir_law, run_law]
  obtain ⟨segs, x3, x4, x5, hl, hg, hb, lp⟩ := loop_ok (n + 1) (some (.d (.list (ns.map PyData.int)))) none (ns.take 50) (by rw [List.length_take]; omega)
  have sl : gSl (.list (ns.map PyData.int)) none (some 50) = some (.l (((ns.take 50).map PyData.int).map Ow.d)) := by
    rw [gSl_list]
    have := cutL_take (ns.map PyData.int) 50
    rw [show ((50 : Nat) : Int) = 50 from rfl] at this
    rw [this, ← List.map_take]
  have vw : viewD (.l (((ns.take 50).map PyData.int).map Ow.d)) = .list ((ns.take 50).map PyData.int) := by rw [viewD_l, viewAll_mapd]
  obtain ⟨ds, hds⟩ : ∃ ds, ds = (ns.take 50).map PyData.int := ⟨_, rfl⟩
  rw [← hds] at lp sl vw
  obtain ⟨os, hos⟩ : ∃ os, os = ds.map Ow.d := ⟨_, rfl⟩
  rw [← hos] at sl vw
  have gl : gLen [.list (ns.map PyData.int)] = some (.d (.int (ns.length : Nat))) := by
    have : gLen [.list (ns.map PyData.int)] = some (Ow.d (.int (ns.map PyData.int).length)) := rfl
    rw [this, List.length_map]
  have md : gMod (.int (ns.length : Nat)) (.int 4) = some (.int ((ns.length : Nat) % 4)) := gMod_int (by decide)
  obtain ⟨t, ht⟩ : ∃ t : Nat, ((ns.length : Nat) : Int) % 4 = (t : Int) := ⟨(((ns.length : Nat) : Int) % 4).toNat, by omega⟩
  have t4 : t < 4 := by omega
  rw [ht] at md
  have bl := blanks_of t4
  have ad : gAdd (.str (tx (build segs 0))) (.str (tx (List.replicate t 32))) = some (.d (.str (tx (build segs t)))) := by
    rw [gAdd_tx (by rw [List.length_replicate]; omega), ← build_rep]
  have lt : (build segs t).length ≤ 900000 := by
    rw [build_rep, List.length_append, List.length_replicate]; omega
  have wo : mir (n + 3) 2 [.str (tx (build segs t))] = .ok (dueO segs) := words_ok n segs t (hg t) hl lt
  have vd := viewD_of (fun s : Nat × List Nat => PyData.str (tx s.2)) segs
  have nd := gNe_self (nice_words (hg t))
  have ed := gEq_self (nice_words (hg t))
  have un := unDs_fun (fun s : Nat × List Nat => PyData.str (tx s.2)) segs
  have hlen : segs.length < sizeLine := by rw [sizeLine_eq]; omega
  have bk := fun (a0 a1 a2 a3 a5 x4 : Option Ow) => back_ok segs a0 a1 a2 a3 a5 x4
  have em := empty_is
  rw [show (n + 1) + 2 = n + 3 from rfl] at lp
  simp only [dueO] at *
  have e1 : envOf 6 [.list (ns.map PyData.int)] = [some (.d (.list (ns.map PyData.int))), none, none, none, none, none, none] := rfl
  rw [e1]
  obtain ⟨y4, bk⟩ := bk (some (.d (.list (ns.map PyData.int)))) (some (.l (segs.map fun s => Ow.d (PyData.str (tx s.2))))) (some (.d (.str (tx (build segs t))))) x3 x5 x4
  simp [sl, vw, em, lp, gl, md, bl, ad, wo, vd, nd, ed, hlen, sForV, un, bk]
end G
open PySem PySem.W PyProof.Rows
set_option maxRecDepth 100000 in
set_option maxHeartbeats 0 in
theorem PySem.Challenge.cw_turnery_k03_words_of_a_text_holds : PySem.Challenge.rw_turnery_k03_words_of_a_text.Holds := by
  w_on; o_law; k_head; (case hw => w_witness2)
  k_fill
  refine Mir.law_end (l := PySem.Challenge.rw_turnery_k03_words_of_a_text) (m := G.mir 70 8) 70 "_law_script" rfl rfl ⟨rfl, by decide, by decide⟩ (fun w h Y => PySem.W.kIn_of Y) (fun ns h _ => G.law_true 70 (by decide) ns h) ?F
  case F =>
    intro w mg fa h KX Gn hmg
    refine' G.all_mk 70 KX Gn hmg ?a0 ?l0 ?c0 ?k0 ?a1 ?l1 ?c1 ?k1 ?a2 ?l2 ?c2 ?k2 ?a3 ?l3 ?c3 ?k3 ?a4 ?l4 ?c4 ?k4 ?a5 ?l5 ?c5 ?k5 ?a6 ?l6 ?c6 ?k6 ?a7 ?l7 ?c7 ?k7 ?a8 ?l8 ?c8 ?k8 ?z_int ?z_isinstance ?z_len ?z_list ?z_range ?z_str ?g_FIGURES ?r_FIGURES ?g_LETTERS ?r_LETTERS ?g_SIGNS ?r_SIGNS
    (case a0 => k_is)
    (case l0 => k_is)
    (case c0 => k_is)
    (case k0 => k_is)
    (case a1 => k_is)
    (case l1 => k_is)
    (case c1 => k_is)
    (case k1 => k_is)
    (case a2 => k_is)
    (case l2 => k_is)
    (case c2 => k_is)
    (case k2 => k_is)
    (case a3 => k_is)
    (case l3 => k_is)
    (case c3 => k_is)
    (case k3 => k_is)
    (case a4 => k_is)
    (case l4 => k_is)
    (case c4 => k_is)
    (case k4 => k_is)
    (case a5 => k_is)
    (case l5 => k_is)
    (case c5 => k_is)
    (case k5 => k_is)
    (case a6 => k_is)
    (case l6 => k_is)
    (case c6 => k_is)
    (case k6 => k_is)
    (case a7 => k_is)
    (case l7 => k_is)
    (case c7 => k_is)
    (case k7 => k_is)
    (case a8 => k_is)
    (case l8 => k_is)
    (case c8 => k_is)
    (case k8 => k_is)
    (case z_int => k_is)
    (case z_isinstance => k_is)
    (case z_len => k_is)
    (case z_list => k_is)
    (case z_range => k_is)
    (case z_str => k_is)
    (case g_FIGURES => k_is)
    (case g_LETTERS => k_is)
    (case g_SIGNS => k_is)
    (case r_FIGURES => exact ⟨_, rfl⟩)
    (case r_LETTERS => exact ⟨_, rfl⟩)
    (case r_SIGNS => exact ⟨_, rfl⟩)

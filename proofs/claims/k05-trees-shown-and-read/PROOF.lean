import PyProof.Rows.All
import Wide.All
import OpenK.AllK
import Wide.FinOn
import HandS.ForMost
import HandS.ForExc
import HandS.Walk
import HandS.TupAny
import HandS.Wide
import HandS.IsInst
import PyProof.P3Eq
import PyProof.NeData
import PyProof.Rows.SeqMore
import KE.GoesNew
import KE.GoesMore
import KE.GoesEnum
import HandS.Zip
import PyProof.AutoSeq1
import HandS.More
import KE.SortData
import HandS.EndBits
import HandS.Steps
import HandS.Rev
import PyProof.StrOps2
import HandS.Text
import PySem.Challenge.RW_turnery_k05_trees_shown_and_read
set_option Elab.async false
set_option linter.all false
set_option maxRecDepth 100000
set_option maxHeartbeats 4000000
/-! Mir: pure mirrors of defs over data, and their soundness over the hand layer. -/
noncomputable section
namespace Mir
open PySem PySem.Spec L2

abbrev D := PyData
/-- a value in a mirror: data that stays, or a list that the def owns -/
inductive Ow where
  | d (x : D)
  | l (xs : List Ow)
abbrev Ev := List (Option Ow)

/-- a pure outcome: none (not mirrored), a value, an exception's class -/
inductive R (α : Type) where
  | no
  | ok (a : α)
  | ex (c : Str)
def R.bind {α β : Type} : R α → (α → R β) → R β
  | .no, _ => .no
  | .ok a, f => f a
  | .ex c, _ => .ex c
@[simp] theorem R.bind_ok {α β : Type} (a : α) (f : α → R β) : (R.ok a).bind f = f a := rfl
@[simp] theorem R.bind_no {α β : Type} (f : α → R β) : (R.no : R α).bind f = .no := rfl
@[simp] theorem R.bind_ex {α β : Type} (c : Str) (f : α → R β) : (R.ex c : R α).bind f = .ex c := rfl
def R.map {α β : Type} (f : α → β) (r : R α) : R β := r.bind fun a => .ok (f a)
@[simp] theorem R.map_ok {α β : Type} (a : α) (f : α → β) : (R.ok a).map f = .ok (f a) := rfl
/-- r where c holds (by a choice that nothing reckons with) -/
def guard (c : Prop) {α : Type} (r : R α) : R α := @ite _ c (Classical.propDecidable c) r .no
@[simp] theorem guard_pos {c : Prop} {α : Type} {r : R α} (h : c) : guard c r = r := @if_pos _ (Classical.propDecidable c) h _ _ _

mutual
def viewD : Ow → D
  | .d x => x
  | .l xs => .list (viewAll xs)
def viewAll : List Ow → List D
  | [] => []
  | x :: xs => viewD x :: viewAll xs
end
@[simp] theorem viewD_d (x : D) : viewD (.d x) = x := by unfold viewD; rfl
@[simp] theorem viewD_l (xs : List Ow) : viewD (.l xs) = .list (viewAll xs) := by rw [viewD]
@[simp] theorem viewAll_nil : viewAll [] = [] := by rw [viewAll]
@[simp] theorem viewAll_cons (x : Ow) (xs : List Ow) : viewAll (x :: xs) = viewD x :: viewAll xs := by rw [viewAll]
theorem viewAll_map : ∀ xs : List Ow, viewAll xs = xs.map viewD
  | [] => by rw [viewAll]; rfl
  | x :: xs => by rw [viewAll, viewAll_map xs]; rfl
@[simp] theorem viewAll_mapd : ∀ xs : List D, viewAll (xs.map Ow.d) = xs
  | [] => by simp
  | x :: xs => by simp [viewAll_mapd xs]

/-! ### heaps -/
section
variable {K : PySem.W.Frag}
theorem SqT_mono {H H' : Hp} {a : Addr} {xs : List V} (e : Same H H') (h : SqT K H a xs) : SqT K H' a xs := by
  rcases h with (h | ⟨o, h⟩) | h
  · exact .inl (.inl (e _ _ h))
  · exact .inl (.inr ⟨o, e _ _ h⟩)
  · exact .inr h
mutual
theorem Dp.mono {H H' : Hp} (e : Same H H') : ∀ (d : D) (v : V), Dp K H v d → Dp K H' v d
  | .none, _, h => by cases h; exact .non
  | .bool b, _, h => by cases h; exact .bl b
  | .int b, _, h => by cases h; exact .int b
  | .str b, _, h => by cases h; exact .str b
  | .list ds, _, h => by
    cases h with
    | lst hs ha => exact .lst (e.seq hs) (DpAll.mono e ds _ ha)
  | .tuple ds, _, h => by
    cases h with
    | tup hs ha => exact .tup (SqT_mono e hs) (DpAll.mono e ds _ ha)
  | .dict _, _, h => by cases h
theorem DpAll.mono {H H' : Hp} (e : Same H H') : ∀ (ds : List D) (vs : List V), DpAll K H vs ds → DpAll K H' vs ds
  | [], _, h => by cases h; exact .nil
  | d :: ds, _, h => by
    cases h with
    | cons h1 h2 => exact .cons (Dp.mono e d _ h1) (DpAll.mono e ds _ h2)
end
theorem dpUp {H H' : Hp} {v : V} {d : D} (h : Dp K H v d) (e : Same H H') : Dp K H' v d := Dp.mono e d v h
theorem dpaUp {H H' : Hp} {v : List V} {d : List D} (h : DpAll K H v d) (e : Same H H') : DpAll K H' v d := DpAll.mono e d v h
theorem DpAll.len {H : Hp} : ∀ {vs : List V} {ds : List D}, DpAll K H vs ds → vs.length = ds.length
  | _, [], h => by cases h; rfl
  | _, d :: ds, h => by
    cases h with
    | cons h1 h2 => simp [DpAll.len h2]
theorem DpAll.get {H : Hp} : ∀ {vs : List V} {ds : List D} {i : Nat} {d : D}, DpAll K H vs ds → ds[i]? = some d → ∃ v, vs[i]? = some v ∧ Dp K H v d
  | _, [], i, d, h, e => by simp at e
  | _, x :: ds, 0, d, h, e => by
    cases h with
    | cons h1 h2 => simp at e; subst e; exact ⟨_, rfl, h1⟩
  | _, x :: ds, i + 1, d, h, e => by
    cases h with
    | cons h1 h2 =>
      obtain ⟨v, q, r⟩ := DpAll.get (i := i) h2 (by simpa using e)
      exact ⟨v, by simpa using q, r⟩
theorem DpAll.getV {H : Hp} : ∀ {vs : List V} {ds : List D} {i : Nat} {v : V}, DpAll K H vs ds → vs[i]? = some v → ∃ d, ds[i]? = some d ∧ Dp K H v d
  | _, [], i, v, h, e => by cases h; simp at e
  | _, x :: ds, 0, v, h, e => by
    cases h with
    | cons h1 h2 => simp at e; subst e; exact ⟨_, rfl, h1⟩
  | _, x :: ds, i + 1, v, h, e => by
    cases h with
    | cons h1 h2 =>
      obtain ⟨d, q, r⟩ := DpAll.getV (i := i) h2 (by simpa using e)
      exact ⟨d, by simpa using q, r⟩
theorem DpAll.append {H : Hp} : ∀ {vs ws : List V} {ds es : List D}, DpAll K H vs ds → DpAll K H ws es → DpAll K H (vs ++ ws) (ds ++ es)
  | _, _, [], _, h, g => by cases h; exact g
  | _, _, d :: ds, _, h, g => by
    cases h with
    | cons h1 h2 => exact .cons h1 (DpAll.append h2 g)
theorem DpAll.take {H : Hp} : ∀ {vs : List V} {ds : List D} (n : Nat), DpAll K H vs ds → DpAll K H (vs.take n) (ds.take n)
  | _, [], n, h => by cases h; simp; exact .nil
  | _, d :: ds, 0, h => by simp; exact .nil
  | _, d :: ds, n + 1, h => by
    cases h with
    | cons h1 h2 => exact .cons h1 (DpAll.take n h2)
theorem DpAll.drop {H : Hp} : ∀ {vs : List V} {ds : List D} (n : Nat), DpAll K H vs ds → DpAll K H (vs.drop n) (ds.drop n)
  | _, [], n, h => by cases h; simp; exact .nil
  | _, d :: ds, 0, h => h
  | _, d :: ds, n + 1, h => by
    cases h with
    | cons h1 h2 => exact DpAll.drop n h2
theorem DpAll.ints {H : Hp} : ∀ {vs : List V} (ns : List Int), DpAll K H vs (ns.map PyData.int) → vs = ns.map V.int
  | _, [], h => by cases h; rfl
  | _, n :: ns, h => by
    cases h with
    | cons h1 h2 => cases h1; simp [DpAll.ints ns h2]
theorem DpAll.of_ints {H : Hp} : ∀ (ns : List Int), DpAll K H (ns.map V.int) (ns.map PyData.int)
  | [] => .nil
  | n :: ns => .cons (.int n) (DpAll.of_ints ns)

/-- frozen facts F, the tracked heap H, behind a step that changes nothing that stood -/
structure Ext (F H F' H' : Hp) : Prop where
  ff : Same F F'
  hh : Same H H'
  fn : ∀ b o, F' b = some o → F b = some o ∨ H b = none
  fh : Same F' H'
theorem Ext.refl {F H : Hp} (h : Same F H) : Ext F H F H := ⟨Same.refl _, Same.refl _, fun _ _ h => .inl h, h⟩
theorem Ext.trans {F H F1 H1 F2 H2 : Hp} (a : Ext F H F1 H1) (b : Ext F1 H1 F2 H2) : Ext F H F2 H2 :=
  ⟨a.ff.trans b.ff, a.hh.trans b.hh, fun c o h => by
    rcases b.fn c o h with q | q
    · exact a.fn c o q
    · exact .inr (a.hh.free q), b.fh⟩
theorem free_of {F H : Hp} (s : Same F H) {p : Addr} (h : H p = none) : F p = none := s.free h
theorem same_upd {H : Hp} {p : Addr} (h : H p = none) (o : HO) : Same H (upd H p o) := fun b u q => by rw [upd_ne (ne_of_none q h)]; exact q
theorem same_upd2 {F H : Hp} (s : Same F H) {p : Addr} (h : H p = none) (o : HO) : Same (upd F p o) (upd H p o) := fun b u q => by
  by_cases e : b = p
  · subst e; rw [upd_same] at q ⊢; exact q
  · rw [upd_ne e] at q ⊢; exact s _ _ q
/-- a new object, frozen at once -/
theorem Ext.frz {F H : Hp} (s : Same F H) {p : Addr} (h : H p = none) (o : HO) : Ext F H (upd F p o) (upd H p o) :=
  ⟨same_upd (free_of s h) o, same_upd h o, fun b u q => by
    by_cases e : b = p
    · subst e; exact .inr h
    · rw [upd_ne e] at q; exact .inl q, same_upd2 s h o⟩
/-- a new object of the def's own -/
theorem Ext.own {F H : Hp} (s : Same F H) {p : Addr} (h : H p = none) (o : HO) : Ext F H F (upd H p o) :=
  ⟨Same.refl _, same_upd h o, fun _ _ q => .inl q, s.trans (same_upd h o)⟩

mutual
inductive OwnAt (K : PySem.W.Frag) (F H : Hp) : V → Ow → List Addr → Prop
  | d {v : V} {x : D} : Dp K F v x → OwnAt K F H v (.d x) []
  | l {a : Addr} {vs : List V} {os : List Ow} {fp : List Addr} : F a = none → H a = some (.lst vs) → OwnAll K F H vs os fp → OwnAt K F H (.ref a) (.l os) (a :: fp)
inductive OwnAll (K : PySem.W.Frag) (F H : Hp) : List V → List Ow → List Addr → Prop
  | nil : OwnAll K F H [] [] []
  | cons {v : V} {vs : List V} {o : Ow} {os : List Ow} {fp fps : List Addr} : OwnAt K F H v o fp → OwnAll K F H vs os fps → OwnAll K F H (v :: vs) (o :: os) (fp ++ fps)
end
/-- the step of a statement: what is owned (fp) may change -/
structure StepS (F H : Hp) (fp : List Addr) (F' H' : Hp) (fp' : List Addr) : Prop where
  ff : Same F F'
  fr : ∀ b o, H b = some o → b ∉ fp → H' b = some o
  fn : ∀ b o, F' b = some o → F b = some o ∨ b ∈ fp ∨ H b = none
  sub : ∀ b ∈ fp', b ∈ fp ∨ H b = none
theorem StepS.of_ext {F H F' H' : Hp} (e : Ext F H F' H') (fp : List Addr) : StepS F H fp F' H' fp :=
  ⟨e.ff, fun b o h _ => e.hh b o h, fun b o h => (e.fn b o h).imp id .inr, fun b h => .inl h⟩
theorem StepS.trans {F H F1 H1 F2 H2 : Hp} {fp fp1 fp2 : List Addr} (a : StepS F H fp F1 H1 fp1) (b : StepS F1 H1 fp1 F2 H2 fp2) : StepS F H fp F2 H2 fp2 := by
  have nn : ∀ c, H1 c = none → c ∈ fp ∨ H c = none := fun c h => by
    cases q : H c with
    | none => exact .inr rfl
    | some o =>
      by_cases hc : c ∈ fp
      · exact .inl hc
      · rw [a.fr c o q hc] at h; cases h
  refine ⟨a.ff.trans b.ff, fun c o h hc => b.fr c o (a.fr c o h hc) fun z => ?_, fun c o h => ?_, fun c h => ?_⟩
  · rcases a.sub c z with q | q
    · exact hc q
    · rw [h] at q; cases q
  · rcases b.fn c o h with q | q | q
    · exact a.fn c o q
    · exact .inr (a.sub c q)
    · exact .inr (nn c q)
  · rcases b.sub c h with q | q
    · exact a.sub c q
    · exact nn c q
theorem StepS.mono {F H F1 H1 : Hp} {fp fp' fp1 : List Addr} (a : StepS F H fp F1 H1 fp1) (h : ∀ b ∈ fp, b ∈ fp') : StepS F H fp' F1 H1 fp1 :=
  ⟨a.ff, fun b o q n => a.fr b o q fun z => n (h b z), fun b o q => (a.fn b o q).imp id (.imp (h b) id), fun b q => (a.sub b q).imp (h b) id⟩
theorem StepS.subset {F H F1 H1 : Hp} {fp fp1 fp2 : List Addr} (a : StepS F H fp F1 H1 fp1) (h : ∀ b ∈ fp2, b ∈ fp1) : StepS F H fp F1 H1 fp2 :=
  ⟨a.ff, a.fr, a.fn, fun b q => a.sub b (h b q)⟩

mutual
/-- what is owned apart from what changes stays -/
theorem OwnAt.keep {F H F' H' : Hp} {fx fy : List Addr} (s : StepS F H fx F' H' fy) : ∀ (o : Ow) (v : V) (fp : List Addr), OwnAt K F H v o fp → (∀ b ∈ fp, b ∉ fx) → OwnAt K F' H' v o fp
  | .d x, v, fp, h, _ => by
    cases h with
    | d q => exact .d (dpUp q s.ff)
  | .l os, v, fp, h, n => by
    cases h with
    | @l a vs _ fps h1 h2 h3 =>
      have na : a ∉ fx := n a List.mem_cons_self
      refine .l ?_ (s.fr _ _ h2 na) (OwnAll.keep s os vs fps h3 fun b hb => n b (List.mem_cons_of_mem _ hb))
      cases q : F' a with
      | none => rfl
      | some u =>
        rcases s.fn a u q with z | z | z
        · rw [h1] at z; cases z
        · exact absurd z na
        · rw [h2] at z; cases z
theorem OwnAll.keep {F H F' H' : Hp} {fx fy : List Addr} (s : StepS F H fx F' H' fy) : ∀ (os : List Ow) (vs : List V) (fp : List Addr), OwnAll K F H vs os fp → (∀ b ∈ fp, b ∉ fx) → OwnAll K F' H' vs os fp
  | [], vs, fp, h, _ => by cases h; exact .nil
  | o :: os, vs, fp, h, n => by
    cases h with
    | cons h1 h2 => exact .cons (OwnAt.keep s o _ _ h1 fun b hb => n b (List.mem_append_left _ hb)) (OwnAll.keep s os _ _ h2 fun b hb => n b (List.mem_append_right _ hb))
end
theorem OwnAt.ext {F H F' H' : Hp} {v : V} {o : Ow} {fp : List Addr} (h : OwnAt K F H v o fp) (e : Ext F H F' H') : OwnAt K F' H' v o fp :=
  OwnAt.keep (StepS.of_ext e []) o v fp h fun _ _ => by simp
theorem OwnAll.ext {F H F' H' : Hp} {v : List V} {o : List Ow} {fp : List Addr} (h : OwnAll K F H v o fp) (e : Ext F H F' H') : OwnAll K F' H' v o fp :=
  OwnAll.keep (StepS.of_ext e []) o v fp h fun _ _ => by simp
mutual
theorem OwnAt.there {F H : Hp} : ∀ (o : Ow) (v : V) (fp : List Addr), OwnAt K F H v o fp → ∀ b ∈ fp, F b = none ∧ ∃ vs, H b = some (.lst vs)
  | .d x, v, fp, h, b, hb => by cases h; cases hb
  | .l os, v, fp, h, b, hb => by
    cases h with
    | l h1 h2 h3 =>
      rcases List.mem_cons.mp hb with e | e
      · subst e; exact ⟨h1, _, h2⟩
      · exact OwnAll.there os _ _ h3 b e
theorem OwnAll.there {F H : Hp} : ∀ (o : List Ow) (v : List V) (fp : List Addr), OwnAll K F H v o fp → ∀ b ∈ fp, F b = none ∧ ∃ vs, H b = some (.lst vs)
  | [], v, fp, h, b, hb => by cases h; cases hb
  | o :: os, v, fp, h, b, hb => by
    cases h with
    | cons h1 h2 =>
      rcases List.mem_append.mp hb with e | e
      · exact OwnAt.there o _ _ h1 b e
      · exact OwnAll.there os _ _ h2 b e
end
mutual
theorem OwnAt.view {F H : Hp} (s : Same F H) : ∀ (o : Ow) (v : V) (fp : List Addr), OwnAt K F H v o fp → Dp K H v (viewD o)
  | .d x, v, fp, h => by
    cases h with
    | d q => rw [viewD]; exact dpUp q s
  | .l os, v, fp, h => by
    cases h with
    | l h1 h2 h3 => rw [viewD]; exact .lst (SqL.of h2) (OwnAll.view s os _ _ h3)
theorem OwnAll.view {F H : Hp} (s : Same F H) : ∀ (o : List Ow) (v : List V) (fp : List Addr), OwnAll K F H v o fp → DpAll K H v (viewAll o)
  | [], v, fp, h => by cases h; rw [viewAll]; exact .nil
  | o :: os, v, fp, h => by
    cases h with
    | cons h1 h2 => rw [viewAll]; exact .cons (OwnAt.view s o _ _ h1) (OwnAll.view s os _ _ h2)
end
theorem OwnAll.len {F H : Hp} : ∀ {os : List Ow} {vs : List V} {fp : List Addr}, OwnAll K F H vs os fp → vs.length = os.length
  | [], _, _, h => by cases h; rfl
  | o :: os, _, _, h => by
    cases h with
    | cons h1 h2 => simp [OwnAll.len h2]
/-- F with the objects at fp as they stand in H -/
def frzAt (F H : Hp) (fp : List Addr) : Hp := fun b => if b ∈ fp then H b else F b
theorem frzAt_same {F H : Hp} {fp : List Addr} (n : ∀ b ∈ fp, F b = none) : Same F (frzAt F H fp) := fun b o h => by
  have : b ∉ fp := fun z => by rw [n b z] at h; cases h
  simp [frzAt, this, h]
theorem frzAt_in {F H : Hp} {fp : List Addr} (s : Same F H) : Same (frzAt F H fp) H := fun b o h => by
  unfold frzAt at h
  split at h
  · exact h
  · exact s _ _ h
theorem frzAt_of {F H : Hp} {fp : List Addr} {b : Addr} {o : HO} (h : frzAt F H fp b = some o) : F b = some o ∨ b ∈ fp := by
  unfold frzAt at h
  split at h
  · exact .inr ‹_›
  · exact .inl h
mutual
theorem OwnAt.frz {F H : Hp} {fx : List Addr} (nx : ∀ b ∈ fx, F b = none) : ∀ (o : Ow) (v : V) (fp : List Addr), OwnAt K F H v o fp → (∀ b ∈ fp, b ∈ fx) → Dp K (frzAt F H fx) v (viewD o)
  | .d x, v, fp, h, _ => by
    cases h with
    | d q => rw [viewD]; exact dpUp q (frzAt_same nx)
  | .l os, v, fp, h, hs => by
    cases h with
    | @l a _ _ _ h1 h2 h3 =>
      rw [viewD]
      have e : frzAt F H fx a = some (.lst _) := (if_pos (hs a List.mem_cons_self)).trans h2
      exact .lst (SqL.of e) (OwnAll.frz nx os _ _ h3 fun b hb => hs b (List.mem_cons_of_mem _ hb))
theorem OwnAll.frz {F H : Hp} {fx : List Addr} (nx : ∀ b ∈ fx, F b = none) : ∀ (o : List Ow) (v : List V) (fp : List Addr), OwnAll K F H v o fp → (∀ b ∈ fp, b ∈ fx) → DpAll K (frzAt F H fx) v (viewAll o)
  | [], v, fp, h, _ => by cases h; rw [viewAll]; exact .nil
  | o :: os, v, fp, h, hs => by
    cases h with
    | cons h1 h2 => rw [viewAll]; exact .cons (OwnAt.frz nx o _ _ h1 fun b hb => hs b (List.mem_append_left _ hb)) (OwnAll.frz nx os _ _ h2 fun b hb => hs b (List.mem_append_right _ hb))
end
/-- a fresh owned value made data -/
theorem Ext.freeze {F H F' H' : Hp} {v : V} {o : Ow} {fp : List Addr} (e : Ext F H F' H') (h : OwnAt K F' H' v o fp) (n : ∀ b ∈ fp, H b = none) :
    ∃ F2, Ext F H F2 H' ∧ Dp K F2 v (viewD o) := by
  have nx : ∀ b ∈ fp, F' b = none := fun b hb => (OwnAt.there o v fp h b hb).1
  refine ⟨frzAt F' H' fp, ⟨e.ff.trans (frzAt_same nx), e.hh, fun b u q => ?_, frzAt_in e.fh⟩, OwnAt.frz nx o v fp h fun _ z => z⟩
  rcases frzAt_of q with z | z
  · exact e.fn b u z
  · exact .inr (n b z)

/-! ### the slots -/
inductive EnvAt (K : PySem.W.Frag) (F H : Hp) : St → Ev → List Addr → Prop
  | nil : EnvAt K F H [] [] []
  | non {x : Option V} {σ : St} {env : Ev} {fp : List Addr} : EnvAt K F H σ env fp → EnvAt K F H (x :: σ) (none :: env) fp
  | som {v : V} {o : Ow} {σ : St} {env : Ev} {fp fps : List Addr} : OwnAt K F H v o fp → EnvAt K F H σ env fps → EnvAt K F H (some v :: σ) (some o :: env) (fp ++ fps)
theorem EnvAt.keep {F H F' H' : Hp} {fx fy : List Addr} (s : StepS F H fx F' H' fy) : ∀ {σ : St} {env : Ev} {fp : List Addr}, EnvAt K F H σ env fp → (∀ b ∈ fp, b ∉ fx) → EnvAt K F' H' σ env fp := by
  intro σ env fp h
  induction h with
  | nil => intro _; exact .nil
  | non h ih => intro n; exact .non (ih n)
  | som h1 h2 ih => intro n; exact .som (OwnAt.keep s _ _ _ h1 fun b hb => n b (List.mem_append_left _ hb)) (ih fun b hb => n b (List.mem_append_right _ hb))
theorem EnvAt.ext {F H F' H' : Hp} {σ : St} {env : Ev} {fp : List Addr} (h : EnvAt K F H σ env fp) (e : Ext F H F' H') : EnvAt K F' H' σ env fp :=
  h.keep (StepS.of_ext e []) fun _ _ => by simp
theorem EnvAt.there {F H : Hp} {σ : St} {env : Ev} {fp : List Addr} (h : EnvAt K F H σ env fp) : ∀ b ∈ fp, F b = none ∧ ∃ vs, H b = some (.lst vs) := by
  induction h with
  | nil => intro b hb; cases hb
  | non h ih => exact ih
  | som h1 h2 ih =>
    intro b hb
    rcases List.mem_append.mp hb with e | e
    · exact OwnAt.there _ _ _ h1 b e
    · exact ih b e
theorem EnvAt.len {F H : Hp} {σ : St} {env : Ev} {fp : List Addr} (h : EnvAt K F H σ env fp) : σ.length = env.length := by
  induction h with
  | nil => rfl
  | non h ih => simp [ih]
  | som h1 h2 ih => simp [ih]
/-- a slot read: its own footprint, and the others' -/
theorem EnvAt.get {F H : Hp} {σ : St} {env : Ev} {fp : List Addr} (h : EnvAt K F H σ env fp) : ∀ {i : Nat} {o : Ow}, env[i]? = some (some o) → ∃ v fo, σ[i]? = some (some v) ∧ OwnAt K F H v o fo ∧ (∀ b ∈ fo, b ∈ fp) := by
  induction h with
  | nil => intro i o e; simp at e
  | non h ih =>
    intro i o e
    cases i with
    | zero => simp at e
    | succ i => simpa using ih (i := i) (by simpa using e)
  | @som v o' σ' env' fp1 fps h1 h2 ih =>
    intro i o e
    cases i with
    | zero =>
      simp at e; subst e
      exact ⟨v, fp1, rfl, h1, fun b hb => List.mem_append_left _ hb⟩
    | succ i =>
      obtain ⟨v2, fo, a, b, c⟩ := ih (i := i) (by simpa using e)
      exact ⟨v2, fo, by simpa using a, b, fun b hb => List.mem_append_right _ (c b hb)⟩
/-- a slot changed: the rest keeps; fo what stood there, fr the rest (F, H may have moved by a step within fo) -/
theorem EnvAt.put {F H : Hp} {σ : St} {env : Ev} {fp : List Addr} (h : EnvAt K F H σ env fp) : ∀ {i : Nat}, i < env.length → fp.Nodup → ∃ fr fo, (∀ b ∈ fr, b ∈ fp) ∧ (∀ b ∈ fo, b ∈ fp) ∧ fr.Nodup ∧ fo.Nodup ∧ (∀ b ∈ fo, b ∉ fr) ∧
    (∀ o, env[i]? = some (some o) → ∃ v, σ[i]? = some (some v) ∧ OwnAt K F H v o fo) ∧
    ∀ (F' H' : Hp) (fx fy : List Addr), StepS F H fx F' H' fy → (∀ b ∈ fr, b ∉ fx) → (∀ (x : Option V), EnvAt K F' H' (σ.set i x) (env.set i none) fr) ∧ ∀ (v : V) (o : Ow) (fn : List Addr), OwnAt K F' H' v o fn → fn.Nodup → (∀ b ∈ fn, b ∉ fr) → ∃ fp', fp'.Nodup ∧ (∀ b ∈ fp', b ∈ fn ∨ b ∈ fr) ∧ EnvAt K F' H' (σ.set i (some v)) (env.set i (some o)) fp' := by
  induction h with
  | nil => intro i hi; simp at hi
  | @non x σ' env' fps h ih =>
    intro i hi hn
    cases i with
    | zero =>
      refine ⟨fps, [], fun b z => z, (fun b z => nomatch z), hn, List.nodup_nil, fun b z => (nomatch z), fun o e => by simp at e, fun F' H' fx fy s n => ⟨fun x => .non (h.keep s n), fun v o fn ho hd hx => ?_⟩⟩
      refine ⟨fn ++ fps, ?_, fun b hb => List.mem_append.mp hb, .som ho (h.keep s n)⟩
      rw [List.nodup_append]
      exact ⟨hd, hn, fun a ha b hb e => hx a ha (e ▸ hb)⟩
    | succ i =>
      obtain ⟨fr, fo, a1, a2, a3, a3', a4, a5, a6⟩ := ih (i := i) (by simpa using hi) hn
      refine ⟨fr, fo, a1, a2, a3, a3', a4, by simpa using a5, fun F' H' fx fy s n => ⟨fun x => .non ((a6 F' H' fx fy s n).1 x), fun v o fn ho hd hx => ?_⟩⟩
      obtain ⟨fp', b1, b2, b3⟩ := (a6 F' H' fx fy s n).2 v o fn ho hd hx
      exact ⟨fp', b1, b2, .non b3⟩
  | @som v0 o0 σ' env' f1 fps h1 h2 ih =>
    intro i hi hn
    rw [List.nodup_append] at hn
    obtain ⟨n1, n2, n3⟩ := hn
    cases i with
    | zero =>
      refine ⟨fps, f1, fun b z => List.mem_append_right _ z, fun b z => List.mem_append_left _ z, n2, n1, fun b z q => n3 b z b q rfl, fun o e => ?_, fun F' H' fx fy s n => ⟨fun x => .non (h2.keep s n), fun v o fn ho hd hx => ?_⟩⟩
      · simp at e; subst e; exact ⟨v0, rfl, h1⟩
      · refine ⟨fn ++ fps, ?_, fun b hb => List.mem_append.mp hb, .som ho (h2.keep s n)⟩
        rw [List.nodup_append]
        exact ⟨hd, n2, fun a ha b hb e => hx a ha (e ▸ hb)⟩
    | succ i =>
      obtain ⟨fr, fo, a1, a2, a3, a3', a4, a5, a6⟩ := ih (i := i) (by simpa using hi) n2
      have dis : ∀ b ∈ f1, b ∉ fr := fun b z q => n3 b z b (a1 b q) rfl
      have key : ∀ (F' H' : Hp) (fx fy : List Addr), StepS F H fx F' H' fy → (∀ b ∈ f1 ++ fr, b ∉ fx) → OwnAt K F' H' v0 o0 f1 := fun F' H' fx fy s n => OwnAt.keep s _ _ _ h1 fun b hb => n b (List.mem_append_left _ hb)
      refine ⟨f1 ++ fr, fo, fun b z => ?_, fun b z => List.mem_append_right _ (a2 b z), ?_, a3', fun b z q => ?_, by simpa using a5, fun F' H' fx fy s n => ⟨fun x => .som (key F' H' fx fy s n) ((a6 F' H' fx fy s fun b hb => n b (List.mem_append_right _ hb)).1 x), fun v o fn ho hd hx => ?_⟩⟩
      · rcases List.mem_append.mp z with z | z
        · exact List.mem_append_left _ z
        · exact List.mem_append_right _ (a1 b z)
      · rw [List.nodup_append]; exact ⟨n1, a3, fun a ha b hb e => dis a ha (e ▸ hb)⟩
      · rcases List.mem_append.mp q with q | q
        · exact n3 b q b (a2 b z) rfl
        · exact a4 b z q
      · obtain ⟨fp', b1, b2, b3⟩ := (a6 F' H' fx fy s fun b hb => n b (List.mem_append_right _ hb)).2 v o fn ho hd fun b hb q => hx b hb (List.mem_append_right _ q)
        have dj : ∀ b ∈ f1, b ∉ fp' := fun b z q => by
          rcases b2 b q with r | r
          · exact hx b r (List.mem_append_left _ z)
          · exact dis b z r
        refine ⟨f1 ++ fp', ?_, fun b hb => ?_, .som (key F' H' fx fy s n) b3⟩
        · rw [List.nodup_append]; exact ⟨n1, b1, fun a ha b hb e => dj a ha (e ▸ hb)⟩
        · rcases List.mem_append.mp hb with r | r
          · exact .inr (List.mem_append_left _ r)
          · exact (b2 b r).imp id (List.mem_append_right _)

structure Sat (K : PySem.W.Frag) (F H : Hp) (σ : St) (env : Ev) (fp : List Addr) : Prop where
  fh : Same F H
  en : EnvAt K F H σ env fp
  nd : fp.Nodup
theorem Sat.ext {F H F' H' : Hp} {σ : St} {env : Ev} {fp : List Addr} (s : Sat K F H σ env fp) (e : Ext F H F' H') : Sat K F' H' σ env fp := ⟨e.fh, s.en.ext e, s.nd⟩
end
end Mir
end
set_option Elab.async false
set_option linter.all false
set_option maxRecDepth 100000
set_option maxHeartbeats 4000000
noncomputable section
namespace Mir
open PySem PySem.Spec L2

/-! ### outcomes of pure expressions -/
def Post (X : Cx) (W : WX) {α β : Type} (P : Hp → α → β → Hp → Hp → Prop) (F H : Hp) (σ : L2.St) : R α → (β → Hp → Prop) → Prop
  | .no, _ => False
  | .ok a, Q => ∀ v F' H', Ext F H F' H' → P H a v F' H' → Q v H'
  | .ex c, _ => ∀ C F' H', X.mg c = some (.ref C) → Ext F H F' H' → W (.ref C) none σ H'
class Anti {α β : Type} (P : Hp → α → β → Hp → Hp → Prop) : Prop where
  anti : ∀ {H H1 : Hp} {a : α} {v : β} {F' H' : Hp}, Same H H1 → P H1 a v F' H' → P H a v F' H'
def PVw (K : PySem.W.Frag) (_ : Hp) (d : D) (v : V) (_ H' : Hp) : Prop := Dp K H' v d
def PFz (K : PySem.W.Frag) (_ : Hp) (d : D) (v : V) (F' _ : Hp) : Prop := Dp K F' v d
def POw (K : PySem.W.Frag) (H : Hp) (r : Ow) (v : V) (F' H' : Hp) : Prop := ∃ fp, OwnAt K F' H' v r fp ∧ fp.Nodup ∧ ∀ b ∈ fp, H b = none
/-- a list or tuple whose items are frozen, though it may itself change; other data -/
def PSq (K : PySem.W.Frag) (_ : Hp) (d : D) (v : V) (F' H' : Hp) : Prop := match d with
  | .list ds => ∃ a vs, v = .ref a ∧ SqL K H' a vs ∧ DpAll K F' vs ds
  | d => Dp K F' v d
def PTb (_ : Hp) (b : Bool) (v : Bool) (_ _ : Hp) : Prop := v = b
def PAv (K : PySem.W.Frag) (_ : Hp) (ds : List D) (vs : List V) (_ H' : Hp) : Prop := DpAll K H' vs ds
def PAf (K : PySem.W.Frag) (_ : Hp) (ds : List D) (vs : List V) (F' _ : Hp) : Prop := DpAll K F' vs ds
variable {K : PySem.W.Frag}
instance : Anti (PVw K) := ⟨fun _ h => h⟩
instance : Anti (PFz K) := ⟨fun _ h => h⟩
instance : Anti (PSq K) := ⟨fun {_ _ _ _ _ _} _ h => h⟩
instance : Anti PTb := ⟨fun _ h => h⟩
instance : Anti (PAv K) := ⟨fun _ h => h⟩
instance : Anti (PAf K) := ⟨fun _ h => h⟩
instance : Anti (POw K) := ⟨fun s ⟨fp, a, b, c⟩ => ⟨fp, a, b, fun x hx => s.free (c x hx)⟩⟩

/-- the semantics: t (a reading) is implied by the mirror f -/
def Sm (X : Cx) (W : WX) {α β : Type} (P : Hp → α → β → Hp → Hp → Prop) (t : L2.St → Hp → (β → Hp → Prop) → Prop) (f : Ev → R α) : Prop :=
  ∀ F H σ env fp Q, Sat X.K F H σ env fp → Post X W P F H σ (f env) Q → t σ H Q
section
variable {X : Cx} {W : WX} {α β γ δ : Type}
theorem Post.ext {P : Hp → α → β → Hp → Hp → Prop} [Anti P] {F H F1 H1 : Hp} {σ : L2.St} {r : R α} {Q : β → Hp → Prop} (h : Post X W P F H σ r Q) (e : Ext F H F1 H1) : Post X W P F1 H1 σ r Q := by
  cases r with
  | no => exact h
  | ok a => exact fun v F' H' e' p => h v F' H' (e.trans e') (Anti.anti e.hh p)
  | ex c => exact fun C F' H' m e' => h C F' H' m (e.trans e')
/-- evaluate one part, go on -/
theorem Sm.go {P : Hp → α → β → Hp → Hp → Prop} {P2 : Hp → γ → δ → Hp → Hp → Prop} [Anti P2] {t : L2.St → Hp → (β → Hp → Prop) → Prop} {f : Ev → R α} (s : Sm X W P t f) {g : α → R γ} {F H : Hp} {σ : L2.St} {env : Ev} {fp : List Addr} {Q : δ → Hp → Prop} {T : β → Hp → Prop}
    (sat : Sat X.K F H σ env fp) (h : Post X W P2 F H σ ((f env).bind g) Q) (k : ∀ a v F1 H1, Sat X.K F1 H1 σ env fp → P H a v F1 H1 → Ext F H F1 H1 → Post X W P2 F1 H1 σ (g a) Q → T v H1) : t σ H T := by
  refine s F H σ env fp T sat ?_
  cases e : f env with
  | no => rw [e] at h; exact h
  | ok a =>
    rw [e] at h
    exact fun v F' H' x p => k a v F' H' (sat.ext x) p x (Post.ext (show Post X W P2 F H σ (g a) Q from h) x)
  | ex c => rw [e] at h; exact h
theorem Post.thru {β' : Type} {P : Hp → α → β → Hp → Hp → Prop} {P2 : Hp → γ → β' → Hp → Hp → Prop} {F H : Hp} {σ : L2.St} {r : R α} {g : α → R γ} {Q : β → Hp → Prop} {Q2 : β' → Hp → Prop} (h : Post X W P2 F H σ (r.bind g) Q2)
    (k : ∀ a, r = .ok a → Post X W P2 F H σ (g a) Q2 → ∀ v F' H', Ext F H F' H' → P H a v F' H' → Q v H') : Post X W P F H σ r Q := by
  cases r with
  | no => exact h
  | ok a => exact k a rfl h
  | ex c => exact h
theorem Sm.map {P : Hp → α → β → Hp → Hp → Prop} {P2 : Hp → γ → β → Hp → Hp → Prop} {t : L2.St → Hp → (β → Hp → Prop) → Prop} {f : Ev → R α} (s : Sm X W P t f) {g : α → R γ} (k : ∀ H a v F' H', Same F' H' → P H a v F' H' → ∃ c, g a = .ok c ∧ P2 H c v F' H') :
    Sm X W P2 t fun env => (f env).bind g := by
  intro F H σ env fp Q sat h
  refine s F H σ env fp Q sat (Post.thru h fun a _ h' v F' H' x p => ?_)
  obtain ⟨c, hc, q⟩ := k H a v F' H' x.fh p
  rw [hc] at h'
  exact h' v F' H' x q
end

def eB {α β : Type} (f : Ev → R α) (g : α → R β) (env : Ev) : R β := (f env).bind g
def eM {α β : Type} (f : Ev → R α) (g : α → β) (env : Ev) : R β := (f env).map g

/-! ### judgements -/
section
variable (X : Cx) (W : WX)
def DV (e : Expr) (f : Ev → R D) : Prop := ∃ t, PE X e t ∧ Sm X W (PVw X.K) t f
def DF (e : Expr) (f : Ev → R D) : Prop := ∃ t, PE X e t ∧ Sm X W (PFz X.K) t f
def DE (e : Expr) (f : Ev → R Ow) : Prop := ∃ t, PE X e t ∧ Sm X W (POw X.K) t f
def DL (e : Expr) (f : Ev → R D) : Prop := ∃ t, PE X e t ∧ Sm X W (PSq X.K) t f
def DT (e : Expr) (f : Ev → R Bool) : Prop := ∃ t, PT X e t ∧ Sm X W PTb t f
def DW (e : Expr) (f : Ev → R Bool) : Prop := ∃ t, PW X e t ∧ Sm X W PTb t f
def DAv (es : List Expr) (f : Ev → R (List D)) : Prop := ∃ t, PA X es t ∧ Sm X W (PAv X.K) t f
def DA (es : List Expr) (f : Ev → R (List D)) : Prop := ∃ t, PA X es t ∧ Sm X W (PAf X.K) t f
end
def unD : Ow → Option D
  | .d x => some x
  | .l _ => none
def unDs : List Ow → Option (List D)
  | [] => some []
  | o :: os => (unD o).bind fun x => (unDs os).map fun xs => x :: xs
@[simp] theorem unDs_map : ∀ ds : List D, unDs (ds.map Ow.d) = some ds
  | [] => rfl
  | d :: ds => by simp [unDs, unD, unDs_map ds]
theorem unDs_eq : ∀ {os : List Ow} {ds : List D}, unDs os = some ds → os = ds.map Ow.d
  | [], ds, h => by simp [unDs] at h; subst h; rfl
  | .d x :: os, ds, h => by
    simp only [unDs, unD, Option.bind_some, Option.map_eq_some_iff] at h
    obtain ⟨xs, h1, h2⟩ := h
    subst h2
    rw [unDs_eq h1]; rfl
  | .l _ :: os, ds, h => by simp [unDs, unD] at h
def shD : Ow → R D
  | .d x => .ok x
  | .l os => match unDs os with
    | some ds => .ok (.list ds)
    | none => .no
@[simp] theorem shD_d (x : D) : shD (.d x) = .ok x := rfl
@[simp] theorem shD_l (ds : List D) : shD (.l (ds.map Ow.d)) = .ok (.list ds) := by simp [shD]
@[simp] theorem shD_nil : shD (.l []) = .ok (.list []) := rfl
theorem OwnAll.dp {F H : Hp} : ∀ {ds : List D} {vs : List V} {fp : List Addr}, OwnAll K F H vs (ds.map Ow.d) fp → DpAll K F vs ds ∧ fp = []
  | [], _, _, h => by cases h; exact ⟨.nil, rfl⟩
  | d :: ds, _, _, h => by
    cases h with
    | cons h1 h2 =>
      cases h1 with
      | d q =>
        obtain ⟨a, b⟩ := OwnAll.dp (ds := ds) h2
        exact ⟨.cons q a, by rw [b]; rfl⟩
theorem OwnAll.of_dp {F H : Hp} : ∀ {ds : List D} {vs : List V}, DpAll K F vs ds → OwnAll K F H vs (ds.map Ow.d) []
  | [], _, h => by cases h; exact .nil
  | d :: ds, _, h => by
    cases h with
    | cons h1 h2 => exact .cons (fp := []) (.d h1) (OwnAll.of_dp h2)
theorem PSq.of {F H : Hp} {v : V} {d : D} {H0 : Hp} (s : Same F H) (h : Dp K F v d) : PSq K H0 d v F H := by
  cases d with
  | list ds =>
    cases h with
    | lst hs ha => exact ⟨_, _, rfl, s.seq hs, ha⟩
  | _ => exact h
theorem PSq.view {F H : Hp} {v : V} {d : D} {H0 : Hp} (s : Same F H) (h : PSq K H0 d v F H) : Dp K H v d := by
  cases d with
  | list ds =>
    obtain ⟨a, vs, rfl, h1, h2⟩ := h
    exact .lst h1 (dpaUp h2 s)
  | _ => exact dpUp (show Dp K F v _ from h) s
theorem PSq.ext {F H F1 H1 : Hp} {v : V} {d : D} {H0 H2 : Hp} (e : Ext F H F1 H1) (h : PSq K H0 d v F H) : PSq K H2 d v F1 H1 := by
  cases d with
  | list ds =>
    obtain ⟨a, vs, rfl, h1, h2⟩ := h
    exact ⟨_, _, rfl, e.hh.seq h1, dpaUp h2 e.ff⟩
  | _ => exact dpUp (show Dp K F v _ from h) e.ff
theorem own_seq {F H : Hp} {v : V} {o : Ow} {fp : List Addr} {d : D} {H0 : Hp} (s : Same F H) (h : OwnAt K F H v o fp) (e : shD o = .ok d) : PSq K H0 d v F H := by
  cases o with
  | d x =>
    cases h with
    | d p =>
      cases e
      exact .of s p
  | l os =>
    cases h with
    | l h1 h2 h3 =>
      have e' : (match unDs os with | some ds => (R.ok (.list ds) : R D) | none => .no) = .ok d := e
      clear e
      cases u : unDs os with
      | none => rw [u] at e'; cases e'
      | some ds =>
        rw [u] at e'
        cases e'
        rw [unDs_eq u] at h3
        exact ⟨_, _, rfl, SqL.of h2, (OwnAll.dp h3).1⟩
theorem shD_ex (o : Ow) (c : Str) : shD o ≠ .ex c := fun e => by
  cases o with
  | d x => cases e
  | l os =>
    have e' : (match unDs os with | some ds => (R.ok (.list ds) : R D) | none => .no) = .ex c := e
    split at e' <;> cases e'
theorem shD_ok {X : Cx} {W : WX} {β : Type} {P : Hp → D → β → Hp → Hp → Prop} {F H : Hp} {σ : L2.St} {o : Ow} {Q : β → Hp → Prop} (h : Post X W P F H σ (shD o) Q) : ∃ r, shD o = .ok r := by
  cases e2 : shD o with
  | no => rw [e2] at h; exact h.elim
  | ex c => exact absurd e2 (shD_ex o c)
  | ok r => exact ⟨r, rfl⟩
section
variable {X : Cx} {W : WX} {e a b : Expr} {es : List Expr} {pos : Pos}
/-! ### from one form to another -/
theorem dv_df {f : Ev → R D} (h : DF X W e f) : DV X W e f := by
  obtain ⟨t, p, s⟩ := h
  refine ⟨t, p, fun F H σ env fp Q sat h => s F H σ env fp Q sat ?_⟩
  cases e : f env with
  | no => rw [e] at h; exact h
  | ex c => rw [e] at h; exact h
  | ok d => rw [e] at h; exact fun v F' H' x q => h v F' H' x (dpUp q x.fh)
theorem dv_de {f : Ev → R Ow} (h : DE X W e f) : DV X W e (eM f viewD) := by
  obtain ⟨t, p, s⟩ := h
  refine ⟨t, p, Sm.map s fun H o v F' H' sm ⟨fp, q, _⟩ => ⟨viewD o, rfl, OwnAt.view sm o v fp q⟩⟩
theorem de_df {f : Ev → R D} (h : DF X W e f) : DE X W e (eM f Ow.d) := by
  obtain ⟨t, p, s⟩ := h
  refine ⟨t, p, Sm.map s fun H d v F' H' sm q => ⟨.d d, rfl, [], .d q, List.nodup_nil, fun b z => nomatch z⟩⟩
theorem df_de {f : Ev → R Ow} (h : DE X W e f) : DF X W e (eM f viewD) := by
  obtain ⟨t, p, s⟩ := h
  refine ⟨t, p, fun F H σ env fp Q sat h => s F H σ env fp Q sat (Post.thru h fun d _ h' v F' H' x ⟨fp, q, _, n⟩ => ?_)⟩
  obtain ⟨F2, x2, q2⟩ := x.freeze q n
  exact h' v F2 H' x2 q2
theorem dl_df {f : Ev → R D} (h : DF X W e f) : DL X W e f := by
  obtain ⟨t, p, s⟩ := h
  refine ⟨t, p, fun F H σ env fp Q sat h => s F H σ env fp Q sat ?_⟩
  cases e : f env with
  | no => rw [e] at h; exact h
  | ex c => rw [e] at h; exact h
  | ok d => rw [e] at h; exact fun v F' H' x q => h v F' H' x (.of x.fh q)
theorem dl_de {f : Ev → R Ow} (h : DE X W e f) : DL X W e (eB f shD) := by
  obtain ⟨t, p, s⟩ := h
  refine ⟨t, p, fun F H σ env fp Q sat h => s F H σ env fp Q sat (Post.thru h fun d _ h' v F' H' x ⟨fp, q, _, n⟩ => ?_)⟩
  obtain ⟨r, e2⟩ := shD_ok h'
  rw [e2] at h'
  exact h' v F' H' x (own_seq x.fh q e2)
theorem dv_dl {f : Ev → R D} (h : DL X W e f) : DV X W e f := by
  obtain ⟨t, p, s⟩ := h
  refine ⟨t, p, fun F H σ env fp Q sat h => s F H σ env fp Q sat ?_⟩
  cases e : f env with
  | no => rw [e] at h; exact h
  | ex c => rw [e] at h; exact h
  | ok d => rw [e] at h; exact fun v F' H' x q => h v F' H' x (q.view x.fh)

/-! ### names and constants -/
def eVar (i : Nat) (env : Ev) : R D := match env[i]? with
  | some (some (.d x)) => .ok x
  | _ => .no
def eVarO (i : Nat) (env : Ev) : R Ow := match env[i]? with
  | some (some o) => .ok o
  | _ => .no
theorem eVar_ok {P : Hp → D → V → Hp → Hp → Prop} {F H : Hp} {σ : L2.St} {i : Nat} {env : Ev} {Q : VK} (h : Post X W P F H σ (eVar i env) Q) : ∃ d, env[i]? = some (some (.d d)) ∧ eVar i env = .ok d := by
  unfold eVar at h ⊢
  split at h
  · rename_i d he
    exact ⟨d, he, rfl⟩
  · exact h.elim
theorem eVarO_ok {γ : Type} {P : Hp → γ → V → Hp → Hp → Prop} {F H : Hp} {σ : L2.St} {i : Nat} {env : Ev} {Q : VK} {g : Ow → R γ} (h : Post X W P F H σ ((eVarO i env).bind g) Q) : ∃ d, env[i]? = some (some d) ∧ eVarO i env = .ok d ∧ Post X W P F H σ (g d) Q := by
  unfold eVarO at h ⊢
  cases e : env[i]? with
  | none => rw [e] at h; exact h.elim
  | some o =>
    cases o with
    | none => rw [e] at h; exact h.elim
    | some o => rw [e] at h; exact ⟨o, rfl, rfl, h⟩
theorem df_var (i : Nat) {x : Str} (hN : X.N[i]? = some x := by rfl) (hv : Vis X.env.scope x := by first | exact Or.inl rfl | exact Or.inr (Or.inl rfl) | exact Or.inr (Or.inr rfl)) (hd : (x == ("__debug__" : Str)) = false := by decide)
    (hcd : (x == ("__classdict__" : Str)) = false := by decide) : DF X W (.Name x pos) (eVar i) := by
  refine ⟨_, pe_var hN hv hd hcd, fun F H σ env fp Q sat h => ?_⟩
  obtain ⟨d, he, e2⟩ := eVar_ok h
  rw [e2] at h
  obtain ⟨v, fo, h1, h2, _⟩ := sat.en.get he
  cases h2 with
  | d q => exact ⟨v, h1, h v F H (.refl sat.fh) q⟩
theorem dv_var (i : Nat) {x : Str} (hN : X.N[i]? = some x := by rfl) (hv : Vis X.env.scope x := by first | exact Or.inl rfl | exact Or.inr (Or.inl rfl) | exact Or.inr (Or.inr rfl)) (hd : (x == ("__debug__" : Str)) = false := by decide)
    (hcd : (x == ("__classdict__" : Str)) = false := by decide) : DV X W (.Name x pos) (eM (eVarO i) viewD) := by
  refine ⟨_, pe_var hN hv hd hcd, fun F H σ env fp Q sat h => ?_⟩
  obtain ⟨o, he, _, h⟩ := eVarO_ok h
  obtain ⟨v, fo, h1, h2, _⟩ := sat.en.get he
  exact ⟨v, h1, h v F H (.refl sat.fh) (OwnAt.view sat.fh _ _ _ h2)⟩
theorem dl_var (i : Nat) {x : Str} (hN : X.N[i]? = some x := by rfl) (hv : Vis X.env.scope x := by first | exact Or.inl rfl | exact Or.inr (Or.inl rfl) | exact Or.inr (Or.inr rfl)) (hd : (x == ("__debug__" : Str)) = false := by decide)
    (hcd : (x == ("__classdict__" : Str)) = false := by decide) : DL X W (.Name x pos) (eB (eVarO i) shD) := by
  refine ⟨_, pe_var hN hv hd hcd, fun F H σ env fp Q sat h => ?_⟩
  obtain ⟨o, he, _, h⟩ := eVarO_ok h
  obtain ⟨v, fo, h1, h2, _⟩ := sat.en.get he
  obtain ⟨r, e2⟩ := shD_ok h
  rw [e2] at h
  exact ⟨v, h1, h v F H (.refl sat.fh) (own_seq sat.fh h2 e2)⟩
def eC (d : D) (_ : Ev) : R D := .ok d
theorem df_int {i j} : DF X W (.Constant (.int i) j pos) (eC (.int i)) := ⟨_, pe_int, fun F H σ env fp Q sat h => h _ F H (.refl sat.fh) (.int i)⟩
theorem df_bl {i j} : DF X W (.Constant (.bool i) j pos) (eC (.bool i)) := ⟨_, pe_bl, fun F H σ env fp Q sat h => h _ F H (.refl sat.fh) (.bl i)⟩
theorem df_non {j} : DF X W (.Constant .none j pos) (eC .none) := ⟨_, pe_non, fun F H σ env fp Q sat h => h _ F H (.refl sat.fh) .non⟩
theorem df_str {i j} : DF X W (.Constant (.str i) j pos) (eC (.str i)) := ⟨_, pe_str, fun F H σ env fp Q sat h => h _ F H (.refl sat.fh) (.str i)⟩
/-- a text constant of the module's top -/
theorem df_gstr {x : Str} {z : Str} {u : Value} (hg : Gl X x) (hm : X.mg x = some u) (r : RelV (.str z) u) (hd : (x == ("__debug__" : Str)) = false := by decide) : DF X W (.Name x pos) (eC (.str z)) :=
  ⟨_, pe_glob hg hm r hd, fun F H σ env fp Q sat h => h _ F H (.refl sat.fh) (.str z)⟩
theorem df_gint {x : Str} {z : Int} {u : Value} (hg : Gl X x) (hm : X.mg x = some u) (r : RelV (.int z) u) (hd : (x == ("__debug__" : Str)) = false := by decide) : DF X W (.Name x pos) (eC (.int z)) :=
  ⟨_, pe_glob hg hm r hd, fun F H σ env fp Q sat h => h _ F H (.refl sat.fh) (.int z)⟩

/-! ### argument lists -/
def aNil (_ : Ev) : R (List D) := .ok []
def aCons (f : Ev → R D) (g : Ev → R (List D)) (env : Ev) : R (List D) := (f env).bind fun d => (g env).map fun ds => d :: ds
theorem da_nil : DA X W [] aNil := ⟨_, pa_nil, fun F H σ env fp Q sat h => h _ F H (.refl sat.fh) .nil⟩
theorem da_cons {f : Ev → R D} {g : Ev → R (List D)} (hf : DF X W e f) (hg : DA X W es g) (hs : starEach (e :: es) X.env = (false, eval e X.env) :: starEach es X.env := by rfl) : DA X W (e :: es) (aCons f g) := by
  obtain ⟨t, p, s⟩ := hf
  obtain ⟨t', p', s'⟩ := hg
  refine ⟨_, pa_cons p p' hs, fun F H σ env fp Q sat h => ?_⟩
  refine s.go sat h fun d v F1 H1 sat1 q _ h1 => ?_
  refine s'.go sat1 h1 fun ds vs F2 H2 sat2 q' x2 h2 => ?_
  exact h2 _ F2 H2 (.refl sat2.fh) (.cons (dpUp q x2.ff) q')
theorem dav_nil : DAv X W [] aNil := ⟨_, pa_nil, fun F H σ env fp Q sat h => h _ F H (.refl sat.fh) .nil⟩
theorem dav_cons {f : Ev → R D} {g : Ev → R (List D)} (hf : DV X W e f) (hg : DAv X W es g) (hs : starEach (e :: es) X.env = (false, eval e X.env) :: starEach es X.env := by rfl) : DAv X W (e :: es) (aCons f g) := by
  obtain ⟨t, p, s⟩ := hf
  obtain ⟨t', p', s'⟩ := hg
  refine ⟨_, pa_cons p p' hs, fun F H σ env fp Q sat h => ?_⟩
  refine s.go sat h fun d v F1 H1 sat1 q _ h1 => ?_
  refine s'.go sat1 h1 fun ds vs F2 H2 sat2 q' x2 h2 => ?_
  exact h2 _ F2 H2 (.refl sat2.fh) (.cons (dpUp q x2.hh) q')
/-! ### displays -/
def eTup (f : Ev → R (List D)) (env : Ev) : R D := (f env).bind fun ds => guard (ds.length ≤ sizeLine) (.ok (.tuple ds))
def eLst (f : Ev → R (List D)) (env : Ev) : R Ow := (f env).bind fun ds => guard (ds.length ≤ sizeLine) (.ok (.l (ds.map Ow.d)))
theorem guard_post {P : Hp → α → β → Hp → Hp → Prop} {F H : Hp} {σ : L2.St} {c : Prop} {r : R α} {Q : β → Hp → Prop} (h : Post X W P F H σ (guard c r) Q) : c ∧ Post X W P F H σ r Q := by
  unfold guard at h
  split at h
  · exact ⟨‹_›, h⟩
  · exact h.elim
theorem df_tup {x1} {f : Ev → R (List D)} (hf : DA X W es f) : DF X W (.Tuple es x1 pos) (eTup f) := by
  obtain ⟨t, p, s⟩ := hf
  refine ⟨_, pe_tup p, fun F H σ env fp Q sat h => ?_⟩
  refine s.go sat h fun ds vs F1 H1 sat1 q _ h1 => ?_
  obtain ⟨hl, h2⟩ := guard_post h1
  refine ⟨by rw [DpAll.len q]; exact hl, fun p hp => ?_⟩
  have x := Ext.frz sat1.fh hp (.tup vs)
  exact h2 _ _ _ x (.tup (SqT.of upd_same) (dpaUp q x.ff))
theorem de_lst {f : Ev → R (List D)} (hf : DA X W es f) : DE X W (.List es pos) (eLst f) := by
  obtain ⟨t, p, s⟩ := hf
  refine ⟨_, pe_lst p, fun F H σ env fp Q sat h => ?_⟩
  refine s.go sat h fun ds vs F1 H1 sat1 q _ h1 => ?_
  obtain ⟨hl, h2⟩ := guard_post h1
  refine ⟨by rw [DpAll.len q]; exact hl, fun p hp => ?_⟩
  have x := Ext.own sat1.fh hp (.lst vs)
  exact h2 _ _ _ x ⟨[p], .l (free_of sat1.fh hp) upd_same (OwnAll.of_dp q), by simp, by simpa using hp⟩

/-! ### operators on scalars -/
def R.of {α : Type} : Option α → R α
  | some a => .ok a
  | none => .no
@[simp] theorem R.of_some (a : α) : R.of (some a) = .ok a := rfl
@[simp] theorem R.of_none : R.of (none : Option α) = .no := rfl
/-- data in, flat data out, the heap as it was -/
def OpS (K : PySem.W.Frag) (r : R2) (g : D → D → Option D) : Prop := ∀ H x y dx dy d Q, Dp K H x dx → Dp K H y dy → g dx dy = some d → (∀ v, (∀ F, Dp K F v d) → Q v H) → r x y H Q
def eBin (g : D → D → Option D) (f h : Ev → R D) (env : Ev) : R D := (f env).bind fun x => (h env).bind fun y => R.of (g x y)
theorem post_of {P : Hp → α → β → Hp → Hp → Prop} {F H : Hp} {σ : L2.St} {o : Option α} {Q : β → Hp → Prop} (h : Post X W P F H σ (R.of o) Q) : ∃ a, o = some a ∧ ∀ v F' H', Ext F H F' H' → P H a v F' H' → Q v H' := by
  cases o with
  | none => exact h.elim
  | some a => exact ⟨a, rfl, h⟩
theorem op_sm {r : R2} {g : D → D → Option D} (hs : OpS X.K r g) {ta tb : TE} {f h : Ev → R D} (sa : Sm X W (PVw X.K) ta f) (sb : Sm X W (PVw X.K) tb h) : Sm X W (PFz X.K) (tOp r ta tb) (eBin g f h) := by
  intro F H σ env fp Q sat hp
  refine sa.go sat hp fun d v F1 H1 sat1 q _ h1 => ?_
  refine sb.go sat1 h1 fun d' v' F2 H2 sat2 q' x2 h2 => ?_
  obtain ⟨z, hz, h3⟩ := post_of h2
  exact hs H2 v v' d d' z Q (dpUp q x2.hh) q' hz fun u hu => h3 u F2 H2 (.refl sat2.fh) (hu _)
theorem df_bin {op : Operator} {r : R2} {g : D → D → Option D} (ho : OpR X (binaryOp op) r) (hs : OpS X.K r g) {f h : Ev → R D} (ha : DV X W a f) (hb : DV X W b h) : DF X W (.BinOp a op b pos) (eBin g f h) := by
  obtain ⟨ta, pa, sa⟩ := ha
  obtain ⟨tb, pb, sb⟩ := hb
  exact ⟨_, pe_op ho pa pb, op_sm hs sa sb⟩
theorem df_cmp {op : CmpOp} {r : R2} {g : D → D → Option D} (ho : OpR X (compareOp op) r) (hs : OpS X.K r g) {f h : Ev → R D} (ha : DV X W a f) (hb : DV X W b h) (hm : behindInMarks op b = false := by first | exact nomark _ | rfl) :
    DF X W (.Compare a [op] [b] pos) (eBin g f h) := by
  obtain ⟨ta, pa, sa⟩ := ha
  obtain ⟨tb, pb, sb⟩ := hb
  exact ⟨_, pe_cmpR ho pa pb hm, op_sm hs sa sb⟩
def asB : D → R Bool
  | .bool b => .ok b
  | _ => .no
@[simp] theorem asB_bool (b : Bool) : asB (.bool b) = .ok b := rfl
theorem tb_sm {t : TE} {f : Ev → R D} (s : Sm X W (PVw X.K) t f) : Sm X W PTb (fun σ H Q => t σ H fun x H' => ∃ k, x = .bl k ∧ Q k H') (eB f asB) := by
  intro F H σ env fp Q sat hp
  refine s.go sat hp fun d v F1 H1 sat1 q _ h1 => ?_
  cases d with
  | bool b =>
    cases q
    exact ⟨b, rfl, h1 b F1 H1 (.refl sat1.fh) rfl⟩
  | _ => exact h1.elim
theorem dt_cmp {op : CmpOp} {r : R2} {g : D → D → Option D} (ho : OpR X (compareOp op) r) (hs : OpS X.K r g) {f h : Ev → R D} (ha : DV X W a f) (hb : DV X W b h) (hm : behindInMarks op b = false := by first | exact nomark _ | rfl) :
    DT X W (.Compare a [op] [b] pos) (eB (eBin g f h) asB) := by
  obtain ⟨ta, pa, sa⟩ := ha
  obtain ⟨tb, pb, sb⟩ := hb
  refine ⟨_, pt_cmpR ho pa pb hm, tb_sm ?_⟩
  intro F H σ env fp Q sat hp
  refine op_sm hs sa sb F H σ env fp Q sat ?_
  cases e : eBin g f h env with
  | no => rw [e] at hp; exact hp
  | ex c => rw [e] at hp; exact hp
  | ok d => rw [e] at hp; exact fun v F' H' x q => hp v F' H' x (dpUp q x.fh)
theorem dt_val {f : Ev → R D} (h : DV X W e f) (he : ∀ whole, isTrue e X.env whole = (do let v ← whole; standAt e.pos; holding [v] (truthy v)) := by intro _; rfl) : DT X W e (eB f asB) := by
  obtain ⟨t, p, s⟩ := h
  exact ⟨_, pt_val p he, tb_sm s⟩
def tNotE (f : Ev → R Bool) (env : Ev) : R Bool := (f env).map (!·)
theorem dt_not {f : Ev → R Bool} (h : DT X W a f) : DT X W (.UnaryOp .Not a pos) (tNotE f) := by
  obtain ⟨t, p, s⟩ := h
  refine ⟨_, pt_not p, fun F H σ env fp Q sat hp => ?_⟩
  refine s.go sat hp fun b v F1 H1 sat1 q _ h1 => ?_
  obtain rfl : v = b := q
  exact h1 _ F1 H1 (.refl sat1.fh) rfl
def tAndE (f g : Ev → R Bool) (env : Ev) : R Bool := (f env).bind fun b => if b = true then g env else .ok false
def tOrE (f g : Ev → R Bool) (env : Ev) : R Bool := (f env).bind fun b => if b = true then .ok true else g env
theorem dw_and1 {f : Ev → R Bool} (h : DT X W a f) : DW X W (.BoolOp .And [a] pos) f := by
  obtain ⟨t, p, s⟩ := h
  exact ⟨_, pw_and1 p, s⟩
theorem dw_or1 {f : Ev → R Bool} (h : DT X W a f) : DW X W (.BoolOp .Or [a] pos) f := by
  obtain ⟨t, p, s⟩ := h
  exact ⟨_, pw_or1 p, s⟩
theorem dw_and {rest : List Expr} {f g : Ev → R Bool} (h : DT X W a f) (h2 : DW X W (.BoolOp .And (b :: rest) pos) g) : DW X W (.BoolOp .And (a :: b :: rest) pos) (tAndE f g) := by
  obtain ⟨t, p, s⟩ := h
  obtain ⟨t', p', s'⟩ := h2
  refine ⟨_, pw_and p p', fun F H σ env fp Q sat hp => ?_⟩
  refine s.go sat hp fun b v F1 H1 sat1 q _ h1 => ?_
  obtain rfl : v = b := q
  cases v with
  | true => exact s' F1 H1 σ env fp Q sat1 h1
  | false => exact h1 false F1 H1 (.refl sat1.fh) rfl
theorem dw_or {rest : List Expr} {f g : Ev → R Bool} (h : DT X W a f) (h2 : DW X W (.BoolOp .Or (b :: rest) pos) g) : DW X W (.BoolOp .Or (a :: b :: rest) pos) (tOrE f g) := by
  obtain ⟨t, p, s⟩ := h
  obtain ⟨t', p', s'⟩ := h2
  refine ⟨_, pw_or p p', fun F H σ env fp Q sat hp => ?_⟩
  refine s.go sat hp fun b v F1 H1 sat1 q _ h1 => ?_
  obtain rfl : v = b := q
  cases v with
  | false => exact s' F1 H1 σ env fp Q sat1 h1
  | true => exact h1 true F1 H1 (.refl sat1.fh) rfl
theorem dt_dw {f : Ev → R Bool} (h : DW X W a f) : DT X W a f := by
  obtain ⟨t, p, s⟩ := h
  exact ⟨_, p.pt, s⟩
/-! and, or, not as values (bools) -/
def eAnd (f g : Ev → R D) (env : Ev) : R D := ((f env).bind asB).bind fun b => if b = true then g env else .ok (.bool false)
def eOr (f g : Ev → R D) (env : Ev) : R D := ((f env).bind asB).bind fun b => if b = true then .ok (.bool true) else g env
def eNot (f : Ev → R D) (env : Ev) : R D := ((f env).bind asB).bind fun b => .ok (.bool !b)
theorem R.bind_assoc {α β γ : Type} (r : R α) (f : α → R β) (g : β → R γ) : (r.bind f).bind g = r.bind fun a => (f a).bind g := by cases r <;> rfl
theorem df_one {op} {f : Ev → R D} (h : DF X W a f) : DF X W (.BoolOp op [a] pos) f := by
  obtain ⟨t, p, s⟩ := h
  exact ⟨_, pe_one p, s⟩
theorem df_and {rest : List Expr} {f g : Ev → R D} (h : DV X W a f) (h2 : DF X W (.BoolOp .And (b :: rest) pos) g) : DF X W (.BoolOp .And (a :: b :: rest) pos) (eAnd f g) := by
  obtain ⟨t, p, s⟩ := h
  obtain ⟨t', p', s'⟩ := h2
  refine ⟨_, pe_and p p', fun F H σ env fp Q sat hp => ?_⟩
  unfold eAnd at hp
  rw [R.bind_assoc] at hp
  refine s.go sat hp fun d v F1 H1 sat1 q _ h1 => ?_
  cases d with
  | bool b =>
    cases q
    refine ⟨b, rfl, ?_⟩
    cases b with
    | true => exact s' F1 H1 σ env fp Q sat1 h1
    | false => exact h1 _ F1 H1 (.refl sat1.fh) (.bl false)
  | _ => exact h1.elim
theorem df_or {rest : List Expr} {f g : Ev → R D} (h : DV X W a f) (h2 : DF X W (.BoolOp .Or (b :: rest) pos) g) : DF X W (.BoolOp .Or (a :: b :: rest) pos) (eOr f g) := by
  obtain ⟨t, p, s⟩ := h
  obtain ⟨t', p', s'⟩ := h2
  refine ⟨_, pe_or p p', fun F H σ env fp Q sat hp => ?_⟩
  unfold eOr at hp
  rw [R.bind_assoc] at hp
  refine s.go sat hp fun d v F1 H1 sat1 q _ h1 => ?_
  cases d with
  | bool b =>
    cases q
    refine ⟨b, rfl, ?_⟩
    cases b with
    | false => exact s' F1 H1 σ env fp Q sat1 h1
    | true => exact h1 _ F1 H1 (.refl sat1.fh) (.bl true)
  | _ => exact h1.elim
theorem df_not {f : Ev → R D} (h : DV X W a f) : DF X W (.UnaryOp .Not a pos) (eNot f) := by
  obtain ⟨t, p, s⟩ := h
  refine ⟨_, pe_not p, fun F H σ env fp Q sat hp => ?_⟩
  unfold eNot at hp
  rw [R.bind_assoc] at hp
  refine s.go sat hp fun d v F1 H1 sat1 q _ h1 => ?_
  cases d with
  | bool b =>
    cases q
    exact ⟨b, rfl, h1 _ F1 H1 (.refl sat1.fh) (.bl _)⟩
  | _ => exact h1.elim
def eIf (c : Ev → R Bool) (f g : Ev → R D) (env : Ev) : R D := (c env).bind fun b => if b = true then f env else g env
theorem df_if {c : Expr} {fc : Ev → R Bool} {f g : Ev → R D} (hc : DT X W c fc) (ha : DF X W a f) (hb : DF X W b g) : DF X W (.IfExp c a b pos) (eIf fc f g) := by
  obtain ⟨t, p, s⟩ := hc
  obtain ⟨ta, pa, sa⟩ := ha
  obtain ⟨tb, pb, sb⟩ := hb
  refine ⟨_, pe_ifExp p pa pb, fun F H σ env fp Q sat hp => ?_⟩
  refine s.go sat hp fun b v F1 H1 sat1 q _ h1 => ?_
  obtain rfl : v = b := q
  cases v with
  | true => exact sa F1 H1 σ env fp Q sat1 h1
  | false => exact sb F1 H1 σ env fp Q sat1 h1
end
end Mir
end
set_option Elab.async false
set_option linter.all false
set_option maxRecDepth 100000
set_option maxHeartbeats 4000000
noncomputable section
namespace Mir
open PySem PySem.Spec L2

section
variable {K : PySem.W.Frag}
/-! ### what data at hand tells of values -/
theorem dp_int {H : Hp} {v : V} {i : Int} (h : Dp K H v (.int i)) : v = .int i := by cases h; rfl
theorem dp_str {H : Hp} {v : V} {z : Str} (h : Dp K H v (.str z)) : v = .str z := by cases h; rfl
theorem dp_bool {H : Hp} {v : V} {z : Bool} (h : Dp K H v (.bool z)) : v = .bl z := by cases h; rfl
theorem dp_none {H : Hp} {v : V} (h : Dp K H v .none) : v = .non := by cases h; rfl
theorem dp_tup {H : Hp} {v : V} {ds : List D} (h : Dp K H v (.tuple ds)) : ∃ a vs, v = .ref a ∧ SqT K H a vs ∧ DpAll K H vs ds := by cases h with | tup a b => exact ⟨_, _, rfl, a, b⟩
theorem dp_lst {H : Hp} {v : V} {ds : List D} (h : Dp K H v (.list ds)) : ∃ a vs, v = .ref a ∧ SqL K H a vs ∧ DpAll K H vs ds := by cases h with | lst a b => exact ⟨_, _, rfl, a, b⟩

/-! ### whole numbers -/
open Classical in
def gI (C : Int → Int → Prop) (f : Int → Int → Int) : D → D → Option D
  | .int i, .int j => if C i j then some (.int (f i j)) else none
  | _, _ => none
def gI0 (f : Int → Int → Int) : D → D → Option D
  | .int i, .int j => some (.int (f i j))
  | _, _ => none
def gIB (f : Int → Int → Bool) : D → D → Option D
  | .int i, .int j => some (.bool (f i j))
  | _, _ => none
theorem opS_I {C : Int → Int → Prop} {f : Int → Int → Int} : OpS K (rI C fun i j => .int (f i j)) (gI C f) := by
  intro H x y dx dy d Q hx hy e q
  unfold gI at e
  split at e
  · rename_i i j
    split at e
    · rename_i c
      cases e
      cases dp_int hx
      cases dp_int hy
      exact ⟨i, j, rfl, rfl, c, q _ fun _ => .int _⟩
    · cases e
  · cases e
theorem opS_I0 {f : Int → Int → Int} : OpS K (rI0 fun i j => .int (f i j)) (gI0 f) := by
  intro H x y dx dy d Q hx hy e q
  unfold gI0 at e
  split at e
  · cases e
    cases dp_int hx
    cases dp_int hy
    exact ⟨_, _, rfl, rfl, q _ fun _ => .int _⟩
  · cases e
theorem opS_IB {f : Int → Int → Bool} : OpS K (rI0 fun i j => .bl (f i j)) (gIB f) := by
  intro H x y dx dy d Q hx hy e q
  unfold gIB at e
  split at e
  · cases e
    cases dp_int hx
    cases dp_int hy
    exact ⟨_, _, rfl, rfl, q _ fun _ => .bl _⟩
  · cases e
def gSub := gI0 fun i j => i - j
def gMul := gI (fun i j => CMul i j ∨ CMulW i j) fun i j => i * j
def gDiv := gI CDivW fun i j => i / j
def gMod := gI (fun _ j => 0 < j) fun i j => i % j
def gPow := gI CPow fun i j => i ^ j.toNat
def gLt := gIB fun i j => decide (i < j)
def gLe := gIB fun i j => decide (i ≤ j)
def gGt := gIB fun i j => decide (j < i)
def gGe := gIB fun i j => decide (j ≤ i)
@[simp] theorem gSub_int (i j : Int) : gSub (.int i) (.int j) = some (.int (i - j)) := rfl
theorem gMul_int {i j : Int} (h : CMulW i j) : gMul (.int i) (.int j) = some (.int (i * j)) := if_pos (.inr h)
theorem gMul_by {i j : Int} (h1 : -(2 ^ 64) < j) (h2 : j < 2 ^ 64) : gMul (.int i) (.int j) = some (.int (i * j)) := if_pos (.inl (.inr ⟨h1, h2⟩))
theorem gDiv_int {i j : Int} (h : CDivW i j) : gDiv (.int i) (.int j) = some (.int (i / j)) := if_pos h
theorem gMod_int {i j : Int} (h : 0 < j) : gMod (.int i) (.int j) = some (.int (i % j)) := if_pos h
theorem gPow_int {i j : Int} (h : CPow i j) : gPow (.int i) (.int j) = some (.int (i ^ j.toNat)) := if_pos h
@[simp] theorem gLt_int (i j : Int) : gLt (.int i) (.int j) = some (.bool (decide (i < j))) := rfl
@[simp] theorem gLe_int (i j : Int) : gLe (.int i) (.int j) = some (.bool (decide (i ≤ j))) := rfl
@[simp] theorem gGt_int (i j : Int) : gGt (.int i) (.int j) = some (.bool (decide (j < i))) := rfl
@[simp] theorem gGe_int (i j : Int) : gGe (.int i) (.int j) = some (.bool (decide (j ≤ i))) := rfl
end

section
variable {X : Cx} {W : WX} {e a b : Expr} {es : List Expr} {pos : Pos} {f g : Ev → R D}
theorem df_sub (ha : DV X W a f) (hb : DV X W b g) : DF X W (.BinOp a .Sub b pos) (eBin gSub f g) := df_bin op_sub opS_I0 ha hb
theorem op_mulV : OpR X (binaryOp .Mult) (rI (fun i j => CMul i j ∨ CMulW i j) fun i j => .int (i * j)) := by
  intro pins s σ H x y v u Q I rx ry h
  obtain ⟨i, j, e1, e2, c, q⟩ := h
  rcases c with c | c
  · exact op_mul pins s σ H x y v u Q I rx ry ⟨i, j, e1, e2, c, q⟩
  · exact op_mulW pins s σ H x y v u Q I rx ry ⟨i, j, e1, e2, c, q⟩
theorem df_mul (ha : DV X W a f) (hb : DV X W b g) : DF X W (.BinOp a .Mult b pos) (eBin gMul f g) := df_bin op_mulV opS_I ha hb
theorem df_div (ha : DV X W a f) (hb : DV X W b g) : DF X W (.BinOp a .FloorDiv b pos) (eBin gDiv f g) := df_bin op_fdivW opS_I ha hb
theorem df_mod (ha : DV X W a f) (hb : DV X W b g) : DF X W (.BinOp a .Mod b pos) (eBin gMod f g) := df_bin op_mod opS_I ha hb
theorem df_pow (ha : DV X W a f) (hb : DV X W b g) : DF X W (.BinOp a .Pow b pos) (eBin gPow f g) := df_bin op_pow opS_I ha hb
theorem df_lt (ha : DV X W a f) (hb : DV X W b g) : DF X W (.Compare a [.Lt] [b] pos) (eBin gLt f g) := df_cmp op_lt opS_IB ha hb
theorem df_le (ha : DV X W a f) (hb : DV X W b g) : DF X W (.Compare a [.LtE] [b] pos) (eBin gLe f g) := df_cmp op_le opS_IB ha hb
theorem df_gt (ha : DV X W a f) (hb : DV X W b g) : DF X W (.Compare a [.Gt] [b] pos) (eBin gGt f g) := df_cmp op_gt opS_IB ha hb
theorem df_ge (ha : DV X W a f) (hb : DV X W b g) : DF X W (.Compare a [.GtE] [b] pos) (eBin gGe f g) := df_cmp op_ge opS_IB ha hb
theorem dt_lt (ha : DV X W a f) (hb : DV X W b g) : DT X W (.Compare a [.Lt] [b] pos) (eB (eBin gLt f g) asB) := dt_cmp op_lt opS_IB ha hb
theorem dt_le (ha : DV X W a f) (hb : DV X W b g) : DT X W (.Compare a [.LtE] [b] pos) (eB (eBin gLe f g) asB) := dt_cmp op_le opS_IB ha hb
theorem dt_gt (ha : DV X W a f) (hb : DV X W b g) : DT X W (.Compare a [.Gt] [b] pos) (eB (eBin gGt f g) asB) := dt_cmp op_gt opS_IB ha hb
theorem dt_ge (ha : DV X W a f) (hb : DV X W b g) : DT X W (.Compare a [.GtE] [b] pos) (eB (eBin gGe f g) asB) := dt_cmp op_ge opS_IB ha hb
def gNeg : D → R D
  | .int i => .ok (.int (-i))
  | _ => .no
theorem df_neg (ha : DV X W a f) : DF X W (.UnaryOp .USub a pos) (eB f gNeg) := by
  obtain ⟨t, p, s⟩ := ha
  refine ⟨_, pe_un un_neg p, fun F H σ env fp Q sat hp => ?_⟩
  refine s.go sat hp fun d v F1 H1 sat1 q _ h1 => ?_
  cases d with
  | int i => cases dp_int q; exact ⟨i, rfl, h1 _ F1 H1 (.refl sat1.fh) (.int _)⟩
  | _ => exact h1.elim

/-! ### == and != at any depth, is None -/
def scalD : D → Bool
  | .none => true
  | .bool _ => true
  | .int _ => true
  | .str _ => true
  | _ => false
/-- a bool beside an int is left to the deep rule -/
def scal2 : D → D → Bool
  | .bool _, .int _ => false
  | .int _, .bool _ => false
  | a, b => scalD a && scalD b
def eqOk (a b : D) : Bool := a.canLay0 && b.canLay0 && decide (a.depth ≤ 130)
def gEq (a b : D) : Option D := if (scal2 a b || eqOk a b) = true then some (.bool (PyData.eqv a b)) else none
def gNe (a b : D) : Option D := if (scal2 a b || eqOk a b) = true then some (.bool (!PyData.eqv a b)) else none
def rEqA (K : PySem.W.Frag) (neg : Bool) : R2 := fun x y H Q => ∃ d e, Dp K H x d ∧ Dp K H y e ∧ eqOk d e = true ∧ Q (.bl (if neg then !PyData.eqv d e else PyData.eqv d e)) H
theorem eqOk_cases {a b : D} (h : eqOk a b = true) : a.canLay0 = true ∧ b.canLay0 = true ∧ a.depth ≤ 130 := by
  unfold eqOk at h
  simp only [Bool.and_eq_true, decide_eq_true_eq] at h
  exact ⟨h.1.1, h.1.2, h.2⟩
theorem op_eqA (hu : X.A.units + 140 < cLine) : OpR X (compareOp .Eq) (rEqA X.K false) := by
  intro pins s σ H x y v u Q I rx ry h
  obtain ⟨d, e, hd, he, sd, q⟩ := h
  obtain ⟨as, r1⟩ := Dp.reads I d x v hd rx
  obtain ⟨bs, r2⟩ := Dp.reads I e y u he ry
  obtain ⟨c1, c2, c3⟩ := eqOk_cases sd
  exact SeqAt.compareEq_reads r1 r2 c1 c2 (by have := Nat.min_le_left d.depth e.depth; omega) ⟨.bl _, H, I, rfl, q⟩
theorem op_neA (hu : X.A.units + 140 < cLine) : OpR X (compareOp .NotEq) (rEqA X.K true) := by
  intro pins s σ H x y v u Q I rx ry h
  obtain ⟨d, e, hd, he, sd, q⟩ := h
  obtain ⟨as, r1⟩ := Dp.reads I d x v hd rx
  obtain ⟨bs, r2⟩ := Dp.reads I e y u he ry
  obtain ⟨c1, c2, c3⟩ := eqOk_cases sd
  exact SeqAt.compareNe_reads r1 r2 c1 c2 (by have := Nat.min_le_left d.depth e.depth; omega) ⟨.bl _, H, I, rfl, q⟩
theorem scal_dp {K : PySem.W.Frag} {H : Hp} {x y : V} {a b : D} (ha : Dp K H x a) (hb : Dp K H y b) (h : scal2 a b = true) : scal x y = true ∧ decide (x = y) = PyData.eqv a b := by
  cases a <;> cases b <;> first
    | (cases h; done)
    | (cases ha; cases hb; refine ⟨rfl, ?_⟩; simp [PyData.eqv]; try rfl)
    | (cases ha; cases hb; refine ⟨rfl, ?_⟩; simp [PyData.eqv, dec_int, dec_bl, dec_str])
theorem opS_eq {K : PySem.W.Frag} : OpS K (fun x y H Q => rEq x y H Q ∨ rEqA K false x y H Q) gEq := by
  intro H x y dx dy d Q hx hy e q
  unfold gEq at e
  split at e
  · rename_i c
    cases e
    cases c1 : scal2 dx dy with
    | true =>
      obtain ⟨h1, h2⟩ := scal_dp hx hy c1
      exact .inl ⟨h1, by rw [h2]; exact q _ fun _ => .bl _⟩
    | false =>
      rw [c1, Bool.false_or] at c
      exact .inr ⟨dx, dy, hx, hy, c, q _ fun _ => .bl _⟩
  · cases e
theorem opS_ne {K : PySem.W.Frag} : OpS K (fun x y H Q => rNe x y H Q ∨ rEqA K true x y H Q) gNe := by
  intro H x y dx dy d Q hx hy e q
  unfold gNe at e
  split at e
  · rename_i c
    cases e
    cases c1 : scal2 dx dy with
    | true =>
      obtain ⟨h1, h2⟩ := scal_dp hx hy c1
      exact .inl ⟨h1, by rw [h2]; exact q _ fun _ => .bl _⟩
    | false =>
      rw [c1, Bool.false_or] at c
      exact .inr ⟨dx, dy, hx, hy, c, q _ fun _ => .bl _⟩
  · cases e
theorem df_eq (hu : X.A.units + 140 < cLine) (ha : DV X W a f) (hb : DV X W b g) : DF X W (.Compare a [.Eq] [b] pos) (eBin gEq f g) := df_cmp (OpR.or op_eq (op_eqA hu)) opS_eq ha hb
theorem df_ne (hu : X.A.units + 140 < cLine) (ha : DV X W a f) (hb : DV X W b g) : DF X W (.Compare a [.NotEq] [b] pos) (eBin gNe f g) := df_cmp (OpR.or op_ne (op_neA hu)) opS_ne ha hb
theorem dt_eq (hu : X.A.units + 140 < cLine) (ha : DV X W a f) (hb : DV X W b g) : DT X W (.Compare a [.Eq] [b] pos) (eB (eBin gEq f g) asB) := dt_cmp (OpR.or op_eq (op_eqA hu)) opS_eq ha hb
theorem dt_ne (hu : X.A.units + 140 < cLine) (ha : DV X W a f) (hb : DV X W b g) : DT X W (.Compare a [.NotEq] [b] pos) (eB (eBin gNe f g) asB) := dt_cmp (OpR.or op_ne (op_neA hu)) opS_ne ha hb
def isNone : D → Bool
  | .none => true
  | _ => false
def gIs (_ : D → D → Option D) : D → D → Option D
  | x, .none => some (.bool (isNone x))
  | _, _ => none
def gIsN : D → D → Option D
  | x, .none => some (.bool (isNone x))
  | _, _ => none
def gNotN : D → D → Option D
  | x, .none => some (.bool (!isNone x))
  | _, _ => none
@[simp] theorem gIsN_none (x : D) : gIsN x .none = some (.bool (isNone x)) := by cases x <;> rfl
@[simp] theorem gNotN_none (x : D) : gNotN x .none = some (.bool (!isNone x)) := by cases x <;> rfl
theorem isNone_dp {K : PySem.W.Frag} {H : Hp} {x : V} {d : D} (h : Dp K H x d) : decide (x = .non) = isNone d := by
  cases h <;> first | rfl | (simp [isNone]; done)
theorem opS_isN {K : PySem.W.Frag} : OpS K (fun x y H Q => y = .non ∧ Q (.bl (decide (x = .non))) H) gIsN := by
  intro H x y dx dy d Q hx hy e q
  cases dy with
  | none =>
    rw [gIsN_none] at e
    cases e
    exact ⟨dp_none hy, by rw [isNone_dp hx]; exact q _ fun _ => .bl _⟩
  | _ => cases dx <;> cases e
theorem opS_notN {K : PySem.W.Frag} : OpS K (fun x y H Q => y = .non ∧ Q (.bl (!decide (x = .non))) H) gNotN := by
  intro H x y dx dy d Q hx hy e q
  cases dy with
  | none =>
    rw [gNotN_none] at e
    cases e
    exact ⟨dp_none hy, by rw [isNone_dp hx]; exact q _ fun _ => .bl _⟩
  | _ => cases dx <;> cases e
theorem df_isN (ha : DV X W a f) (hb : DV X W b g) : DF X W (.Compare a [.Is] [b] pos) (eBin gIsN f g) := df_cmp op_isN opS_isN ha hb
theorem df_notN (ha : DV X W a f) (hb : DV X W b g) : DF X W (.Compare a [.IsNot] [b] pos) (eBin gNotN f g) := df_cmp op_notN opS_notN ha hb
theorem dt_isN (ha : DV X W a f) (hb : DV X W b g) : DT X W (.Compare a [.Is] [b] pos) (eB (eBin gIsN f g) asB) := dt_cmp op_isN opS_isN ha hb
theorem dt_notN (ha : DV X W a f) (hb : DV X W b g) : DT X W (.Compare a [.IsNot] [b] pos) (eB (eBin gNotN f g) asB) := dt_cmp op_notN opS_notN ha hb

/-! ### + of numbers, texts, tuples, lists -/
def gAdd : D → D → Option Ow
  | .int i, .int j => some (.d (.int (i + j)))
  | .str x, .str y => if x.length + y.length ≤ sizeLine then some (.d (.str (x ++ y))) else none
  | .tuple xs, .tuple ys => if xs.length + ys.length ≤ sizeLine then some (.d (.tuple (xs ++ ys))) else none
  | .list xs, .list ys => if xs.length + ys.length ≤ sizeLine then some (.l ((xs ++ ys).map Ow.d)) else none
  | _, _ => none
@[simp] theorem gAdd_int (i j : Int) : gAdd (.int i) (.int j) = some (.d (.int (i + j))) := rfl
theorem gAdd_str {x y : Str} (h : x.length + y.length ≤ sizeLine) : gAdd (.str x) (.str y) = some (.d (.str (x ++ y))) := if_pos h
theorem gAdd_tup {xs ys : List D} (h : xs.length + ys.length ≤ sizeLine) : gAdd (.tuple xs) (.tuple ys) = some (.d (.tuple (xs ++ ys))) := if_pos h
theorem gAdd_lst {xs ys : List D} (h : xs.length + ys.length ≤ sizeLine) : gAdd (.list xs) (.list ys) = some (.l ((xs ++ ys).map Ow.d)) := if_pos h
def rCatL (K : PySem.W.Frag) : R2 := fun x y H Q => ∃ a b xs ys, x = .ref a ∧ y = .ref b ∧ SqL K H a xs ∧ SqL K H b ys ∧ xs.length + ys.length ≤ sizeLine ∧ ∀ p, H p = none → Q (.ref p) (upd H p (.lst (xs ++ ys)))
theorem op_catL : OpR X (binaryOp .Add) (rCatL X.K) := by
  intro pins s σ H x y v u Q I rx ry h
  obtain ⟨l, b, xs, zs, rfl, rfl, hH, hB, hz, q⟩ := h
  cases rx
  cases ry
  obtain ⟨its, r, pl, hl⟩ := I.list hH
  obtain ⟨its2, r2, pl2, hl2⟩ := I.list hB
  obtain ⟨⟨c1, d1, t1, s1⟩, g1, k1, n1, m1⟩ := pl.isList
  obtain ⟨⟨c2, d2, t2, s2⟩, g2, k2, n2, m2⟩ := pl2.isList
  simp only at k1 m1 k2 m2
  subst k1 m1 k2 m2
  refine PySem.concat_meets ⟨_, g1, rfl⟩ ⟨_, g2, rfl⟩ PySem.noFill_list_add PySem.seq_list_add PySem.F.slot_list_add PySem.F.entry_list_add (PySem.F.args_list_add_2 _ _)
    (PyProof.Rows.list_addW l b its.toArray its2.toArray n1 n2 d1 d2 s1 s2 (by rw [List.size_toArray, List.size_toArray, ← r.length, ← r2.length]; exact hz)) ⟨g1, g2, ?_⟩
  have ea : its.toArray ++ its2.toArray = (its ++ its2).toArray := by simp
  rw [ea]
  exact ⟨.ref _, _, I.lnew (t' := s.toks) (r.append r2) (by rw [List.length_append]; omega), rfl, q _ I.fresh⟩
abbrev rAddAll (K : PySem.W.Frag) : R2 := fun x y H Q => rI0 (fun i j => .int (i + j)) x y H Q ∨ (fun x y H Q => (∃ i j, x = V.str i ∧ y = V.str j ∧ i.length + j.length ≤ sizeLine ∧ Q (.str (i ++ j)) H) ∨ (fun x y H Q => rCatA K x y H Q ∨ rCatL K x y H Q) x y H Q) x y H Q
theorem op_addAll : OpR X (binaryOp .Add) (rAddAll X.K) := OpR.or op_add (OpR.or op_add_str (OpR.or op_catA op_catL))
def eBinO (g : D → D → Option Ow) (f h : Ev → R D) (env : Ev) : R Ow := (f env).bind fun x => (h env).bind fun y => R.of (g x y)
/-- two operands with frozen items, a new value -/
def OpG (K : PySem.W.Frag) (r : R2) (g : D → D → Option Ow) : Prop := ∀ F H x y dx dy o Q, Same F H → PSq K H dx x F H → PSq K H dy y F H → g dx dy = some o → (∀ v F' H', Ext F H F' H' → POw K H o v F' H' → Q v H') → r x y H Q
theorem opG_sm {r : R2} {g : D → D → Option Ow} (hs : OpG X.K r g) {ta tb : TE} {f h : Ev → R D} (sa : Sm X W (PSq X.K) ta f) (sb : Sm X W (PSq X.K) tb h) : Sm X W (POw X.K) (tOp r ta tb) (eBinO g f h) := by
  intro F H σ env fp Q sat hp
  refine sa.go sat hp fun d v F1 H1 sat1 q _ h1 => ?_
  refine sb.go sat1 h1 fun d' v' F2 H2 sat2 q' x2 h2 => ?_
  obtain ⟨z, hz, h3⟩ := post_of h2
  exact hs F2 H2 v v' d d' z Q sat2.fh (q.ext x2) q' hz h3
theorem de_bin {op : Operator} {r : R2} {g : D → D → Option Ow} (ho : OpR X (binaryOp op) r) (hs : OpG X.K r g) {f h : Ev → R D} (ha : DL X W a f) (hb : DL X W b h) : DE X W (.BinOp a op b pos) (eBinO g f h) := by
  obtain ⟨ta, pa, sa⟩ := ha
  obtain ⟨tb, pb, sb⟩ := hb
  exact ⟨_, pe_op ho pa pb, opG_sm hs sa sb⟩
theorem own_d {K : PySem.W.Frag} {H0 F H : Hp} {v : V} {d : D} (h : Dp K F v d) : POw K H0 (.d d) v F H := ⟨[], .d h, List.nodup_nil, fun _ z => nomatch z⟩
theorem own_l {K : PySem.W.Frag} {F H : Hp} {p : Addr} {vs : List V} {ds : List D} (s : Same F H) (hp : H p = none) (h : DpAll K F vs ds) : POw K H (.l (ds.map Ow.d)) (.ref p) F (upd H p (.lst vs)) :=
  ⟨[p], .l (free_of s hp) upd_same (OwnAll.of_dp h), by simp, by simpa using hp⟩
theorem opG_add {K : PySem.W.Frag} : OpG K (rAddAll K) gAdd := by
  intro F H x y dx dy o Q s hx hy e q
  unfold gAdd at e
  split at e
  · cases e
    cases dp_int hx
    cases dp_int hy
    exact .inl ⟨_, _, rfl, rfl, q _ _ _ (.refl s) (own_d (.int _))⟩
  · split at e
    · cases e
      cases dp_str hx
      cases dp_str hy
      exact .inr (.inl ⟨_, _, rfl, rfl, ‹_›, q _ _ _ (.refl s) (own_d (.str _))⟩)
    · cases e
  · split at e
    · rename_i xs ys c
      cases e
      obtain ⟨a, vs, rfl, h1, h2⟩ := dp_tup hx
      obtain ⟨b, ws, rfl, g1, g2⟩ := dp_tup hy
      refine .inr (.inr (.inl ⟨a, b, vs, ws, rfl, rfl, SqT_mono s h1, SqT_mono s g1, by rw [DpAll.len h2, DpAll.len g2]; exact c, fun e0 => ?_, fun n0 e0 => ?_, fun n0 n1 p hp => ?_⟩))
      · have l := DpAll.len h2
        rw [e0] at l
        have z : xs = [] := List.length_eq_zero_iff.mp l.symm
        subst z
        exact q _ _ _ (.refl s) (own_d hy)
      · have l := DpAll.len g2
        rw [e0] at l
        have z : ys = [] := List.length_eq_zero_iff.mp l.symm
        subst z
        rw [List.append_nil] at q
        exact q _ _ _ (.refl s) (own_d hx)
      · have x := Ext.frz s hp (.tup (vs ++ ws))
        exact q _ _ _ x (own_d (.tup (SqT.of upd_same) (dpaUp (DpAll.append h2 g2) x.ff)))
    · cases e
  · split at e
    · rename_i xs ys c
      cases e
      obtain ⟨a, vs, rfl, h1, h2⟩ := hx
      obtain ⟨b, ws, rfl, g1, g2⟩ := hy
      refine .inr (.inr (.inr ⟨a, b, vs, ws, rfl, rfl, h1, g1, by rw [DpAll.len h2, DpAll.len g2]; exact c, fun p hp => ?_⟩))
      exact q _ _ _ (Ext.own s hp _) (own_l s hp (DpAll.append h2 g2))
    · cases e
  · cases e
theorem de_add (ha : DL X W a f) (hb : DL X W b g) : DE X W (.BinOp a .Add b pos) (eBinO gAdd f g) := de_bin op_addAll opG_add ha hb
end
end Mir
end
set_option Elab.async false
set_option linter.all false
set_option maxRecDepth 100000
set_option maxHeartbeats 4000000
noncomputable section
namespace Mir
open PySem PySem.Spec L2

section
variable {X : Cx} {W : WX} {e a b : Expr} {es : List Expr} {pos : Pos} {f g : Ev → R D}
/-! ### items and slices -/
theorem ixN_len {m n : Nat} {i : Int} (h : m = n) : ixN m i = ixN n i := by rw [h]
theorem atI_dp {K : PySem.W.Frag} {F : Hp} {vs : List V} {ds : List D} {i : Int} {d : D} (h : DpAll K F vs ds) (e : atI ds i = some d) : ∃ v, atI vs i = some v ∧ Dp K F v d := by
  unfold atI at e ⊢
  rw [DpAll.len h]
  cases q : ixN ds.length i with
  | none => rw [q] at e; cases e
  | some j =>
    rw [q] at e
    exact DpAll.get h e
def gIx : D → D → Option D
  | .list ds, .int i => atI ds i
  | .tuple ds, .int i => atI ds i
  | .str z, .int i => if z.length ≤ sizeLine then (atI z.cps.toList i).map fun c => .str ⟨#[c]⟩ else none
  | _, _ => none
@[simp] theorem gIx_list (ds : List D) (i : Int) : gIx (.list ds) (.int i) = atI ds i := rfl
@[simp] theorem gIx_tup (ds : List D) (i : Int) : gIx (.tuple ds) (.int i) = atI ds i := rfl
theorem df_ix (ha : DL X W a f) (hb : DV X W b g) (hs : PlainIx b := by exact fun _ _ => rfl) : DF X W (.Subscript a b pos) (eBin gIx f g) := by
  obtain ⟨ta, pa, sa⟩ := ha
  obtain ⟨tb, pb, sb⟩ := hb
  refine ⟨_, pe_ix ix_seq pa pb hs, fun F H σ env fp Q sat hp => ?_⟩
  refine sa.go sat hp fun d v F1 H1 sat1 q _ h1 => ?_
  refine sb.go sat1 h1 fun d' v' F2 H2 sat2 q' x2 h2 => ?_
  obtain ⟨z, hz, h3⟩ := post_of h2
  unfold gIx at hz
  split at hz
  · rename_i ds i
    cases dp_int q'
    obtain ⟨p, vs, rfl, p1, p2⟩ := q
    obtain ⟨w, w1, w2⟩ := atI_dp p2 hz
    exact .inl ⟨p, vs, i, w, rfl, rfl, x2.hh.seq p1, w1, h3 _ _ _ (.refl sat2.fh) (dpUp w2 x2.ff)⟩
  · rename_i ds i
    cases dp_int q'
    obtain ⟨p, vs, rfl, p1, p2⟩ := dp_tup q
    obtain ⟨w, w1, w2⟩ := atI_dp p2 hz
    exact .inr (.inl ⟨p, vs, i, w, rfl, rfl, SqT_mono (x2.ff.trans sat2.fh) p1, w1, h3 _ _ _ (.refl sat2.fh) (dpUp w2 x2.ff)⟩)
  · split at hz
    · rename_i zz i c
      cases dp_int q'
      cases dp_str q
      obtain ⟨cc, c1, c2⟩ := Option.map_eq_some_iff.mp hz
      subst c2
      exact .inr (.inr ⟨_, _, cc, rfl, rfl, c, c1, h3 _ _ _ (.refl sat2.fh) (.str _)⟩)
    · cases hz
  · cases hz
/-- a slice's part -/
def DO (X : Cx) (W : WX) (e : Option Expr) (f : Ev → R (Option Int)) : Prop := ∃ t, PO X e t ∧ Sm X W (fun _ a v _ _ => v = a) t f
instance : Anti (fun (_ : Hp) (a v : Option Int) (_ _ : Hp) => v = a) := ⟨fun _ h => h⟩
def oNone (_ : Ev) : R (Option Int) := .ok none
def asI : D → R (Option Int)
  | .int i => .ok (some i)
  | _ => .no
@[simp] theorem asI_int (i : Int) : asI (.int i) = .ok (some i) := rfl
theorem do_none : DO X W none oNone := ⟨_, po_none, fun F H σ env fp Q sat hp => hp none F H (.refl sat.fh) rfl⟩
theorem do_some (h : DV X W e f) : DO X W (some e) (eB f asI) := by
  obtain ⟨t, p, s⟩ := h
  refine ⟨_, po_some p, fun F H σ env fp Q sat hp => ?_⟩
  refine s.go sat hp fun d v F1 H1 sat1 q _ h1 => ?_
  cases d with
  | int i => cases dp_int q; exact ⟨i, rfl, h1 _ F1 H1 (.refl sat1.fh) rfl⟩
  | _ => exact h1.elim
def cutL {α : Type} (xs : List α) (lo hi : Option Int) : List α := (xs.drop (HT.sIx xs.length 0 lo)).take (HT.sIx xs.length xs.length hi - HT.sIx xs.length 0 lo)
theorem cutL_dp {K : PySem.W.Frag} {F : Hp} {vs : List V} {ds : List D} {lo hi : Option Int} (h : DpAll K F vs ds) : DpAll K F (cutV vs lo hi) (cutL ds lo hi) := by
  unfold cutV cutL
  rw [DpAll.len h]
  exact DpAll.take _ (DpAll.drop _ h)
def gSl : D → Option Int → Option Int → Option Ow
  | .list ds, lo, hi => some (.l ((cutL ds lo hi).map Ow.d))
  | .tuple ds, lo, hi => some (.d (.tuple (cutL ds lo hi)))
  | .str z, lo, hi => if z.length ≤ sizeLine then some (.d (.str (cutS z lo hi))) else none
  | _, _, _ => none
@[simp] theorem gSl_list (ds : List D) (lo hi : Option Int) : gSl (.list ds) lo hi = some (.l ((cutL ds lo hi).map Ow.d)) := rfl
@[simp] theorem gSl_tup (ds : List D) (lo hi : Option Int) : gSl (.tuple ds) lo hi = some (.d (.tuple (cutL ds lo hi))) := rfl
def eSl (f : Ev → R D) (l h : Ev → R (Option Int)) (env : Ev) : R Ow := (f env).bind fun x => (l env).bind fun i => (h env).bind fun j => R.of (gSl x i j)
theorem de_slice {lo hi : Option Expr} {l h : Ev → R (Option Int)} {p2 : Pos} (ha : DL X W a f) (hl : DO X W lo l) (hh : DO X W hi h) : DE X W (.Subscript a (.Slice lo hi none p2) pos) (eSl f l h) := by
  obtain ⟨ta, pa, sa⟩ := ha
  obtain ⟨tl, pl, sl⟩ := hl
  obtain ⟨th, ph, sh⟩ := hh
  refine ⟨_, pe_slice (SlR.or sl_list (SlR.or sl_tupA sl_str)) pa pl ph, fun F H σ env fp Q sat hp => ?_⟩
  refine sa.go sat hp fun d v F1 H1 sat1 q _ h1 => ?_
  refine sl.go sat1 h1 fun i i' F2 H2 sat2 q' x2 h2 => ?_
  obtain rfl : i' = i := q'
  refine sh.go sat2 h2 fun j j' F3 H3 sat3 q' x3 h3 => ?_
  obtain rfl : j' = j := q'
  obtain ⟨z, hz, h4⟩ := post_of h3
  have x := x2.trans x3
  unfold gSl at hz
  split at hz
  · cases hz
    obtain ⟨p, vs, rfl, p1, p2⟩ := q
    refine .inl ⟨p, vs, rfl, x.hh.seq p1, fun r hr => ?_⟩
    exact h4 _ _ _ (Ext.own sat3.fh hr _) (own_l sat3.fh hr (cutL_dp (dpaUp p2 x.ff)))
  · cases hz
    obtain ⟨p, vs, rfl, p1, p2⟩ := dp_tup q
    have p3 := DpAll.len p2
    refine .inr (.inl ⟨p, vs, rfl, SqT_mono (x.ff.trans sat3.fh) p1, fun c => ?_, fun _ r hr => ?_⟩)
    · refine h4 _ _ _ (.refl sat3.fh) (own_d ?_)
      rename_i ds
      have e : cutL ds i' j' = ds := by
        unfold cutL
        rw [← p3, c.1, c.2, List.drop_zero, Nat.sub_zero, p3, List.take_length]
      rw [e]
      exact dpUp q x.ff
    · have y := Ext.frz sat3.fh hr (.tup (cutV vs i' j'))
      exact h4 _ _ _ y (own_d (.tup (SqT.of upd_same) (cutL_dp (dpaUp p2 (x.ff.trans y.ff)))))
  · split at hz
    · cases hz
      cases dp_str q
      exact .inr (.inr ⟨_, rfl, ‹_›, h4 _ _ _ (.refl sat3.fh) (own_d (.str _))⟩)
    · cases hz
  · cases hz

/-! ### built-ins by name -/
inductive PSqs (K : PySem.W.Frag) (F H : Hp) : List D → List V → Prop
  | nil : PSqs K F H [] []
  | cons {d : D} {ds : List D} {v : V} {vs : List V} : PSq K H d v F H → PSqs K F H ds vs → PSqs K F H (d :: ds) (v :: vs)
def PAl (K : PySem.W.Frag) (_ : Hp) (ds : List D) (vs : List V) (F' H' : Hp) : Prop := PSqs K F' H' ds vs
instance {K : PySem.W.Frag} : Anti (PAl K) := ⟨fun _ h => h⟩
def DAl (X : Cx) (W : WX) (es : List Expr) (f : Ev → R (List D)) : Prop := ∃ t, PA X es t ∧ Sm X W (PAl X.K) t f
theorem dal_nil : DAl X W [] aNil := ⟨_, pa_nil, fun F H σ env fp Q sat h => h _ F H (.refl sat.fh) .nil⟩
theorem dal_cons {f : Ev → R D} {g : Ev → R (List D)} (hf : DL X W e f) (hg : DAl X W es g) (hs : starEach (e :: es) X.env = (false, eval e X.env) :: starEach es X.env := by rfl) : DAl X W (e :: es) (aCons f g) := by
  obtain ⟨t, p, s⟩ := hf
  obtain ⟨t', p', s'⟩ := hg
  refine ⟨_, pa_cons p p' hs, fun F H σ env fp Q sat h => ?_⟩
  refine s.go sat h fun d v F1 H1 sat1 q _ h1 => ?_
  refine s'.go sat1 h1 fun ds vs F2 H2 sat2 q' x2 h2 => ?_
  exact h2 _ F2 H2 (.refl sat2.fh) (.cons (q.ext x2) q')
def CaG (K : PySem.W.Frag) (r : List V → Hp → VK → Prop) (g : List D → Option Ow) : Prop := ∀ F H vs ds o Q, Same F H → PSqs K F H ds vs → g ds = some o → (∀ v F' H', Ext F H F' H' → POw K H o v F' H' → Q v H') → r vs H Q
def eCa (g : List D → Option Ow) (f : Ev → R (List D)) (env : Ev) : R Ow := (f env).bind fun ds => R.of (g ds)
theorem ca_sm {r : List V → Hp → VK → Prop} {g : List D → Option Ow} {t : TA} {f : Ev → R (List D)} (hs : CaG X.K r g) (s : Sm X W (PAl X.K) t f) : Sm X W (POw X.K) (tCB r t) (eCa g f) := by
  intro F H σ env fp Q sat hp
  refine s.go sat hp fun ds vs F1 H1 sat1 q _ h1 => ?_
  obtain ⟨z, hz, h2⟩ := post_of h1
  exact hs F1 H1 vs ds z Q sat1.fh q hz h2
theorem de_callB {id : String} {r : List V → Hp → VK → Prop} {g : List D → Option Ow} {x : Str} {p : Pos} {f : Ev → R (List D)} (hc : CallR X (.builtin id) r) (hs : CaG X.K r g) (hg : Gl X x) (hm : X.mg x = none) (hv : bootBuiltins x = some (.builtin id)) (ha : DAl X W (e :: es) f)
    (hn : x ≠ "__name__" := by decide) (hdb : (x == ("__debug__" : Str)) = false := by decide)
    (he : starEach (e :: es) X.env = (false, eval e X.env) :: starEach es X.env := by rfl) (hpl : (backTo pos (starEach es X.env)).any (·.1) = false := by rfl) : DE X W (.Call (.Name x p) (e :: es) [] pos) (eCa g f) := by
  obtain ⟨t, pa, s⟩ := ha
  exact ⟨_, pe_callB hc hg hm hv pa hn hdb he hpl, ca_sm hs s⟩
theorem de_callTy {T : String} {r : List V → Hp → VK → Prop} {g : List D → Option Ow} {x : Str} {p : Pos} {f : Ev → R (List D)} (hc : CallR X (.type T) r) (hs : CaG X.K r g) (hg : Gl X x) (hm : X.mg x = none) (hv : bootBuiltins x = some (.type T)) (ha : DAl X W (e :: es) f)
    (hn : x ≠ "__name__" := by decide) (hdb : (x == ("__debug__" : Str)) = false := by decide)
    (he : starEach (e :: es) X.env = (false, eval e X.env) :: starEach es X.env := by rfl) (hpl : (backTo pos (starEach es X.env)).any (·.1) = false := by rfl) : DE X W (.Call (.Name x p) (e :: es) [] pos) (eCa g f) := by
  obtain ⟨t, pa, s⟩ := ha
  exact ⟨_, pe_callTy hc hg hm hv pa hn hdb he hpl, ca_sm hs s⟩
theorem psqs1 {K : PySem.W.Frag} {F H : Hp} {d : D} {vs : List V} (h : PSqs K F H [d] vs) : ∃ v, vs = [v] ∧ PSq K H d v F H := by
  cases h with | cons a b => cases b; exact ⟨_, rfl, a⟩
theorem psqs2 {K : PySem.W.Frag} {F H : Hp} {d d' : D} {vs : List V} (h : PSqs K F H [d, d'] vs) : ∃ v w, vs = [v, w] ∧ PSq K H d v F H ∧ PSq K H d' w F H := by
  cases h with | cons a b => cases b with | cons a' b' => cases b'; exact ⟨_, _, rfl, a, a'⟩
def gLen : List D → Option Ow
  | [.list ds] => some (.d (.int ds.length))
  | [.tuple ds] => some (.d (.int ds.length))
  | [.str z] => if z.length ≤ sizeLine then some (.d (.int z.length)) else none
  | _ => none
@[simp] theorem gLen_list (ds : List D) : gLen [.list ds] = some (.d (.int ds.length)) := rfl
@[simp] theorem gLen_tup (ds : List D) : gLen [.tuple ds] = some (.d (.int ds.length)) := rfl
theorem caG_len {K : PySem.W.Frag} : CaG K (fun xs H Q => ∃ x n, xs = [x] ∧ LenV K x H n ∧ Q (.int n) H) gLen := by
  intro F H vs ds o Q s h e q
  unfold gLen at e
  split at e
  · cases e
    obtain ⟨v, rfl, p, ws, rfl, p1, p2⟩ := psqs1 h
    exact ⟨_, _, rfl, .inl ⟨ws, p1, (DpAll.len p2).symm⟩, q _ _ _ (.refl s) (own_d (.int _))⟩
  · cases e
    obtain ⟨v, rfl, w⟩ := psqs1 h
    obtain ⟨p, ws, rfl, p1, p2⟩ := dp_tup w
    exact ⟨_, _, rfl, .inr ⟨ws, SqT_mono s p1, (DpAll.len p2).symm⟩, q _ _ _ (.refl s) (own_d (.int _))⟩
  · split at e
    · rename_i c
      cases e
      obtain ⟨v, rfl, w⟩ := psqs1 h
      cases dp_str w
      exact ⟨_, _, rfl, ⟨c, rfl⟩, q _ _ _ (.refl s) (own_d (.int _))⟩
    · cases e
  · cases e
def gMax2 : List D → Option Ow
  | [.int i, .int j] => some (.d (.int (if j > i then j else i)))
  | _ => none
def gMin2 : List D → Option Ow
  | [.int i, .int j] => some (.d (.int (if j < i then j else i)))
  | _ => none
@[simp] theorem gMax2_int (i j : Int) : gMax2 [.int i, .int j] = some (.d (.int (if j > i then j else i))) := rfl
@[simp] theorem gMin2_int (i j : Int) : gMin2 [.int i, .int j] = some (.d (.int (if j < i then j else i))) := rfl
theorem caG_max2 {K : PySem.W.Frag} : CaG K (fun xs H Q => ∃ i j, xs = [.int i, .int j] ∧ Q (.int (if j > i then j else i)) H) gMax2 := by
  intro F H vs ds o Q s h e q
  unfold gMax2 at e
  split at e
  · cases e
    obtain ⟨v, w, rfl, h1, h2⟩ := psqs2 h
    cases dp_int h1
    cases dp_int h2
    exact ⟨_, _, rfl, q _ _ _ (.refl s) (own_d (.int _))⟩
  · cases e
theorem caG_min2 {K : PySem.W.Frag} : CaG K (fun xs H Q => ∃ i j, xs = [.int i, .int j] ∧ Q (.int (if j < i then j else i)) H) gMin2 := by
  intro F H vs ds o Q s h e q
  unfold gMin2 at e
  split at e
  · cases e
    obtain ⟨v, w, rfl, h1, h2⟩ := psqs2 h
    cases dp_int h1
    cases dp_int h2
    exact ⟨_, _, rfl, q _ _ _ (.refl s) (own_d (.int _))⟩
  · cases e
def intsD : List D → Option (List Int)
  | [] => some []
  | .int i :: ds => (intsD ds).map fun is => i :: is
  | _ :: _ => none
@[simp] theorem intsD_map : ∀ ns : List Int, intsD (ns.map PyData.int) = some ns
  | [] => rfl
  | n :: ns => by simp [intsD, intsD_map ns]
theorem intsD_eq : ∀ {ds : List D} {ns : List Int}, intsD ds = some ns → ds = ns.map PyData.int
  | [], ns, h => by cases h; rfl
  | d :: ds, ns, h => by
    unfold intsD at h
    split at h
    · rename_i e; cases e
    · rename_i e
      cases e
      obtain ⟨is, h1, h2⟩ := Option.map_eq_some_iff.mp h
      subst h2
      rw [intsD_eq h1]; rfl
    · cases h
theorem PSq.ints {K : PySem.W.Frag} {F H H0 : Hp} {v : V} {ns : List Int} (h : PSq K H0 (.list (ns.map PyData.int)) v F H) : ∃ a, v = .ref a ∧ SqL K H a (ns.map V.int) := by
  obtain ⟨a, vs, rfl, h1, h2⟩ := h
  rw [DpAll.ints _ h2] at h1
  exact ⟨a, rfl, h1⟩
def maxI : List Int → Int
  | [] => 0
  | [a] => a
  | a :: r => max a (maxI r)
theorem maxI_cons (a b : Int) (r : List Int) : maxI (a :: b :: r) = max a (maxI (b :: r)) := rfl
theorem maxI_ge : ∀ {ns : List Int} {y : Int}, y ∈ ns → y ≤ maxI ns
  | [a], y, h => by simp at h; subst h; exact Int.le_refl _
  | a :: b :: r, y, h => by
    rw [maxI_cons]
    rcases List.mem_cons.mp h with e | e
    · omega
    · have := maxI_ge e; omega
theorem maxI_mem : ∀ {ns : List Int}, ns ≠ [] → maxI ns ∈ ns
  | [a], _ => by simp [maxI]
  | a :: b :: r, _ => by
    rw [maxI_cons]
    by_cases h : a ≤ maxI (b :: r)
    · rw [Int.max_eq_right h]; exact List.mem_cons_of_mem _ (maxI_mem (by simp))
    · rw [Int.max_eq_left (by omega)]; exact List.mem_cons_self
def gMaxL : List D → Option Ow
  | [.list ds] => match intsD ds with
    | some (n :: ns) => some (.d (.int (maxI (n :: ns))))
    | _ => none
  | _ => none
theorem caG_maxL {K : PySem.W.Frag} : CaG K (rMax K) gMaxL := by
  intro F H vs ds o Q s h e q
  unfold gMaxL at e
  split at e
  · split at e
    · rename_i ds' _ n ns e2
      cases e
      rw [intsD_eq e2] at h
      obtain ⟨v, rfl, w⟩ := psqs1 h
      obtain ⟨a, rfl, h1⟩ := w.ints
      refine ⟨a, n :: ns, rfl, h1, by simp, fun m hm hy => ?_⟩
      have : m = maxI (n :: ns) := Int.le_antisymm (maxI_ge hm) (hy _ (maxI_mem (by simp)))
      subst this
      exact q _ _ _ (.refl s) (own_d (.int _))
    · cases e
  · cases e
def gSum : List D → Option Ow
  | [.list ds] => (intsD ds).map fun ns => .d (.int ns.sum)
  | _ => none
theorem caG_sum {K : PySem.W.Frag} : CaG K (rSum K) gSum := by
  intro F H vs ds o Q s h e q
  unfold gSum at e
  split at e
  · obtain ⟨ns, e2, rfl⟩ := Option.map_eq_some_iff.mp e
    rw [intsD_eq e2] at h
    obtain ⟨v, rfl, w⟩ := psqs1 h
    obtain ⟨a, rfl, h1⟩ := w.ints
    exact ⟨a, ns, rfl, h1, q _ _ _ (.refl s) (own_d (.int _))⟩
  · cases e
def gList : List D → Option Ow
  | [.list ds] => some (.l (ds.map Ow.d))
  | [.tuple ds] => some (.l (ds.map Ow.d))
  | _ => none
@[simp] theorem gList_list (ds : List D) : gList [.list ds] = some (.l (ds.map Ow.d)) := rfl
@[simp] theorem gList_tup (ds : List D) : gList [.tuple ds] = some (.l (ds.map Ow.d)) := rfl
theorem caG_list {K : PySem.W.Frag} : CaG K (fun xs H Q => ∃ p ys, xs = [.ref p] ∧ (SqL K H p ys ∨ SqT K H p ys) ∧ ∀ l, H l = none → Q (.ref l) (upd H l (.lst ys))) gList := by
  intro F H vs ds o Q s h e q
  unfold gList at e
  split at e
  · cases e
    obtain ⟨v, rfl, p, ws, rfl, p1, p2⟩ := psqs1 h
    exact ⟨p, ws, rfl, .inl p1, fun l hl => q _ _ _ (Ext.own s hl _) (own_l s hl p2)⟩
  · cases e
    obtain ⟨v, rfl, w⟩ := psqs1 h
    obtain ⟨p, ws, rfl, p1, p2⟩ := dp_tup w
    exact ⟨p, ws, rfl, .inr (SqT_mono s p1), fun l hl => q _ _ _ (Ext.own s hl _) (own_l s hl p2)⟩
  · cases e
def gTuple : List D → Option Ow
  | [.list ds] => some (.d (.tuple ds))
  | [.tuple ds] => some (.d (.tuple ds))
  | _ => none
@[simp] theorem gTuple_list (ds : List D) : gTuple [.list ds] = some (.d (.tuple ds)) := rfl
@[simp] theorem gTuple_tup (ds : List D) : gTuple [.tuple ds] = some (.d (.tuple ds)) := rfl
theorem caG_tuple {K : PySem.W.Frag} : CaG K (fun xs H Q => ∃ p ys, xs = [.ref p] ∧ ((SqL K H p ys ∧ ∀ l, H l = none → Q (.ref l) (upd H l (.tup ys))) ∨ (SqT K H p ys ∧ Q (.ref p) H))) gTuple := by
  intro F H vs ds o Q s h e q
  unfold gTuple at e
  split at e
  · cases e
    obtain ⟨v, rfl, p, ws, rfl, p1, p2⟩ := psqs1 h
    refine ⟨p, ws, rfl, .inl ⟨p1, fun l hl => ?_⟩⟩
    have y := Ext.frz s hl (.tup ws)
    exact q _ _ _ y (own_d (.tup (SqT.of upd_same) (dpaUp p2 y.ff)))
  · cases e
    obtain ⟨v, rfl, w⟩ := psqs1 h
    obtain ⟨p, ws, rfl, p1, p2⟩ := dp_tup w
    exact ⟨p, ws, rfl, .inr ⟨SqT_mono s p1, q _ _ _ (.refl s) (own_d (.tup p1 p2))⟩⟩
  · cases e
def gInt : List D → Option Ow
  | [.int i] => some (.d (.int i))
  | [.bool b] => some (.d (.int (if b then 1 else 0)))
  | [.str z] => if z.length ≤ 640 then (PySem.intText? z).map fun n => .d (.int n) else none
  | _ => none
@[simp] theorem gInt_int (i : Int) : gInt [.int i] = some (.d (.int i)) := rfl
@[simp] theorem gInt_bool (b : Bool) : gInt [.bool b] = some (.d (.int (if b then 1 else 0))) := rfl
theorem caG_int {K : PySem.W.Frag} : CaG K (fun xs H Q => ((∃ i, xs = [.int i] ∧ Q (.int i) H) ∨ ∃ k, xs = [.bl k] ∧ Q (.int (if k then 1 else 0)) H) ∨ ∃ a n, xs = [.str a] ∧ PySem.intText? a = some n ∧ a.length ≤ 640 ∧ Q (.int n) H) gInt := by
  intro F H vs ds o Q s h e q
  unfold gInt at e
  split at e
  · cases e
    obtain ⟨v, rfl, w⟩ := psqs1 h
    cases dp_int w
    exact .inl (.inl ⟨_, rfl, q _ _ _ (.refl s) (own_d (.int _))⟩)
  · cases e
    obtain ⟨v, rfl, w⟩ := psqs1 h
    cases dp_bool w
    exact .inl (.inr ⟨_, rfl, q _ _ _ (.refl s) (own_d (.int _))⟩)
  · split at e
    · obtain ⟨n, e2, rfl⟩ := Option.map_eq_some_iff.mp e
      obtain ⟨v, rfl, w⟩ := psqs1 h
      cases dp_str w
      exact .inr ⟨_, n, rfl, e2, ‹_›, q _ _ _ (.refl s) (own_d (.int _))⟩
    · cases e
  · cases e
def gStr : List D → Option Ow
  | [.int i] => if i.natAbs.log2 < 1920 then some (.d (.str (toString i))) else none
  | _ => none
theorem caG_str {K : PySem.W.Frag} : CaG K (fun xs H Q => ∃ i, xs = [.int i] ∧ i.natAbs.log2 < 1920 ∧ Q (.str (toString i)) H) gStr := by
  intro F H vs ds o Q s h e q
  unfold gStr at e
  split at e
  · split at e
    · cases e
      obtain ⟨v, rfl, w⟩ := psqs1 h
      cases dp_int w
      exact ⟨_, rfl, ‹_›, q _ _ _ (.refl s) (own_d (.str _))⟩
    · cases e
  · cases e
theorem de_len {x : Expr} {p : Pos} {f : Ev → R (List D)} (hg : Gl X "len") (hm : X.mg "len" = none) (ha : DAl X W [x] f) (hpl : starEach [x] X.env = (false, eval x X.env) :: starEach [] X.env := by rfl) : DE X W (.Call (.Name "len" p) [x] [] pos) (eCa gLen f) :=
  de_callB call_len caG_len hg hm PySem.boot_len ha (he := hpl)
theorem de_max2 {x y : Expr} {p : Pos} {f : Ev → R (List D)} (hc : X.calm = true) (hg : Gl X "max") (hm : X.mg "max" = none) (ha : DAl X W [x, y] f) (he : starEach [x, y] X.env = (false, eval x X.env) :: starEach [y] X.env := by rfl) (hpl : (backTo pos (starEach [y] X.env)).any (·.1) = false := by rfl) : DE X W (.Call (.Name "max" p) [x, y] [] pos) (eCa gMax2 f) :=
  de_callB (call_max2 hc) caG_max2 hg hm (by decide +kernel) ha (he := he) (hpl := hpl)
theorem de_min2 {x y : Expr} {p : Pos} {f : Ev → R (List D)} (hc : X.calm = true) (hg : Gl X "min") (hm : X.mg "min" = none) (ha : DAl X W [x, y] f) (he : starEach [x, y] X.env = (false, eval x X.env) :: starEach [y] X.env := by rfl) (hpl : (backTo pos (starEach [y] X.env)).any (·.1) = false := by rfl) : DE X W (.Call (.Name "min" p) [x, y] [] pos) (eCa gMin2 f) :=
  de_callB (call_min2 hc) caG_min2 hg hm (by decide +kernel) ha (he := he) (hpl := hpl)
theorem de_maxL {x : Expr} {p : Pos} {f : Ev → R (List D)} (hc : X.calm = true) (hg : Gl X "max") (hm : X.mg "max" = none) (ha : DAl X W [x] f) (he : starEach [x] X.env = (false, eval x X.env) :: starEach [] X.env := by rfl) : DE X W (.Call (.Name "max" p) [x] [] pos) (eCa gMaxL f) :=
  de_callB (cr_max hc) caG_maxL hg hm (by decide +kernel) ha (he := he)
theorem de_sum {x : Expr} {p : Pos} {f : Ev → R (List D)} (hc : X.calm = true) (hg : Gl X "sum") (hm : X.mg "sum" = none) (ha : DAl X W [x] f) (he : starEach [x] X.env = (false, eval x X.env) :: starEach [] X.env := by rfl) : DE X W (.Call (.Name "sum" p) [x] [] pos) (eCa gSum f) :=
  de_callB (cr_sum hc) caG_sum hg hm (by decide +kernel) ha (he := he)
theorem de_list {x : Expr} {p : Pos} {f : Ev → R (List D)} (hg : Gl X "list") (hm : X.mg "list" = none) (ha : DAl X W [x] f) (he : starEach [x] X.env = (false, eval x X.env) :: starEach [] X.env := by rfl) : DE X W (.Call (.Name "list" p) [x] [] pos) (eCa gList f) :=
  de_callTy call_list_of caG_list hg hm (by decide +kernel) ha (he := he)
theorem de_tuple {x : Expr} {p : Pos} {f : Ev → R (List D)} (hg : Gl X "tuple") (hm : X.mg "tuple" = none) (ha : DAl X W [x] f) (he : starEach [x] X.env = (false, eval x X.env) :: starEach [] X.env := by rfl) : DE X W (.Call (.Name "tuple" p) [x] [] pos) (eCa gTuple f) :=
  de_callTy call_tuple_of caG_tuple hg hm (by decide +kernel) ha (he := he)
theorem de_int {x : Expr} {p : Pos} {f : Ev → R (List D)} (hg : Gl X "int") (hm : X.mg "int" = none) (ha : DAl X W [x] f) (he : starEach [x] X.env = (false, eval x X.env) :: starEach [] X.env := by rfl) : DE X W (.Call (.Name "int" p) [x] [] pos) (eCa gInt f) :=
  de_callTy (CallR.or call_int1 call_int_str) caG_int hg hm (by decide +kernel) ha (he := he)
theorem de_str {x : Expr} {p : Pos} {f : Ev → R (List D)} (hg : Gl X "str") (hm : X.mg "str" = none) (ha : DAl X W [x] f) (he : starEach [x] X.env = (false, eval x X.env) :: starEach [] X.env := by rfl) : DE X W (.Call (.Name "str" p) [x] [] pos) (eCa gStr f) :=
  de_callTy call_str_int caG_str hg hm (by decide +kernel) ha (he := he)

/-! ### isinstance, of a built-in type -/
def dTy : D → String
  | .none => "NoneType"
  | .bool _ => "bool"
  | .int _ => "int"
  | .str _ => "str"
  | .list _ => "list"
  | .tuple _ => "tuple"
  | .dict _ => "dict"
theorem sqL_ty {K : PySem.W.Frag} {H : Hp} {a : Addr} {xs : List V} (h : SqL K H a xs) : TyX K H (.ref a) (.type "list") := by
  rcases h with (h | ⟨o, h⟩) | ⟨o, its, n, hk, hc, _⟩
  · exact .base (.lst h)
  · exact .base (.frz h)
  · exact .kList hk hc
theorem sqT_ty {K : PySem.W.Frag} {H : Hp} {a : Addr} {xs : List V} (h : SqT K H a xs) : TyX K H (.ref a) (.type "tuple") := by
  rcases h with (h | ⟨o, h⟩) | ⟨o, its, n, hk, hc, _⟩
  · exact .base (.tup h)
  · exact .fTuple h
  · exact .kTuple hk hc
theorem dp_ty {K : PySem.W.Frag} {H : Hp} {v : V} {d : D} (h : Dp K H v d) : TyX K H v (.type (dTy d)) := by
  cases h with
  | non => exact .base .non
  | bl b => exact .base (.bl b)
  | int i => exact .base (.int i)
  | str i => exact .base (.str i)
  | lst a b => exact sqL_ty a
  | tup a b => exact sqT_ty a
def gIsi (T : String) (d : D) : R D := match kitB (dTy d) T with
  | some b => .ok (.bool b)
  | none => .no
theorem df_isi {T : String} {y : Str} {p p2 : Pos} (ha : DV X W a f) (hg : Gl X "isinstance") (hm : X.mg "isinstance" = none) (gT : Gl X y) (mT : X.mg y = none) (bT : bootBuiltins y = some (.type T))
    (he : starEach [a, .Name y p2] X.env = (false, eval a X.env) :: starEach [.Name y p2] X.env := by rfl) (he2 : starEach [.Name y p2] X.env = (false, eval (.Name y p2) X.env) :: starEach [] X.env := by rfl) (hpl : (backTo pos (starEach [.Name y p2] X.env)).any (·.1) = false := by rfl)
    (hn : y ≠ "__name__" := by decide) (hd : (y == ("__debug__" : Str)) = false := by decide) : DF X W (.Call (.Name "isinstance" p) [a, .Name y p2] [] pos) (eB f (gIsi T)) := by
  obtain ⟨t, pa, s⟩ := ha
  refine ⟨_, pe_callB call_isi hg hm (by decide +kernel) (pa_cons pa (pa_cons (pe_bltn (v := .ty T) gT mT bT rfl hn hd) pa_nil he2) he) (he := he) (hpl := hpl), fun F H σ env fp Q sat hp => ?_⟩
  refine s.go sat hp fun d v F1 H1 sat1 q _ h1 => ?_
  unfold gIsi at h1
  split at h1
  · rename_i b hb
    exact ⟨v, .ty T, _, _, b, rfl, .ty T, dp_ty q, hb, h1 _ F1 H1 (.refl sat1.fh) (.bl _)⟩
  · exact h1.elim
end
end Mir
end
set_option Elab.async false
set_option linter.all false
set_option maxRecDepth 100000
set_option maxHeartbeats 4000000
noncomputable section
namespace Mir
open PySem PySem.Spec L2

/-! ### what is walked: lists (false) and tuples (true) alike -/
def ItP (t : Bool) (h : Heap) (it a : Addr) (i : Nat) : Prop := match t with
  | true => h.IsTupleIter it a i
  | false => h.IsListIter it a i
def CoP (t : Bool) (h : Heap) (a : Addr) (its : Array Value) : Prop := match t with
  | true => h.IsTuple a its
  | false => h.IsList a its
def Sqq (t : Bool) (K : PySem.W.Frag) (H : Hp) (a : Addr) (vs : List V) : Prop := match t with
  | true => SqT K H a vs
  | false => SqL K H a vs
theorem Sqq.mono {t : Bool} {K : PySem.W.Frag} {H H' : Hp} {a : Addr} {vs : List V} (s : Same H H') (h : Sqq t K H a vs) : Sqq t K H' a vs := by
  cases t with
  | true => exact SqT_mono s h
  | false => exact s.seq h
section
variable {X : Cx} {pins : List (Addr × Obj)} {σ : L2.St} {H : Hp} {s : Shared} {a : Addr} {xs ys : List V} {t : Bool}
theorem Sqq.at (I : Inv X pins σ H s) (h : Sqq t X.K H a xs) : ∃ its : List Value, Vals xs its ∧ CoP t s.heap a its.toArray := by
  cases t with
  | true =>
    obtain ⟨its, r, p, _⟩ := I.tuple h
    exact ⟨its, r, p⟩
  | false =>
    obtain ⟨its, r, p, _⟩ := I.list h
    exact ⟨its, r, p.isList⟩
theorem Sqq.inj (I : Inv X pins σ H s) (h : Sqq t X.K H a xs) (h' : Sqq t X.K H a ys) : xs = ys := by
  cases t with
  | true => exact I.tuple_inj h h'
  | false => exact I.list_inj h h'
end
theorem co_ne {t t' : Bool} {h : Heap} {a it b : Addr} {its : Array Value} {i : Nat} (c : CoP t h a its) (p : ItP t' h it b i) : a ≠ it := by
  rintro rfl
  have e1 : ∃ o, h.get? a = some o ∧ (o.cls = .type "tuple" ∨ o.cls = .type "list") := by
    cases t with
    | true => obtain ⟨o, e, c, _⟩ := c; exact ⟨o, e, .inl c⟩
    | false => obtain ⟨o, e, c, _⟩ := c; exact ⟨o, e, .inr c⟩
  have e2 : ∃ o, h.get? a = some o ∧ (o.cls = .type "tuple_iterator" ∨ o.cls = .type "list_iterator") := by
    cases t' with
    | true => obtain ⟨o, e, c, _⟩ := p; exact ⟨o, e, .inl c⟩
    | false => obtain ⟨o, e, c, _⟩ := p; exact ⟨o, e, .inr c⟩
  obtain ⟨o, g1, c1⟩ := e1
  obtain ⟨o', g2, c2⟩ := e2
  rw [g1] at g2
  cases g2
  rcases c1 with c1 | c1 <;> rcases c2 with c2 | c2 <;> · rw [c1] at c2; revert c2; decide +kernel
theorem co_cls {t : Bool} {h : Heap} {a : Addr} {its : Array Value} (c : CoP t h a its) : ∃ o, h.get? a = some o ∧ (o.cls = .type "tuple" ∨ o.cls = .type "list") := by
  cases t with
  | true => obtain ⟨o, e, c, _⟩ := c; exact ⟨o, e, .inl c⟩
  | false => obtain ⟨o, e, c, _⟩ := c; exact ⟨o, e, .inr c⟩
theorem it_obj {t : Bool} {h : Heap} {it a : Addr} {i : Nat} (p : ItP t h it a i) : ∃ o, h.get? it = some o ∧ ∀ v, o.data ≠ .cell v := by
  cases t with
  | true => obtain ⟨o, e, _, d⟩ := p; exact ⟨o, e, fun v z => by rw [d] at z; cases z⟩
  | false => obtain ⟨o, e, _, d⟩ := p; exact ⟨o, e, fun v z => by rw [d] at z; cases z⟩
theorem ItP.at {t : Bool} {h h' : Heap} {it a : Addr} {i : Nat} (p : ItP t h it a i) (k : ∀ o, h.get? it = some o → h'.get? it = some o) : ItP t h' it a i := by
  cases t with
  | true => obtain ⟨o, e, q⟩ := p; exact ⟨o, k o e, q⟩
  | false => obtain ⟨o, e, q⟩ := p; exact ⟨o, k o e, q⟩
theorem drawsP {P : Program} {w : World} {A : Around} (hh : A.handled = none) (t : Bool) {it a : Addr} (hne : a ≠ it) (its : Array Value) :
    Draws P w A it [it, a] its.size (fun i v => its[i]? = some v) (fun i h => ItP t h it a i ∧ CoP t h a its) := by
  cases t with
  | true => exact Draws.tuple hh it a hne its
  | false => exact Draws.list hh it a hne its
def objP (t : Bool) (a : Addr) : Obj := match t with
  | true => { cls := .type "tuple_iterator", data := .fields #[.ref a, .int 0 0] }
  | false => { cls := .type "list_iterator", data := .fields #[.ref a, .int 0 0] }
theorem beginsP (t : Bool) (a : Addr) (its : Array Value) : Begins (.ref a) (objP t a) (fun h => CoP t h a its) := by
  cases t with
  | true => exact begins_tuple a its
  | false => exact begins_list a its
theorem itP_new {t : Bool} {h : Heap} {it a : Addr} (e : h.get? it = some (objP t a)) : ItP t h it a 0 := by
  cases t with
  | true => exact ⟨_, e, rfl, rfl⟩
  | false => exact ⟨_, e, rfl, rfl⟩

/-! ### enumerate -/
def Jen (t : Bool) (K : PySem.W.Frag) (a : Addr) : It :=
  ⟨fun i H => ∃ xs x, Sqq t K H a xs ∧ xs[i]? = some x, fun i H v H' => ∃ T x, v = .ref T ∧ H T = none ∧ H' = upd H T (.tup [.int (i : Nat), x]) ∧ ∀ xs, Sqq t K H a xs → xs[i]? = some x,
    fun i H => ∃ xs, Sqq t K H a xs ∧ xs.length = i⟩
theorem turn_en {P : Program} {w : World} {K : PySem.W.Frag} {elts : List Expr} {kk : Nat} {tpos : Pos} (t : Bool) (a e it : Addr) (hei : e ≠ it) :
    Turn P w K (.Tuple elts kk tpos) (Jen t K a) [e, it] e (fun i h => (∃ old, IsEnum h e it (0 + (i : Int)) old) ∧ ItP t h it a i) where
  mem := by simp
  obj := fun i h st b hb => by
    obtain ⟨⟨old, he⟩, hi⟩ := st
    rcases List.mem_cons.mp hb with z | z
    · rw [z]; exact ⟨_, he, fun v q => nomatch q⟩
    · rw [List.mem_singleton.mp z]; exact it_obj hi
  keep := fun i h h' st k => let ⟨⟨old, he⟩, hi⟩ := st; ⟨⟨old, k e (by simp) _ he⟩, hi.at fun o q => k it (by simp) o q⟩
  item := by
    intro X hP hw hK hc i pins s σ H E I hf st hg
    subst hP hw hK
    obtain ⟨hen, hit⟩ := st
    obtain ⟨xs, x, hq, hx⟩ := hg
    obtain ⟨its, rv, hco⟩ := hq.at I
    obtain ⟨u, hu, ru⟩ := rv.get hx
    have hne := co_ne hco hit
    have hea : e ≠ a := by
      rintro rfl
      obtain ⟨old, he⟩ := hen
      obtain ⟨o, g, c⟩ := co_cls hco
      have g' : s.heap.get? e = some _ := he
      rw [g] at g'
      cases g'
      rcases c with c | c
      · exact absurd (show Value.type "enumerate" = .type "tuple" from c) (by decide +kernel)
      · exact absurd (show Value.type "enumerate" = .type "list" from c) (by decide +kernel)
    have hlt : i < its.toArray.size := by rw [List.size_toArray]; exact (List.getElem?_eq_some_iff.mp hu).1
    refine (GoesN.enumFrom (prog := X.prog) (w := X.w) (elts := elts) (x1 := kk) (pos := tpos) 0 (drawsP (A := X.A.in1) (I.ok.hd hc) t hne its.toArray) e hei (by simp [hei, hea]) (by simp)).goes i s _ _ hlt ⟨hen, hit, hco⟩ fun v h' tk ⟨T, tk', y, ev, hT, hy, hTup⟩ st' hk _ => ?_
    subst ev
    have hyu : y = u := by
      have hy' : its[i]? = some y := by simpa using hy
      rw [hu] at hy'
      exact (Option.some.inj hy').symm
    subst hyu
    have new : ObjOk X.prog X.w (upd H T (.tup [.int (i : Nat), x])) h' T (.tup [.int (i : Nat), x]) :=
      ⟨by show 2 ≤ sizeLine; decide, [.int (0 + (i : Int)) tk', y], .cons ⟨tk', by rw [Int.zero_add]⟩ (.cons ru .nil), hTup⟩
    have hb' : ∀ b ∈ [e, it], b < s.heap.objs.size := fun b hb => by
      obtain ⟨o, g, _⟩ := (show ∃ o, s.heap.get? b = some o ∧ True from by
        rcases List.mem_cons.mp hb with z | z
        · rw [z]; obtain ⟨old, he⟩ := hen; exact ⟨_, he, trivial⟩
        · rw [List.mem_singleton.mp z]; obtain ⟨o, g, _⟩ := it_obj hit; exact ⟨o, g, trivial⟩)
      exact Heap.lt_size g
    refine ⟨.ref T, _, I.turnedNew (ch := [e, it]) hk hf hT new, rfl, ⟨T, x, rfl, I.hok.fresh hT, rfl, fun ys hys => by rw [hys.inj I hq]; exact hx⟩, ⟨st'.1, st'.2.1⟩, fun b hb => ?_⟩
    rw [upd_ne (Nat.ne_of_lt (Nat.lt_of_lt_of_le (hb' b hb) hT))]
    exact (hf b hb).1
  done := by
    intro X hP hw hK hc i pins s σ H E I hf st hg
    subst hP hw hK
    obtain ⟨hen, hit⟩ := st
    obtain ⟨xs, hq, hl⟩ := hg
    obtain ⟨its, rv, hco⟩ := hq.at I
    have hne := co_ne hco hit
    have hea : e ≠ a := by
      rintro rfl
      obtain ⟨old, he⟩ := hen
      obtain ⟨o, g, c⟩ := co_cls hco
      have g' : s.heap.get? e = some _ := he
      rw [g] at g'
      cases g'
      rcases c with c | c
      · exact absurd (show Value.type "enumerate" = .type "tuple" from c) (by decide +kernel)
      · exact absurd (show Value.type "enumerate" = .type "list" from c) (by decide +kernel)
    have hs : i = its.toArray.size := by rw [List.size_toArray, ← rv.length]; exact hl.symm
    subst hs
    exact (GoesN.enumFrom (prog := X.prog) (w := X.w) (elts := elts) (x1 := kk) (pos := tpos) 0 (drawsP (A := X.A.in1) (I.ok.hd hc) t hne its.toArray) e hei (by simp [hei, hea]) (by simp)).stops s _ _ ⟨hen, hit, hco⟩ fun h' tk hk _ => I.turnedL (ch := [e, it]) hk hf
  self := fun A i s Q E st h => let ⟨⟨_, he⟩, _⟩ := st; wpAny_pyIter_enum he h
theorem meets_en {v : Value} {o : Obj} {H : Heap → Prop} (B : Begins v o H) : Meets (Builtin.«enumerate.__new__» ⟨[.type "enumerate", v], []⟩) (fun _ R s => H s.heap ∧
      R (.ok (.ret (.ref (s.heap.push o).objs.size))) { s with heap := (s.heap.push o).push { cls := .type "enumerate", data := .fields #[.none, .bool false, .ref s.heap.objs.size, rawInt 0, .none, .none] } }) :=
  .of_wp fun prog w A R s h => by
    obtain ⟨hp, g, d, tk, os⟩ := s; obtain ⟨h1, h⟩ := h; have hsub := sub_enumerate
    have q1 : ∀ {A' : Around} {E Q : Value → Shared → Prop}, Q (.ref hp.objs.size) ⟨hp.push o, g, d, tk, os⟩ → wpAny (model prog w) A' (pyIter v) Q E ⟨hp, g, d, tk, os⟩ := fun q => B.iter prog w _ _ ⟨hp, g, d, tk, os⟩ _ h1 q
    wp_walk using q1
    refine wpAny_stack_any (fun st => wpAny_pure ?_); split
    · rename_i c _ _ _ _ _; cases (c == Value.type "enumerate") <;> (wp_walk using q1; exact ⟨_, rfl, h⟩)
    · wp_walk using q1; exact ⟨_, rfl, h⟩
theorem call_en {prog : Program} {w : World} {A : Around} {E : Value → Shared → Prop} {s : Shared} {v : Value} {o : Obj} {H : Heap → Prop} {Q : Value → Shared → Prop} (B : Begins v o H) (h1 : H s.heap)
    (h : ∀ h', IsEnum h' (s.heap.objs.size + 1) s.heap.objs.size 0 .none → h'.get? s.heap.objs.size = some o → (∀ b o, s.heap.get? b = some o → h'.get? b = some o) → Q (.ref (s.heap.objs.size + 1)) { s with heap := h' }) :
    wpAny (model prog w) A (call (.type "enumerate") [v]) Q E s := by
  refine callType_new F.called_enumerate (by decide) (F.typeCall_enumerate_1 _) (F.newCall_enumerate_1 _) (fun obj => F.args_object_init_2 obj _) F.entry_enumerate_new (meets_en B) ⟨h1, ?_⟩
  have hz : (s.heap.push o).objs.size = s.heap.objs.size + 1 := Heap.size_push ..
  show _ ∧ _; rw [hz]
  have g1 : (s.heap.push o).get? s.heap.objs.size = some o := Heap.get?_push_size _ B.free
  have he : IsEnum ((s.heap.push o).push { cls := .type "enumerate", data := .fields #[.none, .bool false, .ref s.heap.objs.size, rawInt 0, .none, .none] }) (s.heap.objs.size + 1) s.heap.objs.size 0 .none := by
    have := Heap.get?_push_size (s.heap.push o) (o := { cls := .type "enumerate", data := .fields #[.none, .bool false, .ref s.heap.objs.size, rawInt 0, .none, .none] }) rfl
    rw [hz] at this; exact this
  exact ⟨⟨_, he, rfl⟩, h _ he (Heap.get?_push_of_some _ g1) fun b o x => Heap.get?_push_of_some _ (Heap.get?_push_of_some _ x)⟩
def iEn (K : PySem.W.Frag) (ta : TA) : TI := fun σ H R => ta σ H fun vs H1 => ∃ t a xs, vs = [.ref a] ∧ Sqq t K H1 a xs ∧ R (Jen t K a) H1
theorem pi_en {X : Cx} {e : Expr} {ta : TA} {p pos tpos : Pos} {elts : List Expr} {kk : Nat} (hg : Gl X "enumerate") (hm : X.mg "enumerate" = none) (ha : PA X [e] ta) (hs : starEach [e] X.env = [(false, eval e X.env)] := by rfl) :
    PI X (.Tuple elts kk tpos) (.Call (.Name "enumerate" p) [e] [] pos) (iEn X.K ta) := by
  refine ⟨fun pins s σ H R I h => ?_⟩
  refine PyProof.Rows.Call_ (ld_blt I hg hm PyProof.Rows.boot_enumerate (PyProof.Rows.callWith_type1 (thn (ha.run pos pins s σ H _ I h) fun us s1 ⟨vs, H1, I1, r1, t, a, xs, ex, hq, q⟩ => ?_) hs rfl))
  subst ex
  cases r1 with
  | cons r rr =>
    cases rr
    cases r
    obtain ⟨its, rv, hco⟩ := hq.at I1
    refine call_en (beginsP t a its.toArray) hco fun h' he hit hk => wpAny_pyIter_enum he ?_
    have I2 : Inv X pins σ H1 { s1 with heap := h' } := I1.kept (t' := s1.toks) hk
    refine ⟨s1.heap.objs.size + 1, [s1.heap.objs.size + 1, s1.heap.objs.size], _, _, H1, rfl, I2, turn_en t a _ _ (Nat.succ_ne_self _), ⟨⟨.none, he⟩, itP_new hit⟩, fun b hb => ?_, q⟩
    have hle : s1.heap.objs.size ≤ b := by
      rcases List.mem_cons.mp hb with z | z
      · rw [z]; exact Nat.le_add_right _ _
      · rw [List.mem_singleton.mp z]; exact Nat.le_refl _
    exact I1.fpOk hle (I1.hok.fresh hle)
end Mir
end
set_option Elab.async false
set_option linter.all false
set_option maxRecDepth 100000
set_option maxHeartbeats 4000000
noncomputable section
namespace Mir
open PySem PySem.Spec L2

theorem fp_ne {X : Cx} {pins : List (Addr × Obj)} {σ : L2.St} {H : Hp} {s : Shared} {t : Bool} {a b : Addr} {xs : List V} (I : Inv X pins σ H s) (hf : FpOk X pins H b) (hq : Sqq t X.K H a xs) : a ≠ b := by
  rintro rfl
  have kk : ∀ o, X.K.lookup a = some o → False := fun o e => by
    have e1 := I.mod.kin a o e
    obtain ⟨_, _, _, q, _, _⟩ := hf
    rcases q with q | q
    · exact I.ok.noex a o e1 q
    · exact absurd (Nat.lt_of_lt_of_le (Heap.lt_size e1) (Nat.le_trans I.ok.bsz q)) (Nat.lt_irrefl _)
  cases t with
  | true =>
    rcases hq with (h | ⟨o, h⟩) | ⟨o, its, n, h, _⟩
    · rw [hf.1] at h; cases h
    · rw [hf.1] at h; cases h
    · exact kk o h
  | false =>
    rcases hq with (h | ⟨o, h⟩) | ⟨o, its, n, h, _⟩
    · rw [hf.1] at h; cases h
    · rw [hf.1] at h; cases h
    · exact kk o h

/-! ### zip -/
def Jzp (t u : Bool) (K : PySem.W.Frag) (a b : Addr) : It :=
  ⟨fun i H => ∃ xs ys x y, Sqq t K H a xs ∧ Sqq u K H b ys ∧ xs[i]? = some x ∧ ys[i]? = some y,
    fun i H v H' => ∃ T x y, v = .ref T ∧ H T = none ∧ H' = upd H T (.tup [x, y]) ∧ (∀ xs, Sqq t K H a xs → xs[i]? = some x) ∧ ∀ ys, Sqq u K H b ys → ys[i]? = some y,
    fun i H => ∃ xs ys, Sqq t K H a xs ∧ Sqq u K H b ys ∧ min xs.length ys.length = i⟩
theorem turn_zp {P : Program} {w : World} {K : PySem.W.Frag} {elts : List Expr} {kk : Nat} {tpos : Pos} (t u : Bool) (a b z TI TO i1 i2 : Addr) (nd : [z, TI, TO, i1, i2].Nodup) :
    Turn P w K (.Tuple elts kk tpos) (Jzp t u K a b) [z, TI, TO, i1, i2] z (fun i h => IsZip h z TI TO .none ∧ IsTupOf2 h TI (.ref i1) (.ref i2) ∧ (∃ a1 a2, IsTupOf2 h TO a1 a2) ∧ ItP t h i1 a i ∧ ItP u h i2 b i) := by
  have sep : a ∉ [z, TI, TO, i1, i2] → b ∉ [z, TI, TO, i1, i2] → ZipSep2 z TI TO i1 i2 [i1, a] [i2, b] := fun ha hb => by
    simp only [List.nodup_cons, List.mem_cons, List.not_mem_nil, or_false, not_or, List.nodup_nil, and_true, not_false_eq_true] at nd ha hb
    obtain ⟨⟨n1, n2, n3, n4⟩, ⟨n5, n6, n7⟩, ⟨n8, n9⟩, n10⟩ := nd
    obtain ⟨a1, a2, a3, a4, a5⟩ := ha
    obtain ⟨b1, b2, b3, b4, b5⟩ := hb
    refine ⟨Ne.symm n1, Ne.symm n2, n5, n6, by simp, ?_, ?_, n7, by simp, ?_, ?_, ?_, ?_⟩ <;> simp only [List.mem_cons, List.not_mem_nil, or_false, not_or]
    · exact ⟨n3, Ne.symm a1⟩
    · exact ⟨n8, Ne.symm a3⟩
    · exact ⟨n4, Ne.symm b1⟩
    · exact ⟨n9, Ne.symm b3⟩
    · exact ⟨n10, Ne.symm b4⟩
    · exact ⟨Ne.symm n10, Ne.symm a5⟩
  have live : ∀ {i : Nat} {h : Heap}, (IsZip h z TI TO .none ∧ IsTupOf2 h TI (.ref i1) (.ref i2) ∧ (∃ a1 a2, IsTupOf2 h TO a1 a2) ∧ ItP t h i1 a i ∧ ItP u h i2 b i) → ∀ c ∈ [z, TI, TO, i1, i2], ∃ o, h.get? c = some o ∧ ∀ v, o.data ≠ .cell v := fun st c hc => by
    obtain ⟨h1, h2, ⟨x1, x2, h3⟩, h4, h5⟩ := st
    simp only [List.mem_cons, List.not_mem_nil, or_false] at hc
    rcases hc with rfl | rfl | rfl | rfl | rfl
    · exact ⟨_, h1, fun v q => nomatch q⟩
    · exact ⟨_, h2, fun v q => nomatch q⟩
    · exact ⟨_, h3, fun v q => nomatch q⟩
    · exact it_obj h4
    · exact it_obj h5
  have wrs : ∀ c ∈ [z, TO, i1, i2], c ∈ [z, TI, TO, i1, i2] := fun c hc => by
    simp only [List.mem_cons, List.not_mem_nil, or_false] at hc ⊢
    rcases hc with rfl | rfl | rfl | rfl <;> simp
  refine ⟨by simp, fun i h st => live st, fun i h h' st k => ?_, ?_, ?_, fun A i s Q E st h => wpAny_pyIter_zip st.1 h⟩
  · obtain ⟨h1, h2, ⟨x1, x2, h3⟩, h4, h5⟩ := st
    exact ⟨k z (by simp) _ h1, k TI (by simp) _ h2, ⟨x1, x2, k TO (by simp) _ h3⟩, h4.at fun o q => k i1 (by simp) o q, h5.at fun o q => k i2 (by simp) o q⟩
  · intro X hP hw hK hc i pins s σ H E I hf st hg
    subst hP hw hK
    have hst := live st
    obtain ⟨h1, h2, h3, h4, h5⟩ := st
    obtain ⟨xs, ys, x, y, hq, hr, hx, hy⟩ := hg
    obtain ⟨its, rv, hco⟩ := hq.at I
    obtain ⟨jts, rw', hco'⟩ := hr.at I
    obtain ⟨u1, hu, ru⟩ := rv.get hx
    obtain ⟨u2, hu', ru'⟩ := rw'.get hy
    have S := sep (fun z => fp_ne I (hf a z) hq rfl) (fun z => fp_ne I (hf b z) hr rfl)
    have n1 : i < its.toArray.size := by rw [List.size_toArray]; exact (List.getElem?_eq_some_iff.mp hu).1
    have n2 : i < jts.toArray.size := by rw [List.size_toArray]; exact (List.getElem?_eq_some_iff.mp hu').1
    refine (GoesN.zip2 (prog := X.prog) (w := X.w) (elts := elts) (x1 := kk) (pos := tpos) S (drawsP (A := X.A.in1) (I.ok.hd hc) t (fp_ne I (hf i1 (by simp)) hq) its.toArray) (drawsP (A := X.A.in1) (I.ok.hd hc) u (fp_ne I (hf i2 (by simp)) hr) jts.toArray)).goes i s _ _ (by omega) ⟨h1, h2, h3, ⟨h4, hco⟩, h5, hco'⟩
      fun v h' tk ⟨T, p, q, ev, hT, hp, hq', hTup⟩ st' hk _ => ?_
    subst ev
    have e1 : p = u1 := by
      have hp' : its[i]? = some p := by simpa using hp
      rw [hu] at hp'
      exact (Option.some.inj hp').symm
    have e2 : q = u2 := by
      have hp' : jts[i]? = some q := by simpa using hq'
      rw [hu'] at hp'
      exact (Option.some.inj hp').symm
    subst e1 e2
    have new : ObjOk X.prog X.w (upd H T (.tup [x, y])) h' T (.tup [x, y]) := ⟨by show 2 ≤ sizeLine; decide, [p, q], .cons ru (.cons ru' .nil), hTup⟩
    refine ⟨.ref T, _, I.turnedNew (ch := [z, TI, TO, i1, i2]) (fun b o hb e => hk b o (fun m => hb (wrs b m)) e) hf hT new, rfl, ⟨T, x, y, rfl, I.hok.fresh hT, rfl, fun zs hz => by rw [hz.inj I hq]; exact hx, fun zs hz => by rw [hz.inj I hr]; exact hy⟩,
      ⟨st'.1, st'.2.1, st'.2.2.1, st'.2.2.2.1.1, st'.2.2.2.2.1⟩, fun c hc => ?_⟩
    obtain ⟨o, g, _⟩ := hst c hc
    rw [upd_ne (Nat.ne_of_lt (Nat.lt_of_lt_of_le (Heap.lt_size g) hT))]
    exact (hf c hc).1
  · intro X hP hw hK hc i pins s σ H E I hf st hg
    subst hP hw hK
    obtain ⟨h1, h2, h3, h4, h5⟩ := st
    obtain ⟨xs, ys, hq, hr, hl⟩ := hg
    obtain ⟨its, rv, hco⟩ := hq.at I
    obtain ⟨jts, rw', hco'⟩ := hr.at I
    have S := sep (fun z => fp_ne I (hf a z) hq rfl) (fun z => fp_ne I (hf b z) hr rfl)
    have hs : i = min its.toArray.size jts.toArray.size := by rw [List.size_toArray, List.size_toArray, ← rv.length, ← rw'.length]; exact hl.symm
    subst hs
    exact (GoesN.zip2 (prog := X.prog) (w := X.w) (elts := elts) (x1 := kk) (pos := tpos) S (drawsP (A := X.A.in1) (I.ok.hd hc) t (fp_ne I (hf i1 (by simp)) hq) its.toArray) (drawsP (A := X.A.in1) (I.ok.hd hc) u (fp_ne I (hf i2 (by simp)) hr) jts.toArray)).stops s _ _ ⟨h1, h2, h3, ⟨h4, hco⟩, h5, hco'⟩
      fun h' tk hk _ => I.turnedL (ch := [z, TI, TO, i1, i2]) (fun b o hb e => hk b o (fun m => hb (wrs b m)) e) hf
def iZp (K : PySem.W.Frag) (ta : TA) : TI := fun σ H R => ta σ H fun vs H1 => ∃ t u a b xs ys, vs = [.ref a, .ref b] ∧ Sqq t K H1 a xs ∧ Sqq u K H1 b ys ∧ R (Jzp t u K a b) H1
theorem pi_zp {X : Cx} {e e2 : Expr} {ta : TA} {p pos tpos : Pos} {elts : List Expr} {kk : Nat} (hg : Gl X "zip") (hm : X.mg "zip" = none) (ha : PA X [e, e2] ta) (hs : starEach [e, e2] X.env = (false, eval e X.env) :: starEach [e2] X.env := by rfl)
    (hpl : (backTo pos (starEach [e2] X.env)).any (·.1) = false := by rfl) : PI X (.Tuple elts kk tpos) (.Call (.Name "zip" p) [e, e2] [] pos) (iZp X.K ta) := by
  refine ⟨fun pins s σ H R I h => ?_⟩
  refine PyProof.Rows.Call_ (ld_blt I hg hm PyProof.Rows.boot_zip (PyProof.Rows.callWith_type1 (thn (ha.run pos pins s σ H _ I h) fun us s1 ⟨vs, H1, I1, r1, t, u, a, b, xs, ys, ex, hq, hr, q⟩ => ?_) hs hpl))
  subst ex
  cases r1 with
  | cons r rr =>
    cases rr with
    | cons r' rr =>
      cases rr
      cases r
      cases r'
      obtain ⟨its, rv, hco⟩ := hq.at I1
      obtain ⟨jts, rw', hco'⟩ := hr.at I1
      refine zip_begins2 (beginsP t a its.toArray) (beginsP u b jts.toArray) hco hco' fun h' hz hTI hTO g1 g2 _ hk => wpAny_pyIter_zip hz ?_
      have I2 : Inv X pins σ H1 { s1 with heap := h' } := I1.kept (t' := s1.toks) hk
      have le5 : ∀ c ∈ [s1.heap.objs.size + 4, s1.heap.objs.size + 2, s1.heap.objs.size + 3, s1.heap.objs.size, s1.heap.objs.size + 1], s1.heap.objs.size ≤ c := fun c hc => by
        simp only [List.mem_cons, List.not_mem_nil, or_false] at hc
        rcases hc with z | z | z | z | z <;> (rw [z]; first | exact Nat.le_refl _ | exact Nat.le_add_right _ _)
      have nd5 : ∀ n : Nat, [n + 4, n + 2, n + 3, n, n + 1].Nodup := fun n => by
        simp only [List.nodup_cons, List.mem_cons, List.not_mem_nil, or_false, not_or, List.nodup_nil, and_true, not_false_eq_true]
        omega
      exact ⟨_, _, _, _, H1, rfl, I2, turn_zp t u a b _ _ _ _ _ (nd5 s1.heap.objs.size), ⟨hz, hTI, ⟨_, _, hTO⟩, itP_new g1, itP_new g2⟩, fun c hc => I1.fpOk (le5 c hc) (I1.hok.fresh (le5 c hc)), q⟩
end Mir
end
set_option Elab.async false
set_option linter.all false
set_option maxRecDepth 100000
set_option maxHeartbeats 4000000
noncomputable section
namespace Mir
open PySem PySem.Spec L2

/-! ### what a for or a comprehension walks: frozen items -/
structure WalkF (K : PySem.W.Frag) (J : It) (F0 : Hp) (items : List D) : Prop where
  go : ∀ i F H, i < items.length → Same F0 F → Same F H → J.go i H
  yld : ∀ i F H x H', i < items.length → Same F0 F → Same F H → J.yld i H x H' → ∃ d F', items[i]? = some d ∧ Ext F H F' H' ∧ Dp K F' x d
  stop : ∀ F H, Same F0 F → Same F H → J.stop items.length H
def PIt (K : PySem.W.Frag) (_ : Hp) (items : List D) (J : It) (F' _ : Hp) : Prop := WalkF K J F' items
instance {K : PySem.W.Frag} : Anti (PIt K) := ⟨fun _ h => h⟩
def DI (X : Cx) (W : WX) (tg e : Expr) (f : Ev → R (List D)) : Prop := ∃ wi, PI X tg e wi ∧ Sm X W (PIt X.K) wi f
section
variable {K : PySem.W.Frag} {F0 : Hp} {a b : Addr} {vs ws : List V} {ds es : List D}
theorem walkF_l (h1 : SqL K F0 a vs) (h2 : DpAll K F0 vs ds) : WalkF K (Itl K a) F0 ds where
  go := fun i F H hi s1 s2 => by
    rw [← DpAll.len h2] at hi
    exact ⟨vs, vs[i], (s1.trans s2).seq h1, by simp [hi]⟩
  yld := fun i F H x H' hi s1 s2 ⟨e, q⟩ => by
    subst e
    obtain ⟨d, e1, e2⟩ := DpAll.getV h2 (q vs ((s1.trans s2).seq h1))
    exact ⟨d, F, e1, .refl s2, dpUp e2 s1⟩
  stop := fun F H s1 s2 => ⟨vs, (s1.trans s2).seq h1, by rw [DpAll.len h2]; exact Nat.le_refl _⟩
theorem walkF_t (h1 : SqT K F0 a vs) (h2 : DpAll K F0 vs ds) : WalkF K (Itt K a) F0 ds where
  go := fun i F H hi s1 s2 => by
    rw [← DpAll.len h2] at hi
    exact ⟨vs, vs[i], SqT_mono (s1.trans s2) h1, by simp [hi]⟩
  yld := fun i F H x H' hi s1 s2 ⟨e, q⟩ => by
    subst e
    obtain ⟨d, e1, e2⟩ := DpAll.getV h2 (q vs (SqT_mono (s1.trans s2) h1))
    exact ⟨d, F, e1, .refl s2, dpUp e2 s1⟩
  stop := fun F H s1 s2 => ⟨vs, SqT_mono (s1.trans s2) h1, by rw [DpAll.len h2]; exact Nat.le_refl _⟩
def charsD (z : Str) : List D := z.cps.toList.map fun c => .str ⟨#[c]⟩
theorem walkF_s (z : Str) : WalkF K (Its z) F0 (charsD z) where
  go := fun i F H hi s1 s2 => walk_str.goes i H (by simpa [charsD] using hi) trivial
  yld := fun i F H x H' hi s1 s2 h => by
    have hi' : i < z.cps.size := by simpa [charsD] using hi
    obtain ⟨e, c, e1, e2⟩ := walk_str.yields i H x H' hi' trivial h
    subst e e2
    exact ⟨_, F, by simp [charsD, e1], .refl s2, .str _⟩
  stop := fun F H s1 s2 => by
    have := (walk_str (z := z)).stops H trivial
    simpa [charsD] using this
def rangeD (lo : Int) (n : Nat) : List D := (List.range n).map fun i => .int (lo + (i : Nat))
def rangeCD (lo c : Int) (n : Nat) : List D := (List.range n).map fun i => .int (lo + (i : Nat) * c)
theorem walkF_r (lo : Int) (n : Nat) : WalkF K (Itr lo n) F0 (rangeD lo n) where
  go := fun i F H hi s1 s2 => walk_range.goes i H (by simpa [rangeD] using hi) trivial
  yld := fun i F H x H' hi s1 s2 h => by
    have hi' : i < n := by simpa [rangeD] using hi
    obtain ⟨e, e1⟩ := walk_range.yields i H x H' hi' trivial h
    subst e e1
    exact ⟨_, F, by simp [rangeD, hi'], .refl s2, .int _⟩
  stop := fun F H s1 s2 => by
    have := (walk_range (lo := lo) (n := n)).stops H trivial
    simpa [rangeD] using this
theorem walkF_rc (lo c : Int) (n : Nat) : WalkF K (Itc lo c n) F0 (rangeCD lo c n) where
  go := fun i F H hi s1 s2 => walk_rangeC.goes i H (by simpa [rangeCD] using hi) trivial
  yld := fun i F H x H' hi s1 s2 h => by
    have hi' : i < n := by simpa [rangeCD] using hi
    obtain ⟨e, e1⟩ := walk_rangeC.yields i H x H' hi' trivial h
    subst e e1
    exact ⟨_, F, by simp [rangeCD, hi'], .refl s2, .int _⟩
  stop := fun F H s1 s2 => by
    have := (walk_rangeC (lo := lo) (c := c) (n := n)).stops H trivial
    simpa [rangeCD] using this
def enumD : Nat → List D → List D
  | _, [] => []
  | n, d :: ds => .tuple [.int n, d] :: enumD (n + 1) ds
theorem enumD_len : ∀ (n : Nat) (ds : List D), (enumD n ds).length = ds.length
  | _, [] => rfl
  | n, d :: ds => by simp [enumD, enumD_len (n + 1) ds]
theorem enumD_get : ∀ (n i : Nat) (ds : List D) (d : D), ds[i]? = some d → (enumD n ds)[i]? = some (.tuple [.int (n + i : Nat), d])
  | n, i, [], d, h => by simp at h
  | n, 0, x :: ds, d, h => by simp at h; subst h; simp [enumD]
  | n, i + 1, x :: ds, d, h => by
    have := enumD_get (n + 1) i ds d (by simpa using h)
    simp only [enumD, List.getElem?_cons_succ, this]
    congr 3; congr 2; omega
def zipD : List D → List D → List D
  | x :: xs, y :: ys => .tuple [x, y] :: zipD xs ys
  | _, _ => []
@[simp] theorem zipD_nil (ys : List D) : zipD [] ys = [] := by cases ys <;> rfl
@[simp] theorem zipD_nil2 (ys : List D) : zipD ys [] = [] := by cases ys <;> rfl
@[simp] theorem zipD_cons (x y : D) (xs ys : List D) : zipD (x :: xs) (y :: ys) = .tuple [x, y] :: zipD xs ys := rfl
theorem zipD_len : ∀ (xs ys : List D), (zipD xs ys).length = min xs.length ys.length
  | [], ys => by simp
  | x :: xs, [] => by simp
  | x :: xs, y :: ys => by simp [zipD_len xs ys]
theorem zipD_get : ∀ (i : Nat) (xs ys : List D) (x y : D), xs[i]? = some x → ys[i]? = some y → (zipD xs ys)[i]? = some (.tuple [x, y])
  | i, [], ys, x, y, h, g => by simp at h
  | i, x :: xs, [], _, y, h, g => by simp at g
  | 0, a :: xs, b :: ys, x, y, h, g => by simp at h g; subst h g; rfl
  | i + 1, a :: xs, b :: ys, x, y, h, g => by
    have := zipD_get i xs ys x y (by simpa using h) (by simpa using g)
    simpa using this
theorem walkF_en {t : Bool} (h1 : Sqq t K F0 a vs) (h2 : DpAll K F0 vs ds) : WalkF K (Jen t K a) F0 (enumD 0 ds) where
  go := fun i F H hi s1 s2 => by
    rw [enumD_len, ← DpAll.len h2] at hi
    exact ⟨vs, vs[i], h1.mono (s1.trans s2), by simp [hi]⟩
  yld := fun i F H x H' hi s1 s2 ⟨T, y, e, hT, eH, q⟩ => by
    subst e eH
    obtain ⟨d, e1, e2⟩ := DpAll.getV h2 (q vs (h1.mono (s1.trans s2)))
    have x := Ext.frz s2 hT (.tup [.int (i : Nat), y])
    refine ⟨_, _, enumD_get 0 i ds d e1, x, ?_⟩
    rw [Nat.zero_add]
    exact .tup (SqT.of upd_same) (.cons (.int _) (.cons (dpUp e2 (s1.trans x.ff)) .nil))
  stop := fun F H s1 s2 => ⟨vs, h1.mono (s1.trans s2), by rw [enumD_len, DpAll.len h2]⟩
theorem walkF_zp {t u : Bool} (h1 : Sqq t K F0 a vs) (h2 : DpAll K F0 vs ds) (g1 : Sqq u K F0 b ws) (g2 : DpAll K F0 ws es) : WalkF K (Jzp t u K a b) F0 (zipD ds es) where
  go := fun i F H hi s1 s2 => by
    rw [zipD_len, ← DpAll.len h2, ← DpAll.len g2] at hi
    exact ⟨vs, ws, vs[i]'(by omega), ws[i]'(by omega), h1.mono (s1.trans s2), g1.mono (s1.trans s2), by simp, by simp⟩
  yld := fun i F H x H' hi s1 s2 ⟨T, y, z, e, hT, eH, q, q'⟩ => by
    subst e eH
    obtain ⟨d, e1, e2⟩ := DpAll.getV h2 (q vs (h1.mono (s1.trans s2)))
    obtain ⟨d', e1', e2'⟩ := DpAll.getV g2 (q' ws (g1.mono (s1.trans s2)))
    have x := Ext.frz s2 hT (.tup [y, z])
    exact ⟨_, _, zipD_get i ds es d d' e1 e1', x, .tup (SqT.of upd_same) (.cons (dpUp e2 (s1.trans x.ff)) (.cons (dpUp e2' (s1.trans x.ff)) .nil))⟩
  stop := fun F H s1 s2 => ⟨vs, ws, h1.mono (s1.trans s2), g1.mono (s1.trans s2), by rw [zipD_len, DpAll.len h2, DpAll.len g2]⟩
end
section
variable {X : Cx} {W : WX} {tg e e2 : Expr} {es : List Expr} {pos p : Pos} {f g : Ev → R D}
theorem PI.or {wi wj : TI} (h : PI X tg e wi) (h' : PI X tg e wj) : PI X tg e (fun σ H R => wi σ H R ∨ wj σ H R) := ⟨fun pins s σ H R I q => by
  rcases q with q | q
  · exact h.run pins s σ H R I q
  · exact h'.run pins s σ H R I q⟩
def itD : D → R (List D)
  | .list ds => .ok ds
  | .tuple ds => .ok ds
  | .str z => .ok (charsD z)
  | _ => .no
@[simp] theorem itD_list (ds : List D) : itD (.list ds) = .ok ds := rfl
@[simp] theorem itD_tup (ds : List D) : itD (.tuple ds) = .ok ds := rfl
@[simp] theorem itD_str (z : Str) : itD (.str z) = .ok (charsD z) := rfl
/-- go on by what the first part is -/
theorem Sm.choose {α β γ δ : Type} {P : Hp → α → β → Hp → Hp → Prop} {P2 : Hp → γ → δ → Hp → Hp → Prop} [Anti P2] {t : L2.St → Hp → (β → Hp → Prop) → Prop} {f : Ev → R α} (s : Sm X W P t f) {g : α → R γ} {F H : Hp} {σ : L2.St} {env : Ev} {fp : List Addr} {Q : δ → Hp → Prop} {G : Prop}
    (sat : Sat X.K F H σ env fp) (h : Post X W P2 F H σ ((f env).bind g) Q) (no : (∀ T, t σ H T) → G)
    (k : ∀ a, f env = .ok a → (∀ T, (∀ v F1 H1, Sat X.K F1 H1 σ env fp → P H a v F1 H1 → Ext F H F1 H1 → Post X W P2 F1 H1 σ (g a) Q → T v H1) → t σ H T) → G) : G := by
  cases e : f env with
  | no => rw [e] at h; exact h.elim
  | ok a =>
    refine k a e fun T hT => s F H σ env fp T sat ?_
    rw [e] at h ⊢
    exact fun v F' H' x p => hT v F' H' (sat.ext x) p x (Post.ext (show Post X W P2 F H σ (g a) Q from h) x)
  | ex c =>
    refine no fun T => s F H σ env fp T sat ?_
    rw [e] at h ⊢
    exact h
theorem di_seq (h : DF X W e f) : DI X W tg e (eB f itD) := by
  obtain ⟨t, p, s⟩ := h
  refine ⟨_, PI.or (pi_list p) (PI.or (pi_tup p) (pi_str p)), fun F H σ env fp Q sat hp => ?_⟩
  refine s.choose sat hp (fun z => .inl (z _)) fun d e k => ?_
  cases d with
  | list ds =>
    refine .inl (k _ fun v F1 H1 sat1 q _ h1 => ?_)
    obtain ⟨a, vs, rfl, q1, q2⟩ := dp_lst q
    exact ⟨a, rfl, ⟨vs, sat1.fh.seq q1⟩, h1 _ F1 H1 (.refl sat1.fh) (walkF_l q1 q2)⟩
  | tuple ds =>
    refine .inr (.inl (k _ fun v F1 H1 sat1 q _ h1 => ?_))
    obtain ⟨a, vs, rfl, q1, q2⟩ := dp_tup q
    exact ⟨a, rfl, ⟨vs, SqT_mono sat1.fh q1⟩, h1 _ F1 H1 (.refl sat1.fh) (walkF_t q1 q2)⟩
  | str z =>
    refine .inr (.inr (k _ fun v F1 H1 sat1 q _ h1 => ?_))
    cases dp_str q
    exact ⟨z, rfl, h1 _ F1 H1 (.refl sat1.fh) (walkF_s z)⟩
  | _ =>
    refine .inl (k _ fun v F1 H1 sat1 q _ h1 => h1.elim)
def rg1 : List D → R (List D)
  | [.int j] => guard (-(2 ^ 62) ≤ j ∧ j < 2 ^ 62) (.ok (rangeD 0 j.toNat))
  | _ => .no
def rg2 : List D → R (List D)
  | [.int i, .int j] => guard (-(2 ^ 62) ≤ i ∧ i < 2 ^ 62 ∧ -(2 ^ 62) ≤ j ∧ j < 2 ^ 62) (.ok (rangeD i (j - i).toNat))
  | _ => .no
def rg3 : List D → R (List D)
  | [.int i, .int j, .int c] => guard (c = -1 ∧ -(2 ^ 62) ≤ i ∧ i < 2 ^ 62 ∧ -(2 ^ 62) ≤ j ∧ j < 2 ^ 62) (.ok (rangeCD i (-1) (i - j).toNat))
  | _ => .no
theorem daf1 {K : PySem.W.Frag} {F : Hp} {d : D} {vs : List V} (h : DpAll K F vs [d]) : ∃ v, vs = [v] ∧ Dp K F v d := by
  cases h with | cons a b => cases b; exact ⟨_, rfl, a⟩
theorem daf2 {K : PySem.W.Frag} {F : Hp} {d d' : D} {vs : List V} (h : DpAll K F vs [d, d']) : ∃ v w, vs = [v, w] ∧ Dp K F v d ∧ Dp K F w d' := by
  cases h with | cons a b => cases b with | cons a' b' => cases b'; exact ⟨_, _, rfl, a, a'⟩
theorem daf3 {K : PySem.W.Frag} {F : Hp} {d d' d2 : D} {vs : List V} (h : DpAll K F vs [d, d', d2]) : ∃ v w u, vs = [v, w, u] ∧ Dp K F v d ∧ Dp K F w d' ∧ Dp K F u d2 := by
  cases h with | cons a b => cases b with | cons a' b' => cases b' with | cons a2 b2 => cases b2; exact ⟨_, _, _, rfl, a, a', a2⟩
variable {fa : Ev → R (List D)}
theorem di_range1 (hg : Gl X "range") (hm : X.mg "range" = none) (h : DA X W [e] fa) (hs : starEach [e] X.env = [(false, eval e X.env)] := by rfl) : DI X W tg (.Call (.Name "range" p) [e] [] pos) (eB fa rg1) := by
  obtain ⟨t, pa, s⟩ := h
  refine ⟨_, pi_range1 hg hm pa hs, fun F H σ env fp Q sat hp => ?_⟩
  refine s.go sat hp fun ds vs F1 H1 sat1 q _ h1 => ?_
  unfold rg1 at h1
  split at h1
  · obtain ⟨c, h2⟩ := guard_post h1
    obtain ⟨v, rfl, w⟩ := daf1 q
    cases dp_int w
    exact ⟨_, rfl, c.1, c.2, h2 _ F1 H1 (.refl sat1.fh) (walkF_r _ _)⟩
  · exact h1.elim
theorem di_range2 (hg : Gl X "range") (hm : X.mg "range" = none) (h : DA X W [e, e2] fa) (hs : starEach [e, e2] X.env = [(false, eval e X.env), (false, eval e2 X.env)] := by rfl) (hs2 : starEach [e2] X.env = [(false, eval e2 X.env)] := by rfl) : DI X W tg (.Call (.Name "range" p) [e, e2] [] pos) (eB fa rg2) := by
  obtain ⟨t, pa, s⟩ := h
  refine ⟨_, pi_range2 hg hm pa hs hs2, fun F H σ env fp Q sat hp => ?_⟩
  refine s.go sat hp fun ds vs F1 H1 sat1 q _ h1 => ?_
  unfold rg2 at h1
  split at h1
  · obtain ⟨c, h2⟩ := guard_post h1
    obtain ⟨v, w, rfl, w1, w2⟩ := daf2 q
    cases dp_int w1
    cases dp_int w2
    exact ⟨_, _, rfl, c, h2 _ F1 H1 (.refl sat1.fh) (walkF_r _ _)⟩
  · exact h1.elim
theorem di_range3 {e3 : Expr} (hg : Gl X "range") (hm : X.mg "range" = none) (h : DA X W [e, e2, e3] fa) (hs : starEach [e, e2, e3] X.env = (false, eval e X.env) :: starEach [e2, e3] X.env := by rfl) (hs2 : (backTo pos (starEach [e2, e3] X.env)).any (·.1) = false := by rfl) : DI X W tg (.Call (.Name "range" p) [e, e2, e3] [] pos) (eB fa rg3) := by
  obtain ⟨t, pa, s⟩ := h
  refine ⟨_, pi_range3 hg hm pa hs hs2, fun F H σ env fp Q sat hp => ?_⟩
  refine s.go sat hp fun ds vs F1 H1 sat1 q _ h1 => ?_
  unfold rg3 at h1
  split at h1
  · obtain ⟨⟨c, c1, c2, c3, c4⟩, h2⟩ := guard_post h1
    obtain ⟨v, w, u, rfl, w1, w2, w3⟩ := daf3 q
    cases dp_int w1
    cases dp_int w2
    cases dp_int w3
    subst c
    exact ⟨_, _, _, _, rfl, RgC.neg c1 c2 c3 c4, h2 _ F1 H1 (.refl sat1.fh) (walkF_rc _ _ _)⟩
  · exact h1.elim
def sqqD : D → Option (Bool × List D)
  | .list ds => some (false, ds)
  | .tuple ds => some (true, ds)
  | _ => none
theorem sqq_dp {K : PySem.W.Frag} {F : Hp} {v : V} {d : D} {t : Bool} {ds : List D} (h : Dp K F v d) (e : sqqD d = some (t, ds)) : ∃ a vs, v = .ref a ∧ Sqq t K F a vs ∧ DpAll K F vs ds := by
  cases d with
  | list es => cases e; exact dp_lst h
  | tuple es => cases e; exact dp_tup h
  | _ => cases e
def enArg : List D → R (List D)
  | [d] => match sqqD d with
    | some (_, ds) => .ok (enumD 0 ds)
    | none => .no
  | _ => .no
@[simp] theorem enArg_list (ds : List D) : enArg [.list ds] = .ok (enumD 0 ds) := rfl
@[simp] theorem enArg_tup (ds : List D) : enArg [.tuple ds] = .ok (enumD 0 ds) := rfl
def zpArg : List D → R (List D)
  | [d, e] => match sqqD d, sqqD e with
    | some (_, ds), some (_, es) => .ok (zipD ds es)
    | _, _ => .no
  | _ => .no
theorem di_enum {elts : List Expr} {kk : Nat} {tpos : Pos} (hg : Gl X "enumerate") (hm : X.mg "enumerate" = none) (h : DA X W [e] fa) (hs : starEach [e] X.env = [(false, eval e X.env)] := by rfl) : DI X W (.Tuple elts kk tpos) (.Call (.Name "enumerate" p) [e] [] pos) (eB fa enArg) := by
  obtain ⟨t, pa, s⟩ := h
  refine ⟨_, pi_en hg hm pa hs, fun F H σ env fp Q sat hp => ?_⟩
  refine s.go sat hp fun ds vs F1 H1 sat1 q _ h1 => ?_
  unfold enArg at h1
  split at h1
  · split at h1
    · rename_i t es e2
      obtain ⟨v, rfl, w⟩ := daf1 q
      obtain ⟨a, us, rfl, q1, q2⟩ := sqq_dp w e2
      exact ⟨t, a, us, rfl, q1.mono sat1.fh, h1 _ F1 H1 (.refl sat1.fh) (walkF_en q1 q2)⟩
    · exact h1.elim
  · exact h1.elim
theorem di_zip {elts : List Expr} {kk : Nat} {tpos : Pos} (hg : Gl X "zip") (hm : X.mg "zip" = none) (h : DA X W [e, e2] fa) (hs : starEach [e, e2] X.env = (false, eval e X.env) :: starEach [e2] X.env := by rfl)
    (hpl : (backTo pos (starEach [e2] X.env)).any (·.1) = false := by rfl) : DI X W (.Tuple elts kk tpos) (.Call (.Name "zip" p) [e, e2] [] pos) (eB fa zpArg) := by
  obtain ⟨t, pa, s⟩ := h
  refine ⟨_, pi_zp hg hm pa hs hpl, fun F H σ env fp Q sat hp => ?_⟩
  refine s.go sat hp fun ds vs F1 H1 sat1 q _ h1 => ?_
  unfold zpArg at h1
  split at h1
  · split at h1
    · rename_i t es u gs e2 e3
      obtain ⟨v, w, rfl, w1, w2⟩ := daf2 q
      obtain ⟨a, us, rfl, q1, q2⟩ := sqq_dp w1 e2
      obtain ⟨b, us', rfl, q3, q4⟩ := sqq_dp w2 e3
      exact ⟨t, u, a, b, us, us', rfl, q1.mono sat1.fh, q3.mono sat1.fh, h1 _ F1 H1 (.refl sat1.fh) (walkF_zp q1 q2 q3 q4)⟩
    · exact h1.elim
  · exact h1.elim
end
end Mir
end
set_option Elab.async false
set_option linter.all false
set_option maxRecDepth 100000
set_option maxHeartbeats 4000000
noncomputable section
namespace Mir
open PySem PySem.Spec L2

/-! ### a slot stored -/
section
variable {K : PySem.W.Frag} {F H : Hp} {σ : L2.St} {env : Ev} {fp : List Addr}
/-- store an own value; fx: the value's new footprint -/
theorem Sat.put (s : Sat K F H σ env fp) {i : Nat} (hi : i < env.length) {v : V} {o : Ow} {fx : List Addr} (h : OwnAt K F H v o fx) (nd : fx.Nodup) (dj : ∀ b ∈ fx, b ∉ fp) :
    ∃ fp', Sat K F H (σ.set i (some v)) (env.set i (some o)) fp' ∧ ∀ b ∈ fp', b ∈ fx ∨ b ∈ fp := by
  obtain ⟨fr, fo, a1, a2, a3, a4, a5, a6, a7⟩ := s.en.put hi s.nd
  obtain ⟨fp', b1, b2, b3⟩ := (a7 F H [] [] (StepS.of_ext (.refl s.fh) []) fun _ _ => by simp).2 v o fx h nd fun b hb z => dj b hb (a1 b z)
  exact ⟨fp', ⟨s.fh, b3, b1⟩, fun b hb => (b2 b hb).imp id (a1 b)⟩
end

/-! ### targets: ix the slots that are stored -/
def Off (ix : List Nat) (σ σ' : L2.St) : Prop := σ'.length = σ.length ∧ ∀ j, j ∉ ix → σ'[j]? = σ[j]?
theorem Off.refl (σ : L2.St) (ix : List Nat) : Off ix σ σ := ⟨rfl, fun _ _ => rfl⟩
theorem Off.trans {ix jx : List Nat} {σ σ1 σ2 : L2.St} (a : Off ix σ σ1) (b : Off jx σ1 σ2) : Off (ix ++ jx) σ σ2 :=
  ⟨b.1.trans a.1, fun j h => (b.2 j fun z => h (List.mem_append_right _ z)).trans (a.2 j fun z => h (List.mem_append_left _ z))⟩
/-- the reading of a target, by its mirror -/
def tgOf (K : PySem.W.Frag) (ix : List Nat) (g : D → Ev → Option Ev) : TG := fun v σ H Q => ∃ F env fp d env', Sat K F H σ env fp ∧ Dp K F v d ∧ g d env = some env' ∧ ∀ σ' fp', Sat K F H σ' env' fp' → (∀ b ∈ fp', b ∈ fp) → Off ix σ σ' → Q σ' H
def tgsOf (K : PySem.W.Frag) (ix : List Nat) (g : List D → Ev → Option Ev) : TGs := fun v σ H Q => ∃ F env fp d env', Sat K F H σ env fp ∧ DpAll K F v d ∧ g d env = some env' ∧ ∀ σ' fp', Sat K F H σ' env' fp' → (∀ b ∈ fp', b ∈ fp) → Off ix σ σ' → Q σ' H
def DG (X : Cx) (tg : Expr) (ix : List Nat) (g : D → Ev → Option Ev) : Prop := PG X tg (tgOf X.K ix g)
def DGs (X : Cx) (tg : List Expr) (ix : List Nat) (g : List D → Ev → Option Ev) : Prop := PGs X tg (tgsOf X.K ix g)
theorem PG.imp {X : Cx} {tg : Expr} {t t' : TG} (h : PG X tg t) (k : ∀ v σ H Q, t' v σ H Q → t v σ H Q) : PG X tg t' := ⟨fun pins s σ H v u Q I r q => h.run pins s σ H v u Q I r (k v σ H Q q)⟩
theorem PGs.imp {X : Cx} {tg : List Expr} {t t' : TGs} (h : PGs X tg t) (k : ∀ v σ H Q, t' v σ H Q → t v σ H Q) : PGs X tg t' := ⟨fun pins s σ H v u Q I r q => h.run pins s σ H v u Q I r (k v σ H Q q)⟩
def gtName (i : Nat) (d : D) (env : Ev) : Option Ev := if i < env.length then some (env.set i (some (.d d))) else none
def gtNil : List D → Ev → Option Ev
  | [], env => some env
  | _, _ => none
def gtCons (g : D → Ev → Option Ev) (h : List D → Ev → Option Ev) : List D → Ev → Option Ev
  | d :: ds, env => (g d env).bind (h ds)
  | _, _ => none
def gtTup (n : Nat) (h : List D → Ev → Option Ev) : D → Ev → Option Ev
  | .tuple ds, env => if ds.length = n then h ds env else none
  | _, _ => none
section
variable {X : Cx} {e : Expr} {es : List Expr} {pos : Pos}
theorem dg_name (i : Nat) {x : Str} (hN : X.N.Nodup) (hi : X.N[i]? = some x := by rfl) (hx : Loc X.env.scope x := by first | exact Or.inl rfl | exact Or.inr rfl) (hf : X.fn x = true ∨ X.env.scope.names.lookup x = some .local := by first | exact .inl rfl | exact .inr rfl | assumption) : DG X (.Name x pos) [i] (gtName i) := by
  refine PG.imp (pg_name hN hi hx hf) ?_
  rintro v σ H Q ⟨F, env, fp, d, env', sat, hd, he, q⟩
  unfold gtName at he
  split at he
  · cases he
    obtain ⟨fp', s', h'⟩ := sat.put ‹_› (OwnAt.d hd) List.nodup_nil (fun _ z => nomatch z)
    exact q _ fp' s' (fun b hb => (h' b hb).elim (fun z => nomatch z) id) ⟨by simp, fun j hj => List.getElem?_set_ne (fun z => hj (by simp [z]))⟩
  · cases he
theorem dgs_nil : DGs X [] [] gtNil := by
  refine PGs.imp pgs_nil ?_
  rintro v σ H Q ⟨F, env, fp, d, env', sat, hd, he, q⟩
  cases d with
  | nil => cases hd; cases he; exact ⟨rfl, q σ fp sat (fun _ z => z) (.refl _ _)⟩
  | cons d ds => cases he
theorem dgs_cons {ix jx : List Nat} {g : D → Ev → Option Ev} {h : List D → Ev → Option Ev} (h1 : DG X e ix g) (h2 : DGs X es jx h) (hs : (assignEach (e :: es) X.env).map (·.2) = assign e X.env :: (assignEach es X.env).map (·.2) := by rfl) : DGs X (e :: es) (ix ++ jx) (gtCons g h) := by
  refine PGs.imp (pgs_cons h1 h2 hs) ?_
  rintro v σ H Q ⟨F, env, fp, d, env', sat, hd, he, q⟩
  cases d with
  | nil => cases he
  | cons d ds =>
    cases hd with
    | cons d1 d2 =>
      cases e1 : g d env with
      | none => unfold gtCons at he; simp only at he; rw [e1] at he; cases he
      | some env1 =>
        unfold gtCons at he; simp only at he; rw [e1] at he
        refine ⟨_, _, rfl, F, env, fp, d, env1, sat, d1, e1, fun σ1 fp1 sat1 sub1 o1 => ?_⟩
        exact ⟨F, env1, fp1, ds, env', sat1, d2, he, fun σ2 fp2 sat2 sub2 o2 => q σ2 fp2 sat2 (fun b hb => sub1 b (sub2 b hb)) (o1.trans o2)⟩
theorem dg_tup {k n : Nat} {ix : List Nat} {h : List D → Ev → Option Ev} (hc : X.calm = true) (hs : DGs X es ix h) (hn : (assignEach es X.env).length = n := by rfl) (hst : (assignEach es X.env).findIdx? (·.1) = none := by rfl) : DG X (.Tuple es k pos) ix (gtTup n h) := by
  refine PG.imp (pg_tup hc hs hn hst) ?_
  rintro v σ H Q ⟨F, env, fp, d, env', sat, hd, he, q⟩
  unfold gtTup at he
  split at he
  · split at he
    · rename_i ds c
      obtain ⟨a, vs, rfl, h1, h2⟩ := dp_tup hd
      exact ⟨a, vs, rfl, SqT_mono sat.fh h1, (DpAll.len h2).trans c, F, env, fp, ds, env', sat, h2, he, q⟩
    · cases he
  · cases he
end

/-! ### statements -/
inductive SR where
  | no
  | nx (env : Ev)
  | rt (r : Ow) (env : Ev)
  | bk (env : Ev)
  | ct (env : Ev)
  | ex (c : Str) (env : Ev)
def SR.andThen : SR → (Ev → SR) → SR
  | .nx env, f => f env
  | r, _ => r
@[simp] theorem SR.andThen_nx (env : Ev) (f : Ev → SR) : (SR.nx env).andThen f = f env := rfl
@[simp] theorem SR.andThen_rt (r : Ow) (env : Ev) (f : Ev → SR) : (SR.rt r env).andThen f = .rt r env := rfl
@[simp] theorem SR.andThen_ex (c : Str) (env : Ev) (f : Ev → SR) : (SR.ex c env).andThen f = .ex c env := rfl
@[simp] theorem SR.andThen_bk (env : Ev) (f : Ev → SR) : (SR.bk env).andThen f = .bk env := rfl
@[simp] theorem SR.andThen_ct (env : Ev) (f : Ev → SR) : (SR.ct env).andThen f = .ct env := rfl
@[simp] theorem SR.andThen_no (f : Ev → SR) : SR.no.andThen f = .no := rfl
/-- a pure part, then a statement's outcome -/
def R.st {α : Type} (env : Ev) : R α → (α → SR) → SR
  | .no, _ => .no
  | .ok a, f => f a
  | .ex c, _ => .ex c env
@[simp] theorem R.st_ok {α : Type} (env : Ev) (a : α) (f : α → SR) : (R.ok a).st env f = f a := rfl
@[simp] theorem R.st_ex {α : Type} (env : Ev) (c : Str) (f : α → SR) : (R.ex c : R α).st env f = .ex c env := rfl
/-- S: the slots that may be stored -/
def OffS (S : Nat → Bool) (σ σ' : L2.St) : Prop := ∀ j, S j = false → σ'[j]? = σ[j]?
theorem OffS.refl (S : Nat → Bool) (σ : L2.St) : OffS S σ σ := fun _ _ => rfl
theorem OffS.trans {S : Nat → Bool} {σ σ1 σ2 : L2.St} (a : OffS S σ σ1) (b : OffS S σ1 σ2) : OffS S σ σ2 := fun j h => (b j h).trans (a j h)
theorem OffS.set {S : Nat → Bool} {σ : L2.St} {i : Nat} (h : S i = true) (x : Option V) : OffS S σ (σ.set i x) := fun j hj => List.getElem?_set_ne fun z => by rw [z, hj] at h; cases h
theorem OffS.of {S : Nat → Bool} {σ σ' : L2.St} {ix : List Nat} (h : Off ix σ σ') (k : ix.all S = true) : OffS S σ σ' := fun j hj => h.2 j fun z => by
  rw [List.all_eq_true] at k
  rw [k j z] at hj; cases hj
def PostS (X : Cx) (W : WX) (S : Nat → Bool) (σ0 : L2.St) (F H : Hp) (fp : List Addr) (D : Ends) : SR → Prop
  | .no => False
  | .nx env => ∀ σ F' H' fp', OffS S σ0 σ → StepS F H fp F' H' fp' → Sat X.K F' H' σ env fp' → D.nx σ H'
  | .bk env => ∀ σ F' H' fp', OffS S σ0 σ → StepS F H fp F' H' fp' → Sat X.K F' H' σ env fp' → D.bk σ H'
  | .ct env => ∀ σ F' H' fp', OffS S σ0 σ → StepS F H fp F' H' fp' → Sat X.K F' H' σ env fp' → D.ct σ H'
  | .rt r env => ∀ v σ F' H' fx fp', OffS S σ0 σ → StepS F H fp F' H' (fx ++ fp') → Sat X.K F' H' σ env fp' → OwnAt X.K F' H' v r fx → (fx ++ fp').Nodup → D.rt v H'
  | .ex c env => ∀ C σ F' H' fp', X.mg c = some (.ref C) → OffS S σ0 σ → StepS F H fp F' H' fp' → Sat X.K F' H' σ env fp' → W (.ref C) none σ H'
def SmS (X : Cx) (W : WX) (S : Nat → Bool) (t : TS) (f : Ev → SR) : Prop := ∀ F H σ env fp D, Sat X.K F H σ env fp → PostS X W S σ F H fp D (f env) → t D σ H
def DS (X : Cx) (W : WX) (S : Nat → Bool) (st : Stmt) (f : Ev → SR) : Prop := ∃ t, PS X st t ∧ SmS X W S t f
def DSs (X : Cx) (W : WX) (S : Nat → Bool) (st : List Stmt) (f : Ev → SR) : Prop := ∃ t, PSs X st t ∧ SmS X W S t f
section
variable {X : Cx} {W : WX} {S : Nat → Bool} {σ0 σ1 : L2.St} {F H F1 H1 : Hp} {fp fp1 : List Addr} {D : Ends}
theorem PostS.step {r : SR} (h : PostS X W S σ0 F H fp D r) (o : OffS S σ0 σ1) (s : StepS F H fp F1 H1 fp1) : PostS X W S σ1 F1 H1 fp1 D r := by
  cases r with
  | no => exact h
  | nx env => exact fun σ F' H' fp' o' s' => h σ F' H' fp' (o.trans o') (s.trans s')
  | bk env => exact fun σ F' H' fp' o' s' => h σ F' H' fp' (o.trans o') (s.trans s')
  | ct env => exact fun σ F' H' fp' o' s' => h σ F' H' fp' (o.trans o') (s.trans s')
  | rt r env => exact fun v σ F' H' fx fp' o' s' => h v σ F' H' fx fp' (o.trans o') (s.trans s')
  | ex c env => exact fun C σ F' H' fp' m o' s' => h C σ F' H' fp' m (o.trans o') (s.trans s')
theorem PostS.ext {r : SR} (h : PostS X W S σ0 F H fp D r) (e : Ext F H F1 H1) : PostS X W S σ0 F1 H1 fp D r := h.step (.refl _ _) (StepS.of_ext e fp)
theorem PostS.sub {S' : Nat → Bool} {r : SR} (h : PostS X W S σ0 F H fp D r) (k : ∀ j, S j = false → S' j = false) : PostS X W S' σ0 F H fp D r := by
  have o : ∀ {σ : L2.St}, OffS S' σ0 σ → OffS S σ0 σ := fun o j hj => o j (k j hj)
  cases r with
  | no => exact h
  | nx env => exact fun σ F' H' fp' o' s' => h σ F' H' fp' (o o') s'
  | bk env => exact fun σ F' H' fp' o' s' => h σ F' H' fp' (o o') s'
  | ct env => exact fun σ F' H' fp' o' s' => h σ F' H' fp' (o o') s'
  | rt r env => exact fun v σ F' H' fx fp' o' s' => h v σ F' H' fx fp' (o o') s'
  | ex c env => exact fun C σ F' H' fp' m o' s' => h C σ F' H' fp' m (o o') s'
/-- a pure part within a statement -/
theorem Sm.st {α β : Type} {P : Hp → α → β → Hp → Hp → Prop} {t : L2.St → Hp → (β → Hp → Prop) → Prop} {f : Ev → R α} (s : Sm X W P t f) {g : α → SR} {σ : L2.St} {env : Ev} {T : β → Hp → Prop} (sat : Sat X.K F H σ env fp)
    (h : PostS X W S σ F H fp D ((f env).st env g)) (k : ∀ a v F1 H1, Sat X.K F1 H1 σ env fp → P H a v F1 H1 → Ext F H F1 H1 → PostS X W S σ F1 H1 fp D (g a) → T v H1) : t σ H T := by
  refine s F H σ env fp T sat ?_
  cases e : f env with
  | no => rw [e] at h; exact h
  | ok a =>
    rw [e] at h
    exact fun v F' H' x p => k a v F' H' (sat.ext x) p x (PostS.ext (show PostS X W S σ F H fp D (g a) from h) x)
  | ex c =>
    rw [e] at h
    exact fun C F' H' m x => h C σ F' H' fp m (.refl _ _) (StepS.of_ext x fp) (sat.ext x)
end
section
variable {X : Cx} {W : WX} {S : Nat → Bool} {st : Stmt} {sts : List Stmt} {e : Expr} {pos : Pos} {fs gs : Ev → SR}
def sSkip (env : Ev) : SR := .nx env
def sSeq (f g : Ev → SR) (env : Ev) : SR := (f env).andThen g
theorem dss_nil : DSs X W S [] sSkip := ⟨_, pss_nil, fun F H σ env fp D sat h => h σ F H fp (.refl _ _) (StepS.of_ext (.refl sat.fh) fp) sat⟩
theorem dss_one (h : DS X W S st fs) : DSs X W S [st] fs := by
  obtain ⟨t, p, s⟩ := h
  exact ⟨_, pss_one p, s⟩
theorem seq_sm {t u : TS} (s : SmS X W S t fs) (s' : SmS X W S u gs) : SmS X W S (tSeq t u) (sSeq fs gs) := by
  intro F H σ env fp D sat h
  refine s F H σ env fp _ sat ?_
  unfold sSeq at h
  cases e : fs env with
  | no => rw [e] at h; exact h
  | nx env1 =>
    rw [e] at h
    exact fun σ1 F1 H1 fp1 o1 st1 sat1 => s' F1 H1 σ1 env1 fp1 D sat1 (PostS.step (show PostS X W S σ F H fp D (gs env1) from h) o1 st1)
  | bk env1 => rw [e] at h; exact h
  | ct env1 => rw [e] at h; exact h
  | rt r env1 => rw [e] at h; exact h
  | ex c env1 => rw [e] at h; exact h
theorem dss_cons (h : DS X W S st fs) (h2 : DSs X W S sts gs) : DSs X W S (st :: sts) (sSeq fs gs) := by
  obtain ⟨t, p, s⟩ := h
  obtain ⟨t', p', s'⟩ := h2
  exact ⟨_, pss_cons p p', seq_sm s s'⟩
theorem ds_pass : DS X W S (.Pass pos) sSkip := ⟨_, ps_pass, fun F H σ env fp D sat h => h σ F H fp (.refl _ _) (StepS.of_ext (.refl sat.fh) fp) sat⟩
theorem ds_doc {x j pos'} : DS X W S (.Expr (.Constant (.str x) j pos) pos') sSkip := ⟨_, ps_doc, fun F H σ env fp D sat h => h σ F H fp (.refl _ _) (StepS.of_ext (.refl sat.fh) fp) sat⟩
def sBreak (env : Ev) : SR := .bk env
def sCont (env : Ev) : SR := .ct env
theorem ds_break : DS X W S (.Break pos) sBreak := ⟨_, ps_break, fun F H σ env fp D sat h => h σ F H fp (.refl _ _) (StepS.of_ext (.refl sat.fh) fp) sat⟩
theorem ds_cont : DS X W S (.Continue pos) sCont := ⟨_, ps_continue, fun F H σ env fp D sat h => h σ F H fp (.refl _ _) (StepS.of_ext (.refl sat.fh) fp) sat⟩
/-- name = e -/
def sSet (i : Nat) (f : Ev → R Ow) (env : Ev) : SR := (f env).st env fun r => if i < env.length then .nx (env.set i (some r)) else .no
theorem fresh_dj {K : PySem.W.Frag} {H F' H' : Hp} {F : Hp} {σ : L2.St} {env : Ev} {fp fx : List Addr} (sat : Sat K F H σ env fp) (n : ∀ b ∈ fx, H b = none) : ∀ b ∈ fx, b ∉ fp := fun b hb z => by
  obtain ⟨_, vs, e⟩ := sat.en.there b z
  rw [n b hb] at e
  cases e
theorem put_step {K : PySem.W.Frag} {F H F1 H1 : Hp} {σ : L2.St} {env : Ev} {fp fx : List Addr} {i : Nat} {v : V} {r : Ow} (sat : Sat K F H σ env fp) (x : Ext F H F1 H1) (h : OwnAt K F1 H1 v r fx) (nd : fx.Nodup) (n : ∀ b ∈ fx, H b = none) (hi : i < env.length) :
    ∃ fp', StepS F H fp F1 H1 fp' ∧ Sat K F1 H1 (σ.set i (some v)) (env.set i (some r)) fp' := by
  obtain ⟨fp', s', h'⟩ := (sat.ext x).put hi h nd (fresh_dj (F' := F) (H' := H) sat n)
  exact ⟨fp', ⟨x.ff, fun b o e _ => x.hh b o e, fun b o e => (x.fn b o e).imp id .inr, fun b hb => (h' b hb).elim (fun z => .inr (n b z)) .inl⟩, s'⟩
theorem ds_set {f : Ev → R Ow} {x : Str} {pos' : Pos} (i : Nat) (hN : X.N.Nodup) (he : DE X W e f) (hi : X.N[i]? = some x := by rfl) (hx : Loc X.env.scope x := by first | exact Or.inl rfl | exact Or.inr rfl)
    (hs : swapsWith e (some (.Name x pos')) pos.line X.env = pure false := by rfl) (hf : X.fn x = true ∨ X.env.scope.names.lookup x = some .local := by first | exact .inl rfl | exact .inr rfl | assumption) (hS : S i = true := by rfl) : DS X W S (.Assign [.Name x pos'] e pos) (sSet i f) := by
  obtain ⟨t, p, s⟩ := he
  refine ⟨_, ps_set hN hi hx p hs hf, fun F H σ env fp D sat h => ?_⟩
  refine s F H σ env fp _ sat ?_
  unfold sSet at h
  cases e : f env with
  | no => rw [e] at h; exact h
  | ex c => rw [e] at h; exact fun C F' H' m x => h C σ F' H' fp m (.refl _ _) (StepS.of_ext x fp) (sat.ext x)
  | ok r =>
    rw [e] at h
    intro v F' H' x ⟨fx, q, nd, n⟩
    have h' : PostS X W S σ F H fp D (if i < env.length then .nx (env.set i (some r)) else .no) := h
    split at h'
    · obtain ⟨fp', s1, s2⟩ := put_step sat x q nd n ‹_›
      exact h' _ F' H' fp' (.set hS _) s1 s2
    · exact h'.elim
/-- targets = e, e frozen -/
def sAsg (g : D → Ev → Option Ev) (f : Ev → R D) (env : Ev) : SR := (f env).st env fun d => match g d env with
  | some env' => .nx env'
  | none => .no
theorem ds_asg {f : Ev → R D} {g : D → Ev → Option Ev} {tg : Expr} {ix : List Nat} (he : DF X W e f) (hg : DG X tg ix g) (hs : swapsWithSole [tg] e pos.line X.env = pure false := by rfl) (hw : swappedStores [tg] e X.env = pure none := by rfl)
    (h1 : (assignEach [tg] X.env).map (·.2) = [assign tg X.env] := by rfl) (hS : ix.all S = true := by rfl) : DS X W S (.Assign [tg] e pos) (sAsg g f) := by
  obtain ⟨t, p, s⟩ := he
  refine ⟨_, ps_asg p hg hs hw h1, fun F H σ env fp D sat h => ?_⟩
  refine s.st sat h fun d v F1 H1 sat1 q _ h1 => ?_
  split at h1
  · rename_i env' e
    exact ⟨F1, env, fp, d, env', sat1, q, e, fun σ' fp' sat' sub off => h1 σ' F1 H1 fp' (.of off hS) ((StepS.of_ext (.refl sat1.fh) fp).subset sub) sat'⟩
  · exact h1.elim
/-- an expression whose value is dropped -/
def sDrop (f : Ev → R D) (env : Ev) : SR := (f env).st env fun _ => .nx env
theorem ds_expr {f : Ev → R D} (he : DF X W e f) (hs : swapsWith e none pos.line X.env = pure false := by rfl) : DS X W S (.Expr e pos) (sDrop f) := by
  obtain ⟨t, p, s⟩ := he
  refine ⟨_, ps_expr p hs, fun F H σ env fp D sat h => ?_⟩
  exact s.st sat h fun d v F1 H1 sat1 q _ h1 => h1 σ F1 H1 fp (.refl _ _) (StepS.of_ext (.refl sat1.fh) fp) sat1
def sRet (f : Ev → R Ow) (env : Ev) : SR := (f env).st env fun r => .rt r env
theorem ds_ret {f : Ev → R Ow} (he : DE X W e f) : DS X W S (.Return (some e) pos) (sRet f) := by
  obtain ⟨t, p, s⟩ := he
  refine ⟨_, ps_ret p, fun F H σ env fp D sat h => ?_⟩
  refine s F H σ env fp _ sat ?_
  unfold sRet at h
  cases e : f env with
  | no => rw [e] at h; exact h
  | ex c => rw [e] at h; exact fun C F' H' m x => h C σ F' H' fp m (.refl _ _) (StepS.of_ext x fp) (sat.ext x)
  | ok r =>
    rw [e] at h
    intro v F' H' x ⟨fx, q, nd, n⟩
    have dj := fresh_dj (F' := F) (H' := H) sat n
    refine h v σ F' H' fx fp (.refl _ _) ⟨x.ff, fun b o e _ => x.hh b o e, fun b o e => (x.fn b o e).imp id .inr, fun b hb => ?_⟩ (sat.ext x) q ?_
    · rcases List.mem_append.mp hb with z | z
      · exact .inr (n b z)
      · exact .inl z
    · rw [List.nodup_append]; exact ⟨nd, sat.nd, fun a ha b hb e => dj a ha (e ▸ hb)⟩
def sRetN (env : Ev) : SR := .rt (.d .none) env
theorem ds_retN : DS X W S (.Return none pos) sRetN := ⟨_, ps_retN, fun F H σ env fp D sat h => h _ σ F H [] fp (.refl _ _) (StepS.of_ext (.refl sat.fh) fp) sat (.d .non) sat.nd⟩
/-- return x, x given away -/
def sRetV (i : Nat) (env : Ev) : SR := match env[i]? with
  | some (some o) => .rt o (env.set i none)
  | _ => .no
theorem ds_retV (i : Nat) {x : Str} {pos' : Pos} (hN : X.N[i]? = some x := by rfl) (hv : Vis X.env.scope x := by first | exact Or.inl rfl | exact Or.inr (Or.inl rfl) | exact Or.inr (Or.inr rfl)) (hd : (x == ("__debug__" : Str)) = false := by decide)
    (hcd : (x == ("__classdict__" : Str)) = false := by decide) : DS X W S (.Return (some (.Name x pos')) pos) (sRetV i) := by
  refine ⟨_, ps_ret (pe_var hN hv hd hcd), fun F H σ env fp D sat h => ?_⟩
  unfold sRetV at h
  split at h
  · rename_i o he
    have hi : i < env.length := (List.getElem?_eq_some_iff.mp he).1
    obtain ⟨fr, fo, a1, a2, a3, a3', a4, a5, a6⟩ := sat.en.put hi sat.nd
    obtain ⟨v, e1, e2⟩ := a5 o he
    have e3 := (a6 F H [] [] (StepS.of_ext (.refl sat.fh) []) fun _ _ => by simp).1 (some v)
    have es : σ.set i (some v) = σ := by
      refine List.ext_getElem? fun j => ?_
      by_cases hj : i = j
      · subst hj
        rw [List.getElem?_set_self (List.getElem?_eq_some_iff.mp e1).1]
        exact e1.symm
      · rw [List.getElem?_set_ne hj]
    rw [es] at e3
    refine ⟨v, e1, h v _ F H fo fr (.refl _ _) ((StepS.of_ext (.refl sat.fh) fp).subset fun b hb => ?_) ⟨sat.fh, e3, a3⟩ e2 ?_⟩
    · exact (List.mem_append.mp hb).elim (a2 b) (a1 b)
    · rw [List.nodup_append]; exact ⟨a3', a3, fun a ha b hb e => a4 a ha (e ▸ hb)⟩
  · exact h.elim
/-- a def's own list made data, ahead of a statement -/
def frzV (i : Nat) (env : Ev) : Ev := match env[i]? with
  | some (some o) => env.set i (some (.d (viewD o)))
  | _ => env
theorem frz_sat {K : PySem.W.Frag} {F H : Hp} {σ : L2.St} {env : Ev} {fp : List Addr} (i : Nat) (sat : Sat K F H σ env fp) : ∃ F' fp', StepS F H fp F' H fp' ∧ Sat K F' H σ (frzV i env) fp' := by
  unfold frzV
  split
  · rename_i o he
    have hi : i < env.length := (List.getElem?_eq_some_iff.mp he).1
    obtain ⟨fr, fo, a1, a2, a3, a3', a4, a5, a6⟩ := sat.en.put hi sat.nd
    obtain ⟨v, e1, e2⟩ := a5 o he
    have nx : ∀ b ∈ fo, F b = none := fun b hb => (OwnAt.there _ _ _ e2 b hb).1
    have st : StepS F H fo (frzAt F H fo) H [] := ⟨frzAt_same nx, fun b o e _ => e, fun b o e => (frzAt_of e).imp id .inl, fun b z => nomatch z⟩
    obtain ⟨fp', b1, b2, b3⟩ := (a6 (frzAt F H fo) H fo [] st fun b hb z => a4 b z hb).2 v _ [] (.d (OwnAt.frz nx _ _ _ e2 fun _ z => z)) List.nodup_nil (fun _ z => nomatch z)
    have es : σ.set i (some v) = σ := by
      refine List.ext_getElem? fun j => ?_
      by_cases hj : i = j
      · subst hj
        rw [List.getElem?_set_self (by rw [sat.en.len]; exact hi)]
        exact e1.symm
      · rw [List.getElem?_set_ne hj]
    rw [es] at b3
    exact ⟨_, fp', ⟨frzAt_same nx, fun b o e _ => e, fun b o e => (frzAt_of e).imp id fun z => .inl (a2 b z), fun b hb => .inl ((b2 b hb).elim (fun z => nomatch z) (a1 b))⟩, ⟨frzAt_in sat.fh, b3, b1⟩⟩
  · exact ⟨F, fp, StepS.of_ext (.refl sat.fh) fp, sat⟩
def sFrz (i : Nat) (f : Ev → SR) (env : Ev) : SR := f (frzV i env)
theorem frz_sm {t : TS} (i : Nat) (s : SmS X W S t fs) : SmS X W S t (sFrz i fs) := by
  intro F H σ env fp D sat h
  obtain ⟨F', fp', s1, s2⟩ := frz_sat i sat
  exact s F' H σ _ fp' D s2 (PostS.step h (.refl _ _) s1)
theorem ds_frz (i : Nat) (h : DS X W S st fs) : DS X W S st (sFrz i fs) := by
  obtain ⟨t, p, s⟩ := h
  exact ⟨t, p, frz_sm i s⟩
def sIf (c : Ev → R Bool) (f g : Ev → SR) (env : Ev) : SR := (c env).st env fun b => if b = true then f env else g env
theorem ds_if {c : Expr} {a b : List Stmt} {fc : Ev → R Bool} (hc : DT X W c fc) (ha : DSs X W S a fs) (hb : DSs X W S b gs) : DS X W S (.If c a b pos) (sIf fc fs gs) := by
  obtain ⟨t, p, s⟩ := hc
  obtain ⟨ta, pa, sa⟩ := ha
  obtain ⟨tb, pb, sb⟩ := hb
  refine ⟨_, ps_if p pa pb, fun F H σ env fp D sat h => ?_⟩
  refine s.st sat h fun k v F1 H1 sat1 q _ h1 => ?_
  obtain rfl : v = k := q
  cases v with
  | true => exact sa F1 H1 σ env fp D sat1 h1
  | false => exact sb F1 H1 σ env fp D sat1 h1
/-- for target in ..: body -/
def forL (g : D → Ev → Option Ev) (f : Ev → SR) : List D → Ev → SR
  | [], env => .nx env
  | d :: ds, env => match g d env with
    | none => .no
    | some env1 => match f env1 with
      | .nx env2 => forL g f ds env2
      | .ct env2 => forL g f ds env2
      | .bk env2 => .nx env2
      | .rt r env2 => .rt r env2
      | .ex c env2 => .ex c env2
      | .no => .no
def sFor (it : Ev → R (List D)) (g : D → Ev → Option Ev) (f : Ev → SR) (env : Ev) : SR := (it env).st env fun ds => forL g f ds env
theorem ds_for {tg iter : Expr} {body : List Stmt} {fi : Ev → R (List D)} {g : D → Ev → Option Ev} (hp : PassesOwn (model X.prog X.w) X.A X.env X.xe) (hc : X.calm = true) {ix : List Nat} (hi : DI X W tg iter fi) (hg : DG X tg ix g) (hb : DSs X W S body fs)
    (hs : ∀ x, foldedSetIterable iter X.env x = pure x := by intro _; rfl) (hS : ix.all S = true := by rfl) : DS X W S (.For tg iter body [] pos) (sFor fi g fs) := by
  obtain ⟨wi, pi, si⟩ := hi
  obtain ⟨tb, pb, sb⟩ := hb
  refine ⟨_, ps_for hp hc pi hg pb hs, fun F H σ env fp D sat h => ?_⟩
  refine si.st sat h fun items J F1 H1 sat1 wk _ h1 => ?_
  have wk : WalkF X.K J F1 items := wk
  refine ⟨fun i m σ' H' => m = items.length - i ∧ i ≤ items.length ∧ ∃ F' env' fp', Same F1 F' ∧ Sat X.K F' H' σ' env' fp' ∧ PostS X W S σ' F' H' fp' D (forL g fs (items.drop i) env'),
    ⟨items.length, by simp, Nat.zero_le _, F1, env, fp, Same.refl _, sat1, h1⟩, ?_⟩
  rintro i m σ' H' ⟨rfl, hi, F', env', fp', st, sat', h2⟩
  by_cases hlt : i < items.length
  · refine .inr ⟨wk.go i F' H' hlt st sat'.fh, fun σ2 H2 => ∃ F2 env2 fp2, Same F1 F2 ∧ Sat X.K F2 H2 σ2 env2 fp2 ∧ PostS X W S σ2 F2 H2 fp2 D (forL g fs (items.drop (i + 1)) env2), ?_, ?_⟩
    · rintro σ2 H2 ⟨F2, env2, fp2, a, b, c⟩
      exact ⟨items.length - (i + 1), by omega, rfl, hlt, F2, env2, fp2, a, b, c⟩
    · intro x H3 y
      obtain ⟨d, F3, e1, x3, dp⟩ := wk.yld i F' H' x H3 hlt st sat'.fh y
      have ed : items.drop i = d :: items.drop (i + 1) := by
        rw [List.drop_eq_getElem_cons hlt]
        have : items[i] = d := by rw [List.getElem?_eq_getElem hlt] at e1; exact Option.some.inj e1
        rw [this]
      rw [ed] at h2
      unfold forL at h2
      cases eg : g d env' with
      | none => rw [eg] at h2; exact h2.elim
      | some env1 =>
        rw [eg] at h2
        simp only at h2
        refine ⟨F3, env', fp', d, env1, sat'.ext x3, dp, eg, fun σ4 fp4 sat4 sub4 off4 => ?_⟩
        have st4 : StepS F' H' fp' F3 H3 fp4 := (StepS.of_ext x3 fp').subset sub4
        have h4 := PostS.step h2 (.of off4 hS) st4
        refine sb F3 H3 σ4 env1 fp4 _ sat4 ?_
        cases ef : fs env1 with
        | no => rw [ef] at h4; exact h4
        | nx env2 => rw [ef] at h4; exact fun σ5 F5 H5 fp5 o5 s5 sat5 => ⟨F5, env2, fp5, st.trans (x3.ff.trans s5.ff), sat5, PostS.step h4 o5 s5⟩
        | ct env2 => rw [ef] at h4; exact fun σ5 F5 H5 fp5 o5 s5 sat5 => ⟨F5, env2, fp5, st.trans (x3.ff.trans s5.ff), sat5, PostS.step h4 o5 s5⟩
        | bk env2 => rw [ef] at h4; exact h4
        | rt r env2 => rw [ef] at h4; exact h4
        | ex c env2 => rw [ef] at h4; exact h4
  · have e : i = items.length := by omega
    subst e
    rw [List.drop_length] at h2
    exact .inl ⟨wk.stop F' H' st sat'.fh, h2 σ' F' H' fp' (.refl _ _) (StepS.of_ext (.refl sat'.fh) fp') sat'⟩
/-- while c: body, at most n turns -/
def whileN (c : Ev → R Bool) (f : Ev → SR) : Nat → Ev → SR
  | 0, _ => .no
  | n + 1, env => (c env).st env fun b => if b = true then (match f env with
      | .nx env2 => whileN c f n env2
      | .ct env2 => whileN c f n env2
      | .bk env2 => .nx env2
      | .rt r env2 => .rt r env2
      | .ex c env2 => .ex c env2
      | .no => .no) else .nx env
theorem ds_while {c : Expr} {body : List Stmt} {fc : Ev → R Bool} (n : Nat) (hp : PassesOwn (model X.prog X.w) X.A X.env X.xe) (hc : DT X W c fc) (hb : DSs X W S body fs) : DS X W S (.While c body [] pos) (whileN fc fs n) := by
  obtain ⟨tc, pc, sc⟩ := hc
  obtain ⟨tb, pb, sb⟩ := hb
  refine ⟨_, ps_while hp pc pb, fun F H σ env fp D sat h => ?_⟩
  refine ⟨fun m σ' H' => ∃ F' env' fp', Sat X.K F' H' σ' env' fp' ∧ PostS X W S σ' F' H' fp' D (whileN fc fs m env'), ⟨n, F, env, fp, sat, h⟩, ?_⟩
  rintro m σ' H' ⟨F', env', fp', sat', h2⟩
  cases m with
  | zero => exact h2.elim
  | succ m =>
    unfold whileN at h2
    refine sc.st sat' h2 fun k v F1 H1 sat1 q x1 h3 => ?_
    obtain rfl : v = k := q
    cases v with
    | false => exact h3 σ' F1 H1 fp' (.refl _ _) (StepS.of_ext (.refl sat1.fh) fp') sat1
    | true =>
      rw [if_pos rfl] at h3 ⊢
      refine ⟨fun σ5 H5 => ∃ F5 env2 fp5, Sat X.K F5 H5 σ5 env2 fp5 ∧ PostS X W S σ5 F5 H5 fp5 D (whileN fc fs m env2), fun σ5 H5 z => ⟨m, Nat.lt_succ_self m, z⟩, ?_⟩
      refine sb F1 H1 σ' env' fp' _ sat1 ?_
      cases ef : fs env' with
      | no => rw [ef] at h3; exact h3
      | nx env2 => rw [ef] at h3; exact fun σ5 F5 H5 fp5 o5 s5 sat5 => ⟨F5, env2, fp5, sat5, PostS.step h3 o5 s5⟩
      | ct env2 => rw [ef] at h3; exact fun σ5 F5 H5 fp5 o5 s5 sat5 => ⟨F5, env2, fp5, sat5, PostS.step h3 o5 s5⟩
      | bk env2 => rw [ef] at h3; exact h3
      | rt r env2 => rw [ef] at h3; exact h3
      | ex c env2 => rw [ef] at h3; exact h3
end
end Mir
end
set_option Elab.async false
set_option linter.all false
set_option maxRecDepth 100000
set_option maxHeartbeats 4000000
noncomputable section
namespace Mir
open PySem PySem.Spec L2

/-! ### a def's promise, by its mirror -/
def PostF (K : PySem.W.Frag) (mg : Str → Option Value) (F H : Hp) : R Ow → VK → XK → Prop
  | .no, _, _ => False
  | .ok r, Q, _ => ∀ v F' H', Ext F H F' H' → POw K H r v F' H' → Q v H'
  | .ex c, _, E => ∀ C F' H', mg c = some (.ref C) → Ext F H F' H' → E (.ref C) none H'
def spM (K : PySem.W.Frag) (mg : Str → Option Value) (n : Nat) (m : List D → R Ow) : Sp := fun vs H Q E => ∃ F ds, Same F H ∧ DpAll K F vs ds ∧ ds.length = n ∧ PostF K mg F H (m ds) Q E
theorem spM_len {K : PySem.W.Frag} {mg : Str → Option Value} {n : Nat} {m : List D → R Ow} {vs : List V} {H : Hp} {Q : VK} {E : XK} (h : spM K mg n m vs H Q E) : vs.length = n := by
  obtain ⟨F, ds, _, h1, h2, _⟩ := h
  rw [DpAll.len h1, h2]
def envOf (k : Nat) (ds : List D) : Ev := ds.map (fun d => some (Ow.d d)) ++ List.replicate k none
def runB (k : Nat) (f : Ev → SR) (ds : List D) : R Ow := match f (envOf k ds) with
  | .nx _ => .ok (.d .none)
  | .rt r _ => .ok r
  | .ex c _ => .ex c
  | _ => .no
theorem env_start {K : PySem.W.Frag} {F H : Hp} (k : Nat) : ∀ {vs : List V} {ds : List D}, DpAll K F vs ds → EnvAt K F H (vs.map some ++ List.replicate k none) (envOf k ds) []
  | vs, [], h => by
    cases h
    show EnvAt K F H (List.replicate k none) (List.replicate k none) []
    induction k with
    | zero => exact .nil
    | succ k ih => exact .non ih
  | vs, d :: ds, h => by
    cases h with
    | cons h1 h2 => exact .som (fp := []) (.d h1) (env_start k h2)
section
variable {P : Program} {w : World} {K : PySem.W.Frag} {mg : Str → Option Value} {base : Heap}
theorem mk_fn {x qual : Str} {st : Stmt} {f : Addr} {fd : FuncData} {N ps : List Str} {k l : Nat} {fb : Ev → SR} {m : List D → R Ow} (F : Fun K x qual st f fd) (S : FnScope N ps (defScope st)) (hl : N.length = ps.length + l) (hm : ∀ ds, m ds = runB l fb ds)
    (hb : ∀ (cdv : Value) (A : Around) (outer : List Env) (s : Shared) (H : Hp) (E : XK), Room k (A.deeper (PyProof.Rows.envOfC qual (defScope st) s.heap.objs.size f cdv)) →
      DSs (cxOf (L2.CX P w) P w K mg base N qual (defScope st) f cdv A outer s H E) (fun cls d _ H => E cls d H) (fun _ => true) (defBody st) fb) : FnOk P w K mg base (L2.CX P w) (k + 1) f fd ps (spM K mg ps.length m) := by
  refine F.okX S (fun vs H Q E h => spM_len h) (fun cdv A outer s H vs Q E hr h => ?_)
  obtain ⟨t, p, sm⟩ := hb cdv A outer s H E hr
  refine ⟨t, p, ?_⟩
  have hlen := spM_len h
  obtain ⟨F0, ds, s1, s2, s3, s4⟩ := h
  have e0 : start N vs = vs.map some ++ List.replicate l none := by
    show vs.map some ++ List.replicate (N.length - vs.length) none = _
    rw [hl, hlen, Nat.add_sub_cancel_left]
  rw [e0]
  have sat : Sat K F0 H (vs.map some ++ List.replicate l none) (envOf l ds) [] := ⟨s1, env_start l s2, List.nodup_nil⟩
  rw [hm] at s4
  unfold runB at s4
  have ext : ∀ {F' H' : Hp} {fp' : List Addr}, StepS F0 H [] F' H' fp' → Same F' H' → Ext F0 H F' H' := fun st sf => ⟨st.ff, fun b o e => st.fr b o e (by simp), fun b o e => (st.fn b o e).imp id fun z => z.elim (fun z => nomatch z) id, sf⟩
  refine sm F0 H _ _ [] _ sat ?_
  cases e : fb (envOf l ds) with
  | no => rw [e] at s4; exact s4
  | bk env => rw [e] at s4; exact s4.elim
  | ct env => rw [e] at s4; exact s4.elim
  | nx env => rw [e] at s4; exact fun σ' F' H' fp' _ st sat' => s4 .non F' H' (ext st sat'.fh) (own_d .non)
  | rt r env =>
    rw [e] at s4
    intro v σ' F' H' fx fp' _ st sat' ow nd
    refine s4 v F' H' (ext st sat'.fh) ⟨fx, ow, (List.nodup_append.mp nd).1, fun b hb => ?_⟩
    exact (st.sub b (List.mem_append_left _ hb)).elim (fun z => nomatch z) id
  | ex c env => rw [e] at s4; exact fun C σ' F' H' fp' m _ st sat' => s4 C F' H' m (ext st sat'.fh)
end
section
variable {X : Cx} {W : WX} {e : Expr} {es : List Expr} {pos p : Pos}
theorem de_call {k n : Nat} {f : Addr} {fd : FuncData} {ps : List Str} {x : Str} {m : List D → R Ow} {fa : Ev → R (List D)} (F : FnOk X.prog X.w X.K X.mg X.base (L2.CX X.prog X.w) k f fd ps (spM X.K X.mg n m)) (tk : Takes X W) (hr : Room k X.A) (hg : Gl X x) (hm : X.mg x = some (.ref f))
    (hk : PySem.W.keepIn X.K (.ref f) = true) (hb : Binds X.K fd ps []) (ha : DA X W (e :: es) fa) (hn : ∀ ds env, fa env = .ok ds → ds.length = n)
    (hdb : (x == ("__debug__" : Str)) = false := by decide) (he : starEach (e :: es) X.env = (false, eval e X.env) :: starEach es X.env := by rfl) (hpl : (backTo pos (starEach es X.env)).any (·.1) = false := by rfl) :
    DE X W (.Call (.Name x p) (e :: es) [] pos) (eB fa m) := by
  obtain ⟨t, pa, s⟩ := ha
  refine ⟨_, pe_callS F hr hg hm hk hb (fun σ => passAt tk σ) pa hdb he hpl, fun F0 H σ env fp Q sat hp => ?_⟩
  refine s.choose sat hp (fun z => z _) fun ds ed k => k _ fun vs F1 H1 sat1 q _ h1 => ?_
  refine ⟨F1, ds, sat1.fh, q, hn ds env ed, ?_⟩
  cases em : m ds with
  | no => rw [em] at h1; exact h1
  | ok r => rw [em] at h1; exact h1
  | ex c => rw [em] at h1; exact h1
theorem aNil_len {ds : List D} {env : Ev} (h : aNil env = .ok ds) : ds.length = 0 := by cases h; rfl
theorem aCons_len {n : Nat} {f : Ev → R D} {g : Ev → R (List D)} (ih : ∀ ds env, g env = .ok ds → ds.length = n) : ∀ ds env, aCons f g env = .ok ds → ds.length = n + 1 := fun ds env h => by
  unfold aCons at h
  cases e1 : f env with
  | no => rw [e1] at h; cases h
  | ex c => rw [e1] at h; cases h
  | ok d =>
    rw [e1] at h
    have h' : (g env).map (fun ds => d :: ds) = .ok ds := h
    cases e2 : g env with
    | no => rw [e2] at h'; cases h'
    | ex c => rw [e2] at h'; cases h'
    | ok es =>
      rw [e2] at h'
      cases h'
      simp [ih es env e2]

/-! ### list comprehensions -/
/-- the reading that a mirror is -/
def tOf (K : PySem.W.Frag) (Pst : Hp → Hp → L2.St → R α → (β → Hp → Prop) → Prop) (f : Ev → R α) : L2.St → Hp → (β → Hp → Prop) → Prop := fun σ H Q => ∃ F env fp, Sat K F H σ env fp ∧ Pst F H σ (f env) Q
def W0 : WX := fun _ _ _ _ => False
theorem PE.imp {X : Cx} {e : Expr} {t t' : TE} (h : PE X e t) (k : ∀ σ H Q, t' σ H Q → t σ H Q) : PE X e t' := ⟨fun pins s σ H Q I q => h.run pins s σ H Q I (k σ H Q q)⟩
theorem PTs.imp {X : Cx} {e : List Expr} {t t' : TT} (h : PTs X e t) (k : ∀ σ H Q, t' σ H Q → t σ H Q) : PTs X e t' := ⟨fun pins s σ H Q I q => h.run pins s σ H Q I (k σ H Q q)⟩
theorem DE.can {X : Cx} {W : WX} {e : Expr} {f : Ev → R Ow} (h : DE X W e f) : PE X e (tOf X.K (Post X W (POw X.K)) f) := by
  obtain ⟨t, p, s⟩ := h
  refine PE.imp p ?_
  rintro σ H Q ⟨F, env, fp, sat, h⟩
  exact s F H σ env fp Q sat h
/-- a clause's tests -/
def DTs (X : Cx) (W : WX) (ifs : List Expr) (f : Ev → R Bool) : Prop := ∃ t, PTs X ifs t ∧ Sm X W PTb t f
def cYes (_ : Ev) : R Bool := .ok true
theorem dts_nil : DTs X W [] cYes := ⟨_, pts_nil, fun F H σ env fp Q sat h => h true F H (.refl sat.fh) rfl⟩
theorem dts_one {f : Ev → R Bool} (h : DT X W e f) : DTs X W [e] f := by
  obtain ⟨t, p, s⟩ := h
  exact ⟨_, pts_one p, s⟩
theorem DTs.can {X : Cx} {W : WX} {e : List Expr} {f : Ev → R Bool} (h : DTs X W e f) : L2.PTs X e (tOf X.K (Post X W PTb) f) := by
  obtain ⟨t, p, s⟩ := h
  refine PTs.imp p ?_
  rintro σ H Q ⟨F, env, fp, sat, h⟩
  exact s F H σ env fp Q sat h
def wipeE (env : Ev) : List Nat → Ev
  | [] => env
  | v :: vs => (wipeE env vs).set v none
theorem set_none_len {α : Type} {l : List (Option α)} {i : Nat} (h : ¬ i < l.length) (x : Option α) : l.set i x = l := List.set_eq_of_length_le (by omega)
theorem wipe_sat {K : PySem.W.Frag} {F H : Hp} {σ : L2.St} {env : Ev} {fp : List Addr} (sat : Sat K F H σ env fp) : ∀ vs : List Nat, ∃ fp', Sat K F H (wipe σ vs) (wipeE env vs) fp' ∧ ∀ b ∈ fp', b ∈ fp
  | [] => ⟨fp, sat, fun _ z => z⟩
  | v :: vs => by
    obtain ⟨fp1, s1, h1⟩ := wipe_sat sat vs
    by_cases hi : v < (wipeE env vs).length
    · obtain ⟨fr, fo, a1, a2, a3, a3', a4, a5, a6⟩ := s1.en.put hi s1.nd
      have e3 := (a6 F H [] [] (StepS.of_ext (.refl sat.fh) []) fun _ _ => by simp).1 none
      exact ⟨fr, ⟨sat.fh, e3, a3⟩, fun b hb => h1 b (a1 b hb)⟩
    · refine ⟨fp1, ?_, h1⟩
      show Sat K F H ((wipe σ vs).set v none) ((wipeE env vs).set v none) fp1
      rw [set_none_len hi, set_none_len (by rw [s1.en.len]; exact hi)]
      exact s1
theorem wipe_get : ∀ (σ : L2.St) (vs : List Nat) (j : Nat), (wipe σ vs)[j]? = if j ∈ vs then (σ[j]?).map (fun _ => none) else σ[j]?
  | σ, [], j => by simp [wipe]
  | σ, v :: vs, j => by
    show ((wipe σ vs).set v none)[j]? = _
    by_cases hj : v = j
    · subst hj
      by_cases hl : v < (wipe σ vs).length
      · rw [List.getElem?_set_self hl]
        rw [wipe_length] at hl
        simp [List.getElem?_eq_getElem hl]
      · rw [set_none_len hl, wipe_get σ vs v]
        rw [wipe_length] at hl
        have e : σ[v]? = none := List.getElem?_eq_none (by omega)
        simp [e]
    · rw [List.getElem?_set_ne hj, wipe_get σ vs j]
      simp [Ne.symm hj]
theorem wipe_off {σ σ' : L2.St} {ix vs : List Nat} (h : Off ix (wipe σ vs) σ') (hs : ∀ i ∈ ix, i ∈ vs) : wipe σ' vs = wipe σ vs := by
  refine List.ext_getElem? fun j => ?_
  rw [wipe_get σ', wipe_get σ]
  by_cases hj : j ∈ vs
  · rw [if_pos hj, if_pos hj]
    have hl := h.1
    rw [wipe_length] at hl
    by_cases hb : j < σ.length
    · rw [List.getElem?_eq_getElem hb, List.getElem?_eq_getElem (by omega : j < σ'.length)]; rfl
    · rw [List.getElem?_eq_none (by omega), List.getElem?_eq_none (by omega)]
  · rw [if_neg hj, if_neg hj, h.2 j fun z => hj (hs j z), wipe_get σ, if_neg hj]
def noEx {α : Type} : R α → R α
  | .ex _ => .no
  | r => r
@[simp] theorem noEx_ok {α : Type} (a : α) : noEx (.ok a) = .ok a := rfl
def lcR (g : D → Ev → Option Ev) (c : Ev → R Bool) (e : Ev → R Ow) (env : Ev) : List D → R (List Ow)
  | [] => .ok []
  | d :: ds => match g d env with
    | none => .no
    | some env1 => (noEx (c env1)).bind fun b => if b = true then (noEx (e env1)).bind fun r => (lcR g c e env ds).map fun rs => r :: rs else lcR g c e env ds
def eLc (it : Ev → R (List D)) (g : D → Ev → Option Ev) (c : Ev → R Bool) (e : Ev → R Ow) (vs : List Nat) (env : Ev) : R Ow := (it env).bind fun ds => guard (ds.length ≤ sizeLine) ((noEx (lcR g c e (wipeE env vs) ds)).map Ow.l)
theorem noEx_ok' {α : Type} {r : R α} {a : α} (h : noEx r = .ok a) : r = .ok a := by cases r <;> first | exact h | cases h
theorem lcR_len (g : D → Ev → Option Ev) (c : Ev → R Bool) (e : Ev → R Ow) (env : Ev) : ∀ (ds : List D) (rs : List Ow), lcR g c e env ds = .ok rs → rs.length ≤ ds.length
  | [], rs, h => by cases h; exact Nat.le_refl _
  | d :: ds, rs, h => by
    unfold lcR at h
    cases eg : g d env with
    | none => rw [eg] at h; cases h
    | some env1 =>
      rw [eg] at h
      simp only at h
      cases ec : noEx (c env1) with
      | no => rw [ec] at h; cases h
      | ex c => rw [ec] at h; cases h
      | ok b =>
        rw [ec] at h
        cases b with
        | false => exact Nat.le_succ_of_le (lcR_len g c e env ds rs h)
        | true =>
          simp only [R.bind_ok, if_true] at h
          cases ee : noEx (e env1) with
          | no => rw [ee] at h; cases h
          | ex c => rw [ee] at h; cases h
          | ok r =>
            rw [ee] at h
            simp only [R.bind_ok] at h
            cases el : lcR g c e env ds with
            | no => rw [el] at h; cases h
            | ex c => rw [el] at h; cases h
            | ok rs' =>
              rw [el] at h
              cases h
              have := lcR_len g c e env ds rs' el
              simp only [List.length_cons]; omega
theorem OwnAll.snoc {K : PySem.W.Frag} {F H : Hp} {v : V} {r : Ow} {fr : List Addr} : ∀ {os : List Ow} {vs : List V} {fp : List Addr}, OwnAll K F H vs os fp → OwnAt K F H v r fr → fp.Nodup → fr.Nodup → (∀ b ∈ fr, b ∉ fp) → ∃ fp', OwnAll K F H (vs ++ [v]) (os ++ [r]) fp' ∧ fp'.Nodup ∧ ∀ b ∈ fp', b ∈ fp ∨ b ∈ fr
  | [], _, _, h, g, n1, n2, dj => by
    cases h
    exact ⟨fr ++ [], .cons g .nil, by simpa using n2, fun b hb => .inr (by simpa using hb)⟩
  | o :: os, _, _, h, g, n1, n2, dj => by
    cases h with
    | @cons _ _ _ _ f1 fs h1 h2 =>
      rw [List.nodup_append] at n1
      obtain ⟨m1, m2, m3⟩ := n1
      obtain ⟨fp', a, b, c⟩ := OwnAll.snoc h2 g m2 n2 fun b hb z => dj b hb (List.mem_append_right _ z)
      refine ⟨f1 ++ fp', .cons h1 a, ?_, fun x hx => ?_⟩
      · rw [List.nodup_append]
        refine ⟨m1, b, fun x hx y hy e => ?_⟩
        subst e
        rcases c x hy with z | z
        · exact m3 x hx x z rfl
        · exact dj x z (List.mem_append_left _ hx)
      · rcases List.mem_append.mp hx with z | z
        · exact .inl (List.mem_append_left _ z)
        · exact (c x z).imp (List.mem_append_right _) id
theorem de_lc_core {wi : TI} {g : D → Ev → Option Ev} {fi : Ev → R (List D)} {fc : Ev → R Bool} {fe : Ev → R Ow} {ix vs : List Nat} (si : Sm X W (PIt X.K) wi fi) (hix : ∀ i ∈ ix, i ∈ vs) :
    Sm X W (POw X.K) (tLc wi (tgOf X.K ix g) (tOf X.K (Post X W0 PTb) fc) (tOf X.K (Post X W0 (POw X.K)) fe) vs) (eLc fi g fc fe vs) := by
  intro F H σ env fp Q sat hp
  refine si.go sat hp fun items J F1 H1 sat1 wk _ h1 => ?_
  have wk : WalkF X.K J F1 items := wk
  obtain ⟨hz, h2⟩ := guard_post h1
  intro Dd hD
  have hD1 : F1 Dd = none := free_of sat1.fh hD
  cases el : lcR g fc fe (wipeE env vs) items with
  | no => rw [el] at h2; exact h2.elim
  | ex c => rw [el] at h2; exact h2.elim
  | ok all =>
  rw [el] at h2
  have h2 : ∀ v F' H', Ext F1 H1 F' H' → POw X.K H1 (.l all) v F' H' → Q v H' := h2
  let Iv : Nat → Hp → Prop := fun i H' => ∃ F' acc accO fa rest, Ext F1 H1 F' H' ∧ F' Dd = none ∧ H' Dd = some (.lst acc) ∧ OwnAll X.K F' H' acc accO fa ∧ fa.Nodup ∧ Dd ∉ fa ∧ accO.length ≤ i ∧ (∀ b ∈ fa, H1 b = none) ∧ lcR g fc fe (wipeE env vs) (items.drop i) = .ok rest ∧ all = accO ++ rest
  refine ⟨fun i m H' => m = items.length - i ∧ i ≤ items.length ∧ Iv i H', ⟨items.length, by simp, Nat.zero_le _, F1, [], [], [], all, Ext.own sat1.fh hD _, hD1, upd_same, .nil, List.nodup_nil, by simp, Nat.le_refl _, (fun b z => nomatch z), el, rfl⟩, ?_⟩
  rintro i m H' ⟨rfl, hi, F', acc, accO, fa, rest, x, fD, hDd, ow, nd, nD, hl, fr, er, ea⟩
  by_cases hlt : i < items.length
  · refine .inr ⟨wk.go i F' H' hlt x.ff x.fh, Iv (i + 1), fun H2 z => ⟨items.length - (i + 1), by omega, rfl, hlt, z⟩, fun v H3 y => ?_⟩
    obtain ⟨d, F3, e1, x3, dp⟩ := wk.yld i F' H' v H3 hlt x.ff x.fh y
    have ed : items.drop i = d :: items.drop (i + 1) := by
      rw [List.drop_eq_getElem_cons hlt]
      have : items[i] = d := by rw [List.getElem?_eq_getElem hlt] at e1; exact Option.some.inj e1
      rw [this]
    rw [ed] at er
    unfold lcR at er
    cases eg : g d (wipeE env vs) with
    | none => rw [eg] at er; cases er
    | some env1 =>
    rw [eg] at er
    simp only at er
    obtain ⟨fpw, satw, subw⟩ := wipe_sat (sat1.ext (x.trans x3)) vs
    refine ⟨F3, _, fpw, d, env1, satw, dp, eg, fun σ2 fp2 sat2 sub2 off2 => ⟨wipe_off off2 hix, F3, env1, fp2, sat2, ?_⟩⟩
    cases ec : fc env1 with
    | no => rw [ec] at er; cases er
    | ex c => rw [ec] at er; cases er
    | ok b =>
    rw [ec] at er
    simp only [noEx_ok, R.bind_ok] at er
    intro v4 F4 H4 x4 ev4
    obtain rfl : v4 = b := ev4
    have xx4 := x3.trans x4
    cases v4 with
    | false =>
      rw [if_neg Bool.false_ne_true] at er ⊢
      have g1 := x.trans xx4
      refine ⟨F4, acc, accO, fa, rest, g1, ?_, xx4.hh _ _ hDd, ow.ext xx4, nd, nD, Nat.le_succ_of_le hl, fr, er, ea⟩
      cases q : F4 Dd with
      | none => rfl
      | some u =>
        rcases xx4.fn Dd u q with z | z
        · rw [fD] at z; cases z
        · rw [hDd] at z; cases z
    | true =>
      rw [if_pos rfl] at er ⊢
      refine ⟨F4, env1, fp2, sat2.ext x4, ?_⟩
      cases ee : fe env1 with
      | no => rw [ee] at er; cases er
      | ex c => rw [ee] at er; cases er
      | ok r =>
      rw [ee] at er
      simp only [noEx_ok, R.bind_ok] at er
      intro y5 F5 H5 x5 ⟨fr5, ow5, nd5, fresh5⟩
      have xx := xx4.trans x5
      have hD5 : H5 Dd = some (.lst acc) := xx.hh _ _ hDd
      have fD5 : F5 Dd = none := by
        cases q : F5 Dd with
        | none => rfl
        | some u =>
          rcases xx.fn Dd u q with z | z
          · rw [fD] at z; cases z
          · rw [hDd] at z; cases z
      have nD5 : Dd ∉ fr5 := fun z => by
        have := fresh5 Dd z
        rw [xx4.hh _ _ hDd] at this; cases this
      cases er2 : lcR g fc fe (wipeE env vs) (items.drop (i + 1)) with
      | no => rw [er2] at er; cases er
      | ex c => rw [er2] at er; cases er
      | ok rest2 =>
      rw [er2] at er
      cases er
      have la := OwnAll.len ow
      have stp : StepS F5 H5 [Dd] F5 (upd H5 Dd (.lst (acc ++ [y5]))) [] := ⟨Same.refl _, fun b o e n => by rw [upd_ne (fun z => n (by simp [z]))]; exact e, fun b o e => .inl e, fun b z => nomatch z⟩
      obtain ⟨fa', ow', nd', sub'⟩ := OwnAll.snoc (OwnAll.keep stp _ _ _ (ow.ext xx) fun b hb => by simp; exact fun z => nD (z ▸ hb)) (OwnAt.keep stp _ _ _ ow5 fun b hb => by simp; exact fun z => nD5 (z ▸ hb)) nd nd5 fun b hb z => by
        obtain ⟨_, vs', e⟩ := OwnAll.there _ _ _ ow b z
        have := xx4.hh.free (fresh5 b hb)
        rw [e] at this; cases this
      refine ⟨acc, hD5, by omega, F5, acc ++ [y5], accO ++ [r], fa', rest2, ⟨(x.trans xx).ff, fun b o e => ?_, (x.trans xx).fn, fun b o e => ?_⟩, fD5, upd_same, ow', nd', ?_, by simp; omega, fun b hb => ?_, er2, by simp [ea]⟩
      · rw [upd_ne (ne_of_none e hD)]; exact (x.trans xx).hh b o e
      · rw [upd_ne (ne_of_none e fD5)]; exact xx.fh b o e
      · intro z
        rcases sub' _ z with q | q
        · exact nD q
        · exact nD5 q
      · rcases sub' b hb with q | q
        · exact fr b q
        · exact x.hh.free (xx4.hh.free (fresh5 b q))
  · have e : i = items.length := by omega
    subst e
    rw [List.drop_length] at er
    cases er
    refine .inl ⟨wk.stop F' H' x.ff x.fh, h2 _ F' H' x ⟨Dd :: fa, ?_, List.nodup_cons.mpr ⟨nD, nd⟩, fun b hb => ?_⟩⟩
    · rw [ea, List.append_nil]; exact .l fD hDd ow
    · rcases List.mem_cons.mp hb with z | z
      · rw [z]; exact hD
      · exact fr b z
theorem de_lc {elt tg iter : Expr} {ifs : List Expr} {scope : Scope} {own : List (Str × Nat)} {g : D → Ev → Option Ev} {fi : Ev → R (List D)} {fc : Ev → R Bool} {fe : Ev → R Ow} {ix : List Nat} (hc : X.calm = true) (hN : X.N.Nodup) (hi : DI X W tg iter fi) (ok : BlkOk X.N X.env.scope scope own)
    (hg : ∀ (s : Shared) (H : Hp) (C : Addr) (cl : List (Str × Addr)) (fp : List Addr), DG (X.blk s H scope (compEnvC scope cl C X.env) fp) tg ix g) (ht : ∀ (s : Shared) (H : Hp) (C : Addr) (cl : List (Str × Addr)) (fp : List Addr), DTs (X.blk s H scope (compEnvC scope cl C X.env) fp) W0 ifs fc)
    (he : ∀ (s : Shared) (H : Hp) (C : Addr) (cl : List (Str × Addr)) (fp : List Addr), DE (X.blk s H scope (compEnvC scope cl C X.env) fp) W0 elt fe) (hix : ∀ i ∈ ix, i ∈ own.map (·.2) := by decide) (hs : ∀ x, foldedSetIterable iter X.env x = pure x := by intro _; rfl) :
    DE X W (.ListComp elt [⟨tg, iter, ifs, 0⟩] scope pos) (eLc fi g fc fe (own.map (·.2))) := by
  obtain ⟨wi, pi, si⟩ := hi
  exact ⟨_, pe_lc (g := tgOf X.K ix g) hc hN pi ok (fun s H C cl fp => hg s H C cl fp) (fun s H C cl fp => (ht s H C cl fp).can) (fun s H C cl fp => (he s H C cl fp).can) hs, de_lc_core si hix⟩
end
end Mir
end
set_option Elab.async false
set_option linter.all false
set_option maxRecDepth 100000
set_option maxHeartbeats 4000000
noncomputable section
namespace Mir
open PySem PySem.Spec L2

/-! ### a def's own list changed -/
section
variable {K : PySem.W.Frag} {F H : Hp} {σ : L2.St} {env : Ev} {fp : List Addr}
theorem set_self {σ : L2.St} {i : Nat} {v : V} (h : σ[i]? = some (some v)) : σ.set i (some v) = σ := by
  refine List.ext_getElem? fun j => ?_
  by_cases hj : i = j
  · subst hj
    rw [List.getElem?_set_self (List.getElem?_eq_some_iff.mp h).1]
    exact h.symm
  · rw [List.getElem?_set_ne hj]
theorem mut_step {F H F1 H1 : Hp} {a : Addr} {vs vs' : List V} (x : Ext F H F1 H1) (h : H a = some (.lst vs)) : StepS F H [a] F1 (upd H1 a (.lst vs')) [] :=
  ⟨x.ff, fun b o e n => by rw [upd_ne (fun z => n (by simp [z]))]; exact x.hh b o e, fun b o e => (x.fn b o e).imp id .inr, fun b z => nomatch z⟩
theorem mut_free {F H F1 H1 : Hp} {a : Addr} {vs : List V} (x : Ext F H F1 H1) (hf : F a = none) (h : H a = some (.lst vs)) : F1 a = none := by
  cases q : F1 a with
  | none => rfl
  | some u =>
    rcases x.fn a u q with z | z
    · rw [hf] at z; cases z
    · rw [h] at z; cases z
theorem mut_same {F1 H1 : Hp} {a : Addr} {o : HO} (s : Same F1 H1) (hf : F1 a = none) : Same F1 (upd H1 a o) := fun b u e => by
  rw [upd_ne (ne_of_none e hf)]; exact s b u e
/-- the list in slot i, and what is left when it is changed -/
theorem Sat.mut (sat : Sat K F H σ env fp) {i : Nat} {os : List Ow} (hi : env[i]? = some (some (.l os))) : ∃ a vs fo, σ[i]? = some (some (.ref a)) ∧ F a = none ∧ H a = some (.lst vs) ∧ OwnAll K F H vs os fo ∧ fo.Nodup ∧ a ∉ fo ∧ (∀ b ∈ a :: fo, b ∈ fp) ∧
    ∀ F1 H1 vs' os' fo', Ext F H F1 H1 → OwnAll K F1 (upd H1 a (.lst vs')) vs' os' fo' → fo'.Nodup → (∀ b ∈ fo', b ∈ fo ∨ H b = none) → ∃ fp', StepS F H fp F1 (upd H1 a (.lst vs')) fp' ∧ Sat K F1 (upd H1 a (.lst vs')) σ (env.set i (some (.l os'))) fp' := by
  have hl : i < env.length := (List.getElem?_eq_some_iff.mp hi).1
  obtain ⟨fr, fo0, a1, a2, a3, a3', a4, a5, a6⟩ := sat.en.put hl sat.nd
  obtain ⟨v, e1, e2⟩ := a5 _ hi
  cases e2 with
  | @l a vs _ fo h1 h2 h3 =>
    obtain ⟨nd1, nd2⟩ := List.nodup_cons.mp a3'
    refine ⟨a, vs, fo, e1, h1, h2, h3, nd2, nd1, a2, fun F1 H1 vs' os' fo' x ow nd sub => ?_⟩
    have hf1 := mut_free x h1 h2
    have na' : a ∉ fo' := fun z => by
      rcases sub a z with q | q
      · exact nd1 q
      · rw [h2] at q; cases q
    have fresh : ∀ b, H b = none → b ∉ fr := fun b q z => by
      obtain ⟨_, w, e⟩ := sat.en.there b (a1 b z)
      rw [q] at e; cases e
    obtain ⟨fp', b1, b2, b3⟩ := (a6 F1 (upd H1 a (.lst vs')) [a] [] (mut_step x h2) fun b hb z => a4 b (by rw [List.mem_singleton.mp z]; exact List.mem_cons_self) hb).2 (.ref a) (.l os') (a :: fo') (.l hf1 upd_same ow) (List.nodup_cons.mpr ⟨na', nd⟩) fun b hb z => by
      rcases List.mem_cons.mp hb with q | q
      · subst q; exact a4 b List.mem_cons_self z
      · rcases sub b q with q | q
        · exact a4 b (List.mem_cons_of_mem _ q) z
        · exact fresh b q z
    rw [set_self e1] at b3
    refine ⟨fp', (mut_step x h2).mono (fun b hb => by rw [List.mem_singleton.mp hb]; exact a2 a List.mem_cons_self) |> fun s => ⟨s.ff, s.fr, s.fn, fun b hb => ?_⟩, mut_same x.fh hf1, b3, b1⟩
    rcases b2 b hb with q | q
    · rcases List.mem_cons.mp q with q | q
      · rw [q]; exact .inl (a2 a List.mem_cons_self)
      · rcases sub b q with q | q
        · exact .inl (a2 b (List.mem_cons_of_mem _ q))
        · exact .inr q
    · exact .inl (a1 b q)
/-- the items of an own list, behind a change at the list itself -/
theorem own_mut {F1 H1 : Hp} {a : Addr} {vs vs' : List V} {os : List Ow} {fo : List Addr} (x : Ext F H F1 H1) (h : H a = some (.lst vs)) (ow : OwnAll K F H vs os fo) (na : a ∉ fo) : OwnAll K F1 (upd H1 a (.lst vs')) vs os fo :=
  OwnAll.keep (mut_step x h) _ _ _ ow fun b hb z => na (by rw [← List.mem_singleton.mp z]; exact hb)
theorem own_mut1 {F1 H1 : Hp} {a : Addr} {vs vs' : List V} {v : V} {r : Ow} {fx : List Addr} (s : Same F1 H1) (hf : F1 a = none) (h : H1 a = some (.lst vs)) (ow : OwnAt K F1 H1 v r fx) (na : a ∉ fx) : OwnAt K F1 (upd H1 a (.lst vs')) v r fx :=
  OwnAt.keep (mut_step (.refl s) h) _ _ _ ow fun b hb z => na (by rw [← List.mem_singleton.mp z]; exact hb)
theorem OwnAll.get {F H : Hp} : ∀ {os : List Ow} {vs : List V} {fp : List Addr} {k : Nat} {o : Ow}, OwnAll K F H vs os fp → fp.Nodup → os[k]? = some o → ∃ (v : V) (fo fr : List Addr), vs[k]? = some v ∧ OwnAt K F H v o fo ∧ fo.Nodup ∧ fr.Nodup ∧ (∀ b ∈ fo, b ∈ fp) ∧ (∀ b ∈ fr, b ∈ fp) ∧ (∀ b ∈ fo, b ∉ fr) ∧
    ∀ F' H' fx fy v' o' fn, StepS F H fx F' H' fy → (∀ b ∈ fr, b ∉ fx) → OwnAt K F' H' v' o' fn → fn.Nodup → (∀ b ∈ fn, b ∉ fr) → ∃ fp', OwnAll K F' H' (vs.set k v') (os.set k o') fp' ∧ fp'.Nodup ∧ ∀ b ∈ fp', b ∈ fn ∨ b ∈ fr
  | [], _, _, k, o, h, nd, e => by simp at e
  | x :: os, _, _, 0, o, h, nd, e => by
    cases h with
    | @cons v vs _ _ f1 fs h1 h2 =>
      simp at e; subst e
      obtain ⟨n1, n2, n3⟩ := List.nodup_append.mp nd
      refine ⟨v, f1, fs, rfl, h1, n1, n2, fun b z => List.mem_append_left _ z, fun b z => List.mem_append_right _ z, fun b z q => n3 b z b q rfl, fun F' H' fx fy v' o' fn st dj ow nf df => ?_⟩
      refine ⟨fn ++ fs, .cons ow (OwnAll.keep st _ _ _ h2 dj), ?_, fun b hb => List.mem_append.mp hb⟩
      rw [List.nodup_append]
      exact ⟨nf, n2, fun a ha b hb e => df a ha (e ▸ hb)⟩
  | x :: os, _, _, k + 1, o, h, nd, e => by
    cases h with
    | @cons v vs _ _ f1 fs h1 h2 =>
      obtain ⟨n1, n2, n3⟩ := List.nodup_append.mp nd
      obtain ⟨v0, fo, fr, g1, g2, g3, g4, g5, g6, g7, g8⟩ := OwnAll.get (k := k) h2 n2 (by simpa using e)
      refine ⟨v0, fo, f1 ++ fr, by simpa using g1, g2, g3, ?_, fun b z => List.mem_append_right _ (g5 b z), fun b z => ?_, fun b z q => ?_, fun F' H' fx fy v' o' fn st dj ow nf df => ?_⟩
      · rw [List.nodup_append]; exact ⟨n1, g4, fun a ha b hb e => n3 a ha b (g6 b hb) e⟩
      · exact (List.mem_append.mp z).elim (List.mem_append_left _) fun z => List.mem_append_right _ (g6 b z)
      · rcases List.mem_append.mp q with q | q
        · exact n3 b q b (g5 b z) rfl
        · exact g7 b z q
      · obtain ⟨fp', c1, c2, c3⟩ := g8 F' H' fx fy v' o' fn st (fun b hb => dj b (List.mem_append_right _ hb)) ow nf fun b hb z => df b hb (List.mem_append_right _ z)
        refine ⟨f1 ++ fp', .cons (OwnAt.keep st _ _ _ h1 fun b hb => dj b (List.mem_append_left _ hb)) c1, ?_, fun b hb => ?_⟩
        · rw [List.nodup_append]
          refine ⟨n1, c2, fun a ha b hb e => ?_⟩
          subst e
          rcases c3 a hb with z | z
          · exact df a z (List.mem_append_left _ ha)
          · exact n3 a ha a (g6 a z) rfl
        · rcases List.mem_append.mp hb with z | z
          · exact .inr (List.mem_append_left _ z)
          · exact (c3 b z).imp id (List.mem_append_right _)
end
section
variable {X : Cx} {W : WX} {S : Nat → Bool} {e e1 e2 : Expr} {pos cpos apos npos : Pos} {x : Str}
def ownL (i : Nat) (env : Ev) (k : List Ow → SR) : SR := match env[i]? with
  | some (some (.l os)) => k os
  | _ => .no
theorem ownL_post {σ : L2.St} {F H : Hp} {fp : List Addr} {D : Ends} {i : Nat} {env : Ev} {k : List Ow → SR} (h : PostS X W S σ F H fp D (ownL i env k)) : ∃ os, env[i]? = some (some (.l os)) ∧ PostS X W S σ F H fp D (k os) := by
  unfold ownL at h
  split at h
  · exact ⟨_, ‹_›, h⟩
  · exact h.elim
/-- x.append(e) -/
def sApp (i : Nat) (f : Ev → R Ow) (env : Ev) : SR := ownL i env fun os => (f env).st env fun r => if os.length < sizeLine then .nx (env.set i (some (.l (os ++ [r])))) else .no
theorem ds_app {f : Ev → R Ow} (i : Nat) (he : DE X W e f) (hN : X.N[i]? = some x := by rfl) (hv : Vis X.env.scope x := by first | exact Or.inl rfl | exact Or.inr (Or.inl rfl) | exact Or.inr (Or.inr rfl)) (hd : (x == ("__debug__" : Str)) = false := by decide) (hcd : (x == ("__classdict__" : Str)) = false := by decide)
    (hbase : attributeBase (.Name x npos) "append" X.env (eval (.Name x npos) X.env) = eval (.Name x npos) X.env := by rfl)
    (hfew : ((backTo cpos (starEach [e] X.env)).all (fun x => !x.1) && (backToKw cpos (keywordEach [] X.env)).all (fun x => x.1.isSome) && decide ([e].length + ([] : List Keyword).length + (if ([] : List Keyword).isEmpty then 0 else 1) < 30)) = true := by rfl)
    (hline : (apos.endLine == cpos.line) = true := by rfl) (hs : starEach [e] X.env = (false, eval e X.env) :: starEach [] X.env := by rfl) (hplain : (backTo cpos (starEach [] X.env)).any (·.1) = false := by rfl)
    (hsw : swapsWith (.Call (.Attribute (.Name x npos) "append" apos) [e] [] cpos) none pos.line X.env = pure false := by rfl) : DS X W S (.Expr (.Call (.Attribute (.Name x npos) "append" apos) [e] [] cpos) pos) (sApp i f) := by
  obtain ⟨t, p, s⟩ := he
  refine ⟨_, ps_expr (pe_bm PySem.F.plainAttrs_list PySem.F.slot_list_append PySem.F.type_list_append mt_append (pe_var hN hv hd hcd) (pa_cons p pa_nil hs) hbase hfew hline hs hplain) hsw, fun F H σ env fp D sat h => ?_⟩
  obtain ⟨os, eo, h⟩ := ownL_post h
  obtain ⟨a, vs, fo, c1, c0, c2, c3, c4, c5, c6, c7⟩ := sat.mut eo
  refine ⟨.ref a, c1, .inl ⟨rfl, vs, SqL.of c2⟩, ?_⟩
  refine s F H σ env fp _ sat ?_
  cases ef : f env with
  | no => rw [ef] at h; exact h
  | ex c => rw [ef] at h; exact fun C F' H' m x => h C σ F' H' fp m (.refl _ _) (StepS.of_ext x fp) (sat.ext x)
  | ok r =>
    rw [ef] at h
    intro v F1 H1 x1 ⟨fx, ow, nx, fr⟩
    have h2 : PostS X W S σ F H fp D (if os.length < sizeLine then .nx (env.set i (some (.l (os ++ [r])))) else .no) := h
    split at h2
    · have la := OwnAll.len c3
      have hb := x1.hh _ _ c2
      obtain ⟨fo', g1, g2, g3⟩ := OwnAll.snoc (own_mut (vs' := vs ++ [v]) x1 c2 c3 c5) (own_mut1 x1.fh (mut_free x1 c0 c2) hb ow fun z => by rw [fr a z] at c2; cases c2) c4 nx fun b hb z => by
        obtain ⟨_, w, e⟩ := OwnAll.there _ _ _ c3 b z
        rw [fr b hb] at e; cases e
      obtain ⟨fp', st, sat'⟩ := c7 F1 H1 (vs ++ [v]) (os ++ [r]) fo' x1 g1 g2 fun b hb => (g3 b hb).imp id (fr b)
      exact ⟨a, vs, v, rfl, rfl, hb, by omega, h2 σ F1 _ fp' (.refl _ _) st sat'⟩
    · exact h2.elim
/-! the same list by several ways: hypotheses that every method call has -/
/-- x.extend(e) -/
theorem list_extW (l b : Addr) (its jts : Array Value) (n n2 : Nat) (dd2 : Option Addr) (sl2 : Array (Option Value)) (h0 : ¬(!its.isEmpty && Builtin.List.listTooLong (its.size + jts.size)) = true) (h1 : its.size ≤ sizeLine) (h2 : its.size + jts.size ≤ sizeLine + 1) :
    Meets (Builtin.«list.extend» ⟨[.ref l, .ref b], []⟩) (fun _ R s => s.heap.get? l = some { cls := .type "list", data := .seq its n } ∧ s.heap.get? b = some { cls := .type "list", dict := dd2, data := .seq jts n2, slots := sl2 } ∧ R (.ok (.ret Value.none)) { s with heap := s.heap.update l (Obj.mapSeq fun x => x ++ jts), toks := s.toks }) :=
  .of_wp fun prog w A R s h => by
    obtain ⟨hp, g, d, tk, os⟩ := s; obtain ⟨hl, hb, h⟩ := h; have f1 := AutoSeq1.idx_int; have f2 := AutoSeq1.sub_tuple_tuple; have f3 := AutoSeq1.sub_list_list; have f4 := AutoSeq1.sub_tuple_list; have f5 := AutoSeq1.sub_list_tuple; have hz' : (its ++ jts).size ≤ sizeLine + 1 := by rw [Array.size_append]; exact h2
    wp_walk using (wpAny_updateSeq hl rfl (hz := h1) (_hz' := hz')), wpAny_loadPart' hl, wpAny_loadPart' hb; exact ⟨_, rfl, h⟩
def rExtA (K : PySem.W.Frag) : V → List V → Hp → VK → Prop := fun x vs H Q => ∃ l b xs zs, x = .ref l ∧ vs = [.ref b] ∧ H l = some (.lst xs) ∧ SqL K H b zs ∧ xs.length + zs.length ≤ sizeLine ∧ Q .non (upd H l (.lst (xs ++ zs)))
theorem mt_extA : MtR X "list.extend" (rExtA X.K) := by
  intro pins s σ H x vs v us Q I rx rv h
  obtain ⟨l, b, xs, zs, rfl, rfl, hH, hB, hz, q⟩ := h
  cases rx
  obtain ⟨u, rfl, ru⟩ := rv.one
  cases ru
  obtain ⟨z, its, n, r, hl, e⟩ := I.lstM hH
  obtain ⟨jts, r2, pl2, hl2⟩ := I.list hB
  obtain ⟨⟨c2, d2, t2, s2⟩, g2, k2, n2, m2⟩ := pl2.isList
  simp only at k2 m2
  subst k2 m2
  have lz := r2.length
  have hsz : its.toArray.size + jts.toArray.size ≤ sizeLine := by rw [List.size_toArray, List.size_toArray]; omega
  have hlong : ¬ (!its.toArray.isEmpty && Builtin.List.listTooLong (its.toArray.size + jts.toArray.size)) = true := by rw [notLongL hsz, Bool.and_false]; exact Bool.false_ne_true
  refine call_meets F.slot_list_extend ⟨_, e, rfl⟩ F.entry_list_extend (F.args_list_extend_2 _ _) (list_extW l b its.toArray jts.toArray n n2 d2 s2 hlong (by rw [List.size_toArray]; omega) (by omega)) ⟨e, g2, ?_⟩
  refine ⟨.non, _, I.lset (its' := its ++ jts) hH e (by simp) (r.append r2) ?_, rfl, q⟩
  rw [List.length_append]; omega
def asL : D → R (List D)
  | .list ds => .ok ds
  | _ => .no
@[simp] theorem asL_list (ds : List D) : asL (.list ds) = .ok ds := rfl
theorem OwnAll.app_d {K : PySem.W.Frag} {F H : Hp} {ws : List V} {es : List D} : ∀ {os : List Ow} {vs : List V} {fp : List Addr}, OwnAll K F H vs os fp → DpAll K F ws es → OwnAll K F H (vs ++ ws) (os ++ es.map Ow.d) fp
  | [], _, _, h, g => by cases h; exact OwnAll.of_dp g
  | o :: os, _, _, h, g => by
    cases h with
    | cons h1 h2 => exact .cons h1 (OwnAll.app_d h2 g)
def sExt (i : Nat) (f : Ev → R D) (env : Ev) : SR := ownL i env fun os => (f env).st env fun d => (asL d).st env fun ds => if os.length + ds.length ≤ sizeLine then .nx (env.set i (some (.l (os ++ ds.map Ow.d)))) else .no
theorem ds_ext {f : Ev → R D} (i : Nat) (he : DL X W e f) (hN : X.N[i]? = some x := by rfl) (hv : Vis X.env.scope x := by first | exact Or.inl rfl | exact Or.inr (Or.inl rfl) | exact Or.inr (Or.inr rfl)) (hd : (x == ("__debug__" : Str)) = false := by decide) (hcd : (x == ("__classdict__" : Str)) = false := by decide)
    (hbase : attributeBase (.Name x npos) "extend" X.env (eval (.Name x npos) X.env) = eval (.Name x npos) X.env := by rfl)
    (hfew : ((backTo cpos (starEach [e] X.env)).all (fun x => !x.1) && (backToKw cpos (keywordEach [] X.env)).all (fun x => x.1.isSome) && decide ([e].length + ([] : List Keyword).length + (if ([] : List Keyword).isEmpty then 0 else 1) < 30)) = true := by rfl)
    (hline : (apos.endLine == cpos.line) = true := by rfl) (hs : starEach [e] X.env = (false, eval e X.env) :: starEach [] X.env := by rfl) (hplain : (backTo cpos (starEach [] X.env)).any (·.1) = false := by rfl)
    (hsw : swapsWith (.Call (.Attribute (.Name x npos) "extend" apos) [e] [] cpos) none pos.line X.env = pure false := by rfl) : DS X W S (.Expr (.Call (.Attribute (.Name x npos) "extend" apos) [e] [] cpos) pos) (sExt i f) := by
  obtain ⟨t, p, s⟩ := he
  refine ⟨_, ps_expr (pe_bm PySem.F.plainAttrs_list PySem.F.slot_list_extend PySem.F.type_list_extend mt_extA (pe_var hN hv hd hcd) (pa_cons p pa_nil hs) hbase hfew hline hs hplain) hsw, fun F H σ env fp D sat h => ?_⟩
  obtain ⟨os, eo, h⟩ := ownL_post h
  obtain ⟨a, vs, fo, c1, c0, c2, c3, c4, c5, c6, c7⟩ := sat.mut eo
  refine ⟨.ref a, c1, .inl ⟨rfl, vs, SqL.of c2⟩, ?_⟩
  refine s F H σ env fp _ sat ?_
  cases ef : f env with
  | no => rw [ef] at h; exact h
  | ex c => rw [ef] at h; exact fun C F' H' m x => h C σ F' H' fp m (.refl _ _) (StepS.of_ext x fp) (sat.ext x)
  | ok d =>
    rw [ef] at h
    intro v F1 H1 x1 q
    have h1 : PostS X W S σ F H fp D ((asL d).st env fun ds => if os.length + ds.length ≤ sizeLine then .nx (env.set i (some (.l (os ++ ds.map Ow.d)))) else .no) := h
    cases d with
    | list ds =>
      have h2 : PostS X W S σ F H fp D (if os.length + ds.length ≤ sizeLine then .nx (env.set i (some (.l (os ++ ds.map Ow.d)))) else .no) := h1
      split at h2
      · obtain ⟨b, ws, rfl, q1, q2⟩ := q
        have la := OwnAll.len c3
        have lb := DpAll.len q2
        obtain ⟨fp', st, sat'⟩ := c7 F1 H1 (vs ++ ws) (os ++ ds.map Ow.d) fo x1 (OwnAll.app_d (own_mut (vs' := vs ++ ws) x1 c2 c3 c5) q2) c4 fun b hb => .inl hb
        exact ⟨a, b, vs, ws, rfl, rfl, x1.hh _ _ c2, q1, by omega, h2 σ F1 _ fp' (.refl _ _) st sat'⟩
      · exact h2.elim
    | _ => exact h1.elim
/-- x[k] = e -/
def putAt (i : Nat) (env : Ev) (os : List Ow) (r : Ow) : D → SR
  | .int k => match ixN os.length k with
    | some j => .nx (env.set i (some (.l (os.set j r))))
    | none => .no
  | _ => .no
def sPut (i : Nat) (f : Ev → R Ow) (g : Ev → R D) (env : Ev) : SR := (f env).st env fun r => ownL i env fun os => (g env).st env (putAt i env os r)
theorem OwnAll.set {K : PySem.W.Frag} {F H : Hp} {os : List Ow} {vs : List V} {fp : List Addr} {j : Nat} {v : V} {r : Ow} {fx : List Addr} (s : Same F H) (h : OwnAll K F H vs os fp) (nd : fp.Nodup) (hj : j < os.length) (ow : OwnAt K F H v r fx) (nx : fx.Nodup) (dj : ∀ b ∈ fx, b ∉ fp) :
    ∃ fp', OwnAll K F H (vs.set j v) (os.set j r) fp' ∧ fp'.Nodup ∧ ∀ b ∈ fp', b ∈ fp ∨ b ∈ fx := by
  obtain ⟨v0, fo, fr, g1, g2, g3, g4, g5, g6, g7, g8⟩ := OwnAll.get (k := j) h nd (List.getElem?_eq_getElem hj)
  obtain ⟨fp', a, b, c⟩ := g8 F H [] [] v r fx (StepS.of_ext (.refl s) []) (fun _ _ => by simp) ow nx fun b hb z => dj b hb (g6 b z)
  exact ⟨fp', a, b, fun b hb => (c b hb).elim .inr fun z => .inl (g6 b z)⟩
theorem pg_subV {i : Nat} {ti : TE} {k : Expr} {tpos : Pos} (hk : PE X k ti) (hN : X.N[i]? = some x) (hv : Vis X.env.scope x) (hd : (x == ("__debug__" : Str)) = false) (hcd : (x == ("__classdict__" : Str)) = false)
    (ha : ∀ v, assign (.Subscript (.Name x npos) k tpos) X.env v = (do
      let ov ← holding [v] (eval (.Name x npos) X.env)
      let iv ← holding [v, ov] (eval k X.env)
      standAt tpos
      holding [v, ov, iv] (setItem ov iv v)
      release [v, ov, iv] [])) : PG X (.Subscript (.Name x npos) k tpos) (L2.gSub (tVar i) ti rSetL) := pg_sub (pe_var hN hv hd hcd) hk set_list ha
theorem ds_put {f : Ev → R Ow} {g : Ev → R D} {k : Expr} {tpos : Pos} (i : Nat) (he : DE X W e f) (hk : DF X W k g) (hN : X.N[i]? = some x := by rfl) (hv : Vis X.env.scope x := by first | exact Or.inl rfl | exact Or.inr (Or.inl rfl) | exact Or.inr (Or.inr rfl)) (hd : (x == ("__debug__" : Str)) = false := by decide) (hcd : (x == ("__classdict__" : Str)) = false := by decide)
    (ha : ∀ v, assign (.Subscript (.Name x npos) k tpos) X.env v = (do
      let ov ← holding [v] (eval (.Name x npos) X.env)
      let iv ← holding [v, ov] (eval k X.env)
      standAt tpos
      holding [v, ov, iv] (setItem ov iv v)
      release [v, ov, iv] []) := by intro _; rfl)
    (hs : swapsWithSole [.Subscript (.Name x npos) k tpos] e pos.line X.env = pure false := by rfl) (hw : swappedStores [.Subscript (.Name x npos) k tpos] e X.env = pure none := by rfl)
    (h1 : (assignEach [.Subscript (.Name x npos) k tpos] X.env).map (·.2) = [assign (.Subscript (.Name x npos) k tpos) X.env] := by rfl) : DS X W S (.Assign [.Subscript (.Name x npos) k tpos] e pos) (sPut i f g) := by
  obtain ⟨t, p, s⟩ := he
  obtain ⟨t', p', s'⟩ := hk
  refine ⟨_, ps_asg p (pg_subV p' hN hv hd hcd ha) hs hw h1, fun F H σ env fp D sat h => ?_⟩
  refine s F H σ env fp _ sat ?_
  unfold sPut at h
  cases ef : f env with
  | no => rw [ef] at h; exact h
  | ex c => rw [ef] at h; exact fun C F' H' m x => h C σ F' H' fp m (.refl _ _) (StepS.of_ext x fp) (sat.ext x)
  | ok r =>
    rw [ef] at h
    intro v F1 H1 x1 ⟨fx, ow, nx, fr⟩
    have h1 : PostS X W S σ F H fp D (ownL i env fun os => (g env).st env (putAt i env os r)) := h
    obtain ⟨os, eo, h2⟩ := ownL_post h1
    obtain ⟨a, vs, fo, c1, c0, c2, c3, c4, c5, c6, c7⟩ := sat.mut eo
    refine ⟨.ref a, c1, ?_⟩
    refine s' F1 H1 σ env fp _ (sat.ext x1) ?_
    cases eg : g env with
    | no => rw [eg] at h2; exact h2.elim
    | ex c => rw [eg] at h2; exact fun C F' H' m x => h2 C σ F' H' fp m (.refl _ _) (StepS.of_ext (x1.trans x) fp) (sat.ext (x1.trans x))
    | ok d =>
      rw [eg] at h2
      have h2 : PostS X W S σ F H fp D (putAt i env os r d) := h2
      intro w F2 H2 x2 q
      have x := x1.trans x2
      cases d with
      | int k =>
        cases hj : ixN os.length k with
        | none => unfold putAt at h2; simp only at h2; rw [hj] at h2; exact h2.elim
        | some j =>
          unfold putAt at h2; simp only at h2; rw [hj] at h2
          cases dp_int q
          have la := OwnAll.len c3
          have hb := x.hh _ _ c2
          have hjl : j < os.length := (ixN_seq hj).2.1
          have f2 := mut_free x c0 c2
          have na : a ∉ fx := fun z => by rw [fr a z] at c2; cases c2
          obtain ⟨fo', g1, g2, g3⟩ := OwnAll.set (j := j) (mut_same x.fh f2) (own_mut (vs' := vs.set j v) x c2 c3 c5) c4 hjl (own_mut1 (vs' := vs.set j v) x.fh f2 hb (ow.ext x2) na) nx fun b hb z => by
            obtain ⟨_, w, e⟩ := OwnAll.there _ _ _ c3 b z
            rw [fr b hb] at e; cases e
          obtain ⟨fp', st, sat'⟩ := c7 F2 H2 (vs.set j v) (os.set j r) fo' x g1 g2 fun b hb => (g3 b hb).imp id (fr b)
          exact ⟨a, vs, k, j, rfl, rfl, hb, by rw [la]; exact hj, h2 σ F2 _ fp' (.refl _ _) st sat'⟩
      | _ => exact h2.elim
end
end Mir
end
set_option Elab.async false
set_option linter.all false
set_option maxRecDepth 100000
set_option maxHeartbeats 4000000
noncomputable section
namespace Mir
open PySem PySem.Spec L2

/-! ### paths: what a name or an item of an own list stands for (an alias, not a new value) -/
def PAs (K : PySem.W.Frag) (_ : Hp) (r : Ow) (v : V) (F' H' : Hp) : Prop := ∃ fp, OwnAt K F' H' v r fp
instance {K : PySem.W.Frag} : Anti (PAs K) := ⟨fun _ h => h⟩
def DP (X : Cx) (W : WX) (e : Expr) (f : Ev → R Ow) : Prop := ∃ t, PE X e t ∧ Sm X W (PAs X.K) t f
section
variable {X : Cx} {W : WX} {S : Nat → Bool} {e a b : Expr} {pos cpos apos npos : Pos} {x : Str}
theorem dp_var (i : Nat) {x : Str} (hN : X.N[i]? = some x := by rfl) (hv : Vis X.env.scope x := by first | exact Or.inl rfl | exact Or.inr (Or.inl rfl) | exact Or.inr (Or.inr rfl)) (hd : (x == ("__debug__" : Str)) = false := by decide)
    (hcd : (x == ("__classdict__" : Str)) = false := by decide) : DP X W (.Name x pos) (eVarO i) := by
  refine ⟨_, pe_var hN hv hd hcd, fun F H σ env fp Q sat h => ?_⟩
  have h' : Post X W (PAs X.K) F H σ ((eVarO i env).bind fun o => .ok o) Q := by
    cases e : eVarO i env <;> rw [e] at h <;> exact h
  obtain ⟨o, he, _, h2⟩ := eVarO_ok h'
  obtain ⟨v, fo, h1, h3, _⟩ := sat.en.get he
  exact ⟨v, h1, h2 v F H (.refl sat.fh) ⟨fo, h3⟩⟩
def ixO : Ow → D → R Ow
  | .l os, .int k => match atI os k with
    | some o => .ok o
    | none => .no
  | _, _ => .no
def eIxO (f : Ev → R Ow) (g : Ev → R D) (env : Ev) : R Ow := (f env).bind fun o => (g env).bind fun d => ixO o d
theorem OwnAll.at {K : PySem.W.Frag} {F H : Hp} {os : List Ow} {vs : List V} {fp : List Addr} {k : Int} {o : Ow} (h : OwnAll K F H vs os fp) (e : atI os k = some o) : ∃ v fo, atI vs k = some v ∧ OwnAt K F H v o fo := by
  have hl := OwnAll.len h
  unfold atI at e ⊢
  rw [hl]
  cases hj : ixN os.length k with
  | none => rw [hj] at e; cases e
  | some j =>
    rw [hj] at e
    have e : os[j]? = some o := e
    have : ∀ {os : List Ow} {vs : List V} {fp : List Addr} {j : Nat}, OwnAll K F H vs os fp → os[j]? = some o → ∃ v fo, vs[j]? = some v ∧ OwnAt K F H v o fo := by
      intro os
      induction os with
      | nil => intro vs fp j h e; simp at e
      | cons q os ih =>
        intro vs fp j h e
        cases h with
        | cons h1 h2 =>
          cases j with
          | zero => simp at e; subst e; exact ⟨_, _, rfl, h1⟩
          | succ j =>
            obtain ⟨v, fo, a, b⟩ := ih h2 (by simpa using e)
            exact ⟨v, fo, by simpa using a, b⟩
    exact this h e
theorem dp_ix {f : Ev → R Ow} {g : Ev → R D} (ha : DP X W a f) (hb : DV X W b g) (hs : PlainIx b := by exact fun _ _ => rfl) : DP X W (.Subscript a b pos) (eIxO f g) := by
  obtain ⟨ta, pa, sa⟩ := ha
  obtain ⟨tb, pb, sb⟩ := hb
  refine ⟨_, pe_ix ix_list pa pb hs, fun F H σ env fp Q sat h => ?_⟩
  unfold eIxO at h
  refine sa.go sat h fun o v F1 H1 sat1 q _ h1 => ?_
  refine sb.go sat1 h1 fun d u F2 H2 sat2 q2 x2 h2 => ?_
  unfold ixO at h2
  split at h2
  · rename_i os k
    split at h2
    · rename_i o' he
      obtain ⟨fo, ow⟩ := q
      cases dp_int q2
      cases ow with
      | l m1 m2 m3 =>
        obtain ⟨w, fw, e1, e2⟩ := OwnAll.at m3 he
        exact ⟨_, _, _, _, rfl, rfl, SqL.of (x2.hh _ _ m2), e1, h2 w F2 H2 (.refl sat2.fh) ⟨fw, e2.ext x2⟩⟩
    · exact h2.elim
  · exact h2.elim
theorem dl_dp {f : Ev → R Ow} (h : DP X W e f) : DL X W e (eB f shD) := by
  obtain ⟨t, p, s⟩ := h
  refine ⟨t, p, fun F H σ env fp Q sat h => s F H σ env fp Q sat (Post.thru h fun d _ h' v F' H' x ⟨fp, q⟩ => ?_)⟩
  obtain ⟨r, e2⟩ := shD_ok h'
  rw [e2] at h'
  exact h' v F' H' x (own_seq x.fh q e2)
theorem dv_dp {f : Ev → R Ow} (h : DP X W e f) : DV X W e (eM f viewD) := by
  obtain ⟨t, p, s⟩ := h
  refine ⟨t, p, Sm.map s fun H o v F' H' sm ⟨fp, q⟩ => ⟨viewD o, rfl, OwnAt.view sm o v fp q⟩⟩

/-! ### [e] * n -/
def repO : Ow → D → R Ow
  | .l os, .int k => match unDs os with
    | some ds => guard (-(2 ^ 63) ≤ k ∧ k < 2 ^ 63 ∧ os.length * k.toNat ≤ sizeLine) (.ok (.l ((List.replicate k.toNat ds).flatten.map Ow.d)))
    | none => .no
  | _, _ => .no
def eRep (f : Ev → R Ow) (g : Ev → R D) (env : Ev) : R Ow := (f env).bind fun o => (g env).bind fun d => repO o d
theorem DpAll.rep {K : PySem.W.Frag} {F : Hp} {vs : List V} {ds : List D} (h : DpAll K F vs ds) : ∀ n : Nat, DpAll K F (List.replicate n vs).flatten (List.replicate n ds).flatten
  | 0 => .nil
  | n + 1 => by
    rw [List.replicate_succ, List.replicate_succ, List.flatten_cons, List.flatten_cons]
    exact DpAll.append h (DpAll.rep h n)
theorem de_rep {f : Ev → R Ow} {g : Ev → R D} (ha : DE X W a f) (hb : DV X W b g) : DE X W (.BinOp a .Mult b pos) (eRep f g) := by
  obtain ⟨ta, pa, sa⟩ := ha
  obtain ⟨tb, pb, sb⟩ := hb
  refine ⟨_, pe_op op_rep pa pb, fun F H σ env fp Q sat h => ?_⟩
  unfold eRep at h
  refine sa.go sat h fun o v F1 H1 sat1 q _ h1 => ?_
  refine sb.go sat1 h1 fun d u F2 H2 sat2 q2 x2 h2 => ?_
  unfold repO at h2
  split at h2
  · rename_i os k
    split at h2
    · rename_i ds he
      obtain ⟨⟨c1, c2, c3⟩, h3⟩ := guard_post h2
      obtain ⟨fo, ow, _, _⟩ := q
      cases dp_int q2
      have eo := unDs_eq he
      subst eo
      cases ow with
      | l m1 m2 m3 =>
        have la := OwnAll.len m3
        refine ⟨_, _, _, rfl, rfl, x2.hh _ _ m2, c1, c2, by rw [la]; exact c3, fun p hp => ?_⟩
        have d2 := DpAll.rep (dpaUp (OwnAll.dp m3).1 x2.ff) k.toNat
        exact h3 _ F2 _ (Ext.own sat2.fh hp _) (own_l sat2.fh hp d2)
    · exact h2.elim
  · exact h2.elim

/-! ### name op= e -/
def eAug (h : D → D → Option D) (i : Nat) (f : Ev → R D) (env : Ev) : R D := (eVar i env).bind fun x => (f env).bind fun y => R.of (h x y)
def sAug (h : D → D → Option D) (i : Nat) (f : Ev → R D) (env : Ev) : SR := (eAug h i f env).st env fun d => if i < env.length then .nx (env.set i (some (.d d))) else .no
theorem ds_aug {f : Ev → R D} {g : D → D → Option D} {op : Operator} {r : R2} (i : Nat) (ho : OpR X (inplaceOp op) r) (hs : OpS X.K r g) (hN : X.N.Nodup) (he : DV X W e f) (hi : X.N[i]? = some x := by rfl) (hx : Loc X.env.scope x := by first | exact Or.inl rfl | exact Or.inr rfl)
    (hf : X.fn x = true ∨ X.env.scope.names.lookup x = some .local := by first | exact .inl rfl | exact .inr rfl | assumption) (hS : S i = true := by rfl) : DS X W S (.AugAssign (.Name x npos) op e pos) (sAug g i f) := by
  obtain ⟨t, p, s⟩ := he
  refine ⟨_, ps_aug hN hi hx p ho hf, fun F H σ env fp D sat h => ?_⟩
  unfold sAug eAug at h
  cases e1 : eVar i env with
  | no => rw [e1] at h; exact h.elim
  | ex c => exact absurd e1 (by unfold eVar; split <;> intro z <;> cases z)
  | ok dx =>
    rw [e1] at h
    have e2 : env[i]? = some (some (.d dx)) := by
      unfold eVar at e1
      split at e1
      · rename_i d he; cases e1; exact he
      · cases e1
    obtain ⟨v, fo, h1, h2, _⟩ := sat.en.get e2
    refine ⟨v, h1, ?_⟩
    refine s F H σ env fp _ sat ?_
    cases ef : f env with
    | no => rw [ef] at h; exact h
    | ex c => rw [ef] at h; exact fun C F' H' m x => h C σ F' H' fp m (.refl _ _) (StepS.of_ext x fp) (sat.ext x)
    | ok dy =>
      rw [ef] at h
      have h : PostS X W S σ F H fp D ((R.of (g dx dy)).st env fun d => if i < env.length then .nx (env.set i (some (.d d))) else .no) := h
      intro u F1 H1 x1 q
      cases eg : g dx dy with
      | none => rw [eg] at h; exact h.elim
      | some dz =>
        rw [eg] at h
        have h : PostS X W S σ F H fp D (if i < env.length then .nx (env.set i (some (.d dz))) else .no) := h
        split at h
        · cases h2 with
          | d hd =>
            refine hs H1 v u dx dy dz _ (dpUp (dpUp hd x1.ff) x1.fh) q eg fun z q2 => ?_
            obtain ⟨fp', s1, s2⟩ := put_step sat x1 (.d (q2 F1)) List.nodup_nil (fun _ z => nomatch z) ‹_›
            exact h _ F1 H1 fp' (.set hS _) s1 s2
        · exact h.elim
end
end Mir
end
set_option Elab.async false
set_option linter.all false
set_option maxRecDepth 100000
set_option maxHeartbeats 4000000
noncomputable section
namespace Mir
open PySem PySem.Spec L2

/-! ### an own list within an own list changed -/
section
variable {K : PySem.W.Frag} {F H : Hp} {σ : L2.St} {env : Ev} {fp : List Addr}
theorem set_selfV {vs : List V} {j : Nat} {v : V} (h : vs[j]? = some v) : vs.set j v = vs := by
  refine List.ext_getElem? fun k => ?_
  by_cases hk : j = k
  · subst hk
    rw [List.getElem?_set_self (List.getElem?_eq_some_iff.mp h).1]
    exact h.symm
  · rw [List.getElem?_set_ne hk]
theorem Sat.mut1 (sat : Sat K F H σ env fp) {i j : Nat} {os os1 : List Ow} (hi : env[i]? = some (some (.l os))) (hj : os[j]? = some (.l os1)) : ∃ a0 vs0 a vs fo, σ[i]? = some (some (.ref a0)) ∧ H a0 = some (.lst vs0) ∧ vs0.length = os.length ∧ vs0[j]? = some (.ref a) ∧ F a = none ∧ H a = some (.lst vs) ∧ OwnAll K F H vs os1 fo ∧ fo.Nodup ∧ a ∉ fo ∧
    ∀ F1 H1 vs' os' fo', Ext F H F1 H1 → OwnAll K F1 (upd H1 a (.lst vs')) vs' os' fo' → fo'.Nodup → (∀ b ∈ fo', b ∈ fo ∨ H b = none) → ∃ fp', StepS F H fp F1 (upd H1 a (.lst vs')) fp' ∧ Sat K F1 (upd H1 a (.lst vs')) σ (env.set i (some (.l (os.set j (.l os'))))) fp' := by
  have hl : i < env.length := (List.getElem?_eq_some_iff.mp hi).1
  obtain ⟨fr, fo0, a1, a2, a3, a3', a4, a5, a6⟩ := sat.en.put hl sat.nd
  obtain ⟨v, e1, e2⟩ := a5 _ hi
  cases e2 with
  | @l a0 vs0 _ fI h1 h2 h3 =>
    obtain ⟨nd1, nd2⟩ := List.nodup_cons.mp a3'
    obtain ⟨vj, fo1, fr1, g1, g2, g3, g4, g5, g6, g7, g8⟩ := OwnAll.get h3 nd2 hj
    cases g2 with
    | @l a vs _ fo m1 m2 m3 =>
      obtain ⟨nd3, nd4⟩ := List.nodup_cons.mp g3
      refine ⟨a0, vs0, a, vs, fo, e1, h2, OwnAll.len h3, g1, m1, m2, m3, nd4, nd3, fun F1 H1 vs' os' fo' x ow nd sub => ?_⟩
      have hf1 := mut_free x m1 m2
      have na' : a ∉ fo' := fun z => by
        rcases sub a z with q | q
        · exact nd3 q
        · rw [m2] at q; cases q
      have fresh : ∀ b, H b = none → b ∉ fr := fun b q z => by
        obtain ⟨_, w, e⟩ := sat.en.there b (a1 b z)
        rw [q] at e; cases e
      have fresh1 : ∀ b, H b = none → b ∉ fr1 := fun b q z => by
        obtain ⟨_, w, e⟩ := OwnAll.there _ _ _ h3 b (g6 b z)
        rw [q] at e; cases e
      have st := mut_step (vs' := vs') x m2
      obtain ⟨f1, k1, k2, k3⟩ := g8 F1 (upd H1 a (.lst vs')) [a] [] (.ref a) (.l os') (a :: fo') st (fun b hb z => g7 b (by rw [List.mem_singleton.mp z]; exact List.mem_cons_self) hb) (.l hf1 upd_same ow) (List.nodup_cons.mpr ⟨na', nd⟩) fun b hb z => by
        rcases List.mem_cons.mp hb with q | q
        · subst q; exact g7 b List.mem_cons_self z
        · rcases sub b q with q | q
          · exact g7 b (List.mem_cons_of_mem _ q) z
          · exact fresh1 b q z
      rw [set_selfV g1] at k1
      have sub1 : ∀ b ∈ f1, b ∈ fI ∨ H b = none := fun b hb => by
        rcases k3 b hb with q | q
        · rcases List.mem_cons.mp q with q | q
          · subst q; exact .inl (g5 b List.mem_cons_self)
          · exact (sub b q).imp (fun z => g5 b (List.mem_cons_of_mem _ z)) id
        · exact .inl (g6 b q)
      have ne : a ≠ a0 := fun e => nd1 (e ▸ g5 a List.mem_cons_self)
      have hf0 : F1 a0 = none := mut_free x h1 h2
      have n0 : a0 ∉ f1 := fun z => by
        rcases sub1 a0 z with q | q
        · exact nd1 q
        · rw [h2] at q; cases q
      have aIn : a ∈ a0 :: fI := List.mem_cons_of_mem _ (g5 a List.mem_cons_self)
      obtain ⟨fp', b1, b2, b3⟩ := (a6 F1 (upd H1 a (.lst vs')) [a] [] st fun b hb z => a4 b (by rw [List.mem_singleton.mp z]; exact aIn) hb).2 (.ref a0) (.l (os.set j (.l os'))) (a0 :: f1) (.l hf0 ((upd_ne (Ne.symm ne)).trans (x.hh _ _ h2)) k1) (List.nodup_cons.mpr ⟨n0, k2⟩) fun b hb z => by
        rcases List.mem_cons.mp hb with q | q
        · subst q; exact a4 b List.mem_cons_self z
        · rcases sub1 b q with q | q
          · exact a4 b (List.mem_cons_of_mem _ q) z
          · exact fresh b q z
      rw [set_self e1] at b3
      refine ⟨fp', (st.mono (fun b hb => by rw [List.mem_singleton.mp hb]; exact a2 a aIn)) |> fun s => ⟨s.ff, s.fr, s.fn, fun b hb => ?_⟩, mut_same x.fh hf1, b3, b1⟩
      rcases b2 b hb with q | q
      · rcases List.mem_cons.mp q with q | q
        · rw [q]; exact .inl (a2 a0 List.mem_cons_self)
        · exact (sub1 b q).imp (fun z => a2 b (List.mem_cons_of_mem _ z)) id
      · exact .inl (a1 b q)
theorem OwnAll.drop' {F H : Hp} : ∀ {os : List Ow} {vs : List V} {fp : List Addr} (n : Nat) {v : V} {r : Ow} {fx : List Addr}, OwnAll K F H vs os fp → OwnAt K F H v r fx → fp.Nodup → fx.Nodup → (∀ b ∈ fx, b ∉ fp) →
    ∃ fp', OwnAll K F H (vs.take n ++ [v] ++ vs.drop n) (os.take n ++ [r] ++ os.drop n) fp' ∧ fp'.Nodup ∧ ∀ b ∈ fp', b ∈ fp ∨ b ∈ fx
  | os, vs, fp, 0, v, r, fx, h, g, n1, n2, dj => by
    refine ⟨fx ++ fp, ?_, ?_, fun b hb => (List.mem_append.mp hb).symm⟩
    · simpa using OwnAll.cons g h
    · rw [List.nodup_append]; exact ⟨n2, n1, fun a ha b hb e => dj a ha (e ▸ hb)⟩
  | [], _, _, n + 1, v, r, fx, h, g, n1, n2, dj => by
    cases h
    exact ⟨fx ++ [], by simpa using OwnAll.cons g .nil, by simpa using n2, fun b hb => .inr (by simpa using hb)⟩
  | o :: os, _, _, n + 1, v, r, fx, h, g, n1, n2, dj => by
    cases h with
    | @cons w ws _ _ f1 fs h1 h2 =>
      rw [List.nodup_append] at n1
      obtain ⟨m1, m2, m3⟩ := n1
      obtain ⟨fp', a, b, c⟩ := OwnAll.drop' n h2 g m2 n2 fun b hb z => dj b hb (List.mem_append_right _ z)
      refine ⟨f1 ++ fp', by simpa using OwnAll.cons h1 a, ?_, fun x hx => ?_⟩
      · rw [List.nodup_append]
        refine ⟨m1, b, fun x hx y hy e => ?_⟩
        subst e
        rcases c x hy with z | z
        · exact m3 x hx x z rfl
        · exact dj x z (List.mem_append_left _ hx)
      · rcases List.mem_append.mp hx with z | z
        · exact .inl (List.mem_append_left _ z)
        · exact (c x z).imp (List.mem_append_right _) id
end
section
variable {X : Cx} {W : WX} {S : Nat → Bool} {e k : Expr} {pos cpos apos npos tpos : Pos} {x : Str}
def insO (os : List Ow) (r : Ow) (n : Int) : Option (List Ow) := if os.length < sizeLine ∧ 0 ≤ n ∧ n < 2 ^ 63 then some (os.take n.toNat ++ [r] ++ os.drop n.toNat) else none
/-- x[k].m(args) at an own list of own lists: the item's place, and how it is changed -/
def own1 (i : Nat) (g : Ev → R D) (env : Ev) (c : List Ow → Nat → List Ow → SR) : SR := ownL i env fun os => (g env).st env fun d => match d with
  | .int k => match ixN os.length k with
    | some j => match os[j]? with
      | some (.l os1) => c os j os1
      | _ => .no
    | none => .no
  | _ => .no
def sIns1 (i : Nat) (g : Ev → R D) (n : Int) (f : Ev → R Ow) (env : Ev) : SR := own1 i g env fun os j os1 => (f env).st env fun r => match insO os1 r n with
  | some os' => .nx (env.set i (some (.l (os.set j (.l os')))))
  | none => .no
def sApp1 (i : Nat) (g : Ev → R D) (f : Ev → R Ow) (env : Ev) : SR := own1 i g env fun os j os1 => (f env).st env fun r => if os1.length < sizeLine then .nx (env.set i (some (.l (os.set j (.l (os1 ++ [r])))))) else .no
/-- the base x[k] read: the rest is asked of the inner list -/
theorem own1_go {σ : L2.St} {F H : Hp} {fp : List Addr} {DD : Ends} {i : Nat} {env : Ev} {g : Ev → R D} {t : TE} {c : List Ow → Nat → List Ow → SR} {T : VK} (s : Sm X W (PVw X.K) t g) (sat : Sat X.K F H σ env fp) (h : PostS X W S σ F H fp DD (own1 i g env c))
    (q : ∀ os j os1 a F1 H1, env[i]? = some (some (.l os)) → os[j]? = some (.l os1) → Sat X.K F1 H1 σ env fp → (∃ a0 vs0, σ[i]? = some (some (.ref a0)) ∧ H1 a0 = some (.lst vs0) ∧ vs0[j]? = some (.ref a)) → PostS X W S σ F1 H1 fp DD (c os j os1) → T (.ref a) H1) : tOp (rIxL X.K) (tVar i) t σ H T := by
  obtain ⟨os, eo, h1⟩ := ownL_post h
  obtain ⟨v, fo, e1, e2, _⟩ := sat.en.get eo
  refine ⟨v, e1, ?_⟩
  cases e2 with
  | @l a0 vs0 _ f0 m1 m2 m3 =>
  refine s.st sat h1 fun d u F1 H1 sat1 q1 x1 h2 => ?_
  cases d with
  | int k =>
    cases dp_int q1
    cases hj : ixN os.length k with
    | none => simp only [hj] at h2; exact h2.elim
    | some j =>
      simp only [hj] at h2
      cases ho : os[j]? with
      | none => simp only [ho] at h2; exact h2.elim
      | some o =>
        cases o with
        | d _ => simp only [ho] at h2; exact h2.elim
        | l os1 =>
          simp only [ho] at h2
          obtain ⟨a0', vs0', a, vs, fo', b1, b2, b3, b4, _⟩ := sat1.mut1 eo ho
          rw [e1] at b1
          cases b1
          have b2' := (x1.hh _ _ m2).symm.trans b2
          cases b2'
          refine ⟨_, _, _, _, rfl, rfl, SqL.of b2, ?_, q os j os1 a F1 H1 eo ho sat1 ⟨_, _, e1, b2, b4⟩ h2⟩
          unfold atI
          rw [b3, hj]
          exact b4
  | _ => exact h2.elim
theorem ds_ins1 {g : Ev → R D} {f : Ev → R Ow} {n : Int} {nj : Nat} {ipos : Pos} (i : Nat) (hk : DV X W k g) (he : DE X W e f) (hN : X.N[i]? = some x := by rfl) (hv : Vis X.env.scope x := by first | exact Or.inl rfl | exact Or.inr (Or.inl rfl) | exact Or.inr (Or.inr rfl)) (hd : (x == ("__debug__" : Str)) = false := by decide) (hcd : (x == ("__classdict__" : Str)) = false := by decide)
    (hs : PlainIx k := by exact fun _ _ => rfl)
    (hbase : attributeBase (.Subscript (.Name x npos) k tpos) "insert" X.env (eval (.Subscript (.Name x npos) k tpos) X.env) = eval (.Subscript (.Name x npos) k tpos) X.env := by rfl)
    (hfew : ((backTo cpos (starEach [.Constant (.int n) nj ipos, e] X.env)).all (fun x => !x.1) && (backToKw cpos (keywordEach [] X.env)).all (fun x => x.1.isSome) && decide ([Expr.Constant (.int n) nj ipos, e].length + ([] : List Keyword).length + (if ([] : List Keyword).isEmpty then 0 else 1) < 30)) = true := by rfl)
    (hline : (apos.endLine == cpos.line) = true := by rfl) (hst : starEach [.Constant (.int n) nj ipos, e] X.env = (false, eval (.Constant (.int n) nj ipos) X.env) :: starEach [e] X.env := by rfl) (hplain : (backTo cpos (starEach [e] X.env)).any (·.1) = false := by rfl)
    (hst2 : starEach [e] X.env = (false, eval e X.env) :: starEach [] X.env := by rfl)
    (hsw : swapsWith (.Call (.Attribute (.Subscript (.Name x npos) k tpos) "insert" apos) [.Constant (.int n) nj ipos, e] [] cpos) none pos.line X.env = pure false := by rfl) : DS X W S (.Expr (.Call (.Attribute (.Subscript (.Name x npos) k tpos) "insert" apos) [.Constant (.int n) nj ipos, e] [] cpos) pos) (sIns1 i g n f) := by
  obtain ⟨t, p, s⟩ := he
  obtain ⟨t', p', s'⟩ := hk
  refine ⟨_, ps_expr (pe_bm PySem.F.plainAttrs_list PySem.F.slot_list_insert PySem.F.type_list_insert mt_insert (pe_ix ix_list (pe_var hN hv hd hcd) p' hs) (pa_cons pe_int (pa_cons p pa_nil hst2) hst) hbase hfew hline hst hplain) hsw, fun F H σ env fp D sat h => ?_⟩
  refine own1_go s' sat h fun os j os1 a F1 H1 eo ho sat1 ⟨z0, zs, w1, w2, w3⟩ h2 => ?_
  obtain ⟨a0, vs0, a', vs, fo, c1, c2, c3, c4, c5, c6, c7, c8, c9, c10⟩ := sat1.mut1 eo ho
  rw [w1] at c1; cases c1
  rw [w2] at c2; cases c2
  rw [w3] at c4; cases c4
  refine ⟨.inl ⟨rfl, vs, SqL.of c6⟩, ?_⟩
  refine s F1 H1 σ env fp _ sat1 ?_
  cases ef : f env with
  | no => rw [ef] at h2; exact h2
  | ex c => rw [ef] at h2; exact fun C F' H' m x => h2 C σ F' H' fp m (.refl _ _) (StepS.of_ext x fp) (sat1.ext x)
  | ok r =>
    rw [ef] at h2
    intro v F2 H2 x2 ⟨fx, ow, nx, fr⟩
    simp only [R.st_ok] at h2
    split at h2
    · rename_i os' hos
      unfold insO at hos
      split at hos
      · rename_i cc
        cases hos
        have hb := x2.hh _ _ c6
        have la := OwnAll.len c7
        obtain ⟨fo', g1, g2, g3⟩ := OwnAll.drop' n.toNat (own_mut (vs' := vs.take n.toNat ++ [v] ++ vs.drop n.toNat) x2 c6 c7 c9) (own_mut1 x2.fh (mut_free x2 c5 c6) hb ow fun z => by rw [fr a z] at c6; cases c6) c8 nx fun b hb z => by
          obtain ⟨_, w, e⟩ := OwnAll.there _ _ _ c7 b z
          rw [fr b hb] at e; cases e
        obtain ⟨fp', st, sat'⟩ := c10 F2 H2 _ _ fo' x2 g1 g2 fun b hb => (g3 b hb).imp id (fr b)
        exact ⟨a, vs, n, v, rfl, rfl, hb, by rw [la]; exact cc.1, cc.2.1, cc.2.2, h2 σ F2 _ fp' (.refl _ _) st sat'⟩
      · cases hos
    · exact h2.elim
theorem ds_app1 {g : Ev → R D} {f : Ev → R Ow} (i : Nat) (hk : DV X W k g) (he : DE X W e f) (hN : X.N[i]? = some x := by rfl) (hv : Vis X.env.scope x := by first | exact Or.inl rfl | exact Or.inr (Or.inl rfl) | exact Or.inr (Or.inr rfl)) (hd : (x == ("__debug__" : Str)) = false := by decide) (hcd : (x == ("__classdict__" : Str)) = false := by decide)
    (hs : PlainIx k := by exact fun _ _ => rfl)
    (hbase : attributeBase (.Subscript (.Name x npos) k tpos) "append" X.env (eval (.Subscript (.Name x npos) k tpos) X.env) = eval (.Subscript (.Name x npos) k tpos) X.env := by rfl)
    (hfew : ((backTo cpos (starEach [e] X.env)).all (fun x => !x.1) && (backToKw cpos (keywordEach [] X.env)).all (fun x => x.1.isSome) && decide ([e].length + ([] : List Keyword).length + (if ([] : List Keyword).isEmpty then 0 else 1) < 30)) = true := by rfl)
    (hline : (apos.endLine == cpos.line) = true := by rfl) (hst : starEach [e] X.env = (false, eval e X.env) :: starEach [] X.env := by rfl) (hplain : (backTo cpos (starEach [] X.env)).any (·.1) = false := by rfl)
    (hsw : swapsWith (.Call (.Attribute (.Subscript (.Name x npos) k tpos) "append" apos) [e] [] cpos) none pos.line X.env = pure false := by rfl) : DS X W S (.Expr (.Call (.Attribute (.Subscript (.Name x npos) k tpos) "append" apos) [e] [] cpos) pos) (sApp1 i g f) := by
  obtain ⟨t, p, s⟩ := he
  obtain ⟨t', p', s'⟩ := hk
  refine ⟨_, ps_expr (pe_bm PySem.F.plainAttrs_list PySem.F.slot_list_append PySem.F.type_list_append mt_append (pe_ix ix_list (pe_var hN hv hd hcd) p' hs) (pa_cons p pa_nil hst) hbase hfew hline hst hplain) hsw, fun F H σ env fp D sat h => ?_⟩
  refine own1_go s' sat h fun os j os1 a F1 H1 eo ho sat1 ⟨z0, zs, w1, w2, w3⟩ h2 => ?_
  obtain ⟨a0, vs0, a', vs, fo, c1, c2, c3, c4, c5, c6, c7, c8, c9, c10⟩ := sat1.mut1 eo ho
  rw [w1] at c1; cases c1
  rw [w2] at c2; cases c2
  rw [w3] at c4; cases c4
  refine ⟨.inl ⟨rfl, vs, SqL.of c6⟩, ?_⟩
  refine s F1 H1 σ env fp _ sat1 ?_
  cases ef : f env with
  | no => rw [ef] at h2; exact h2
  | ex c => rw [ef] at h2; exact fun C F' H' m x => h2 C σ F' H' fp m (.refl _ _) (StepS.of_ext x fp) (sat1.ext x)
  | ok r =>
    rw [ef] at h2
    intro v F2 H2 x2 ⟨fx, ow, nx, fr⟩
    simp only [R.st_ok] at h2
    split at h2
    · have hb := x2.hh _ _ c6
      have la := OwnAll.len c7
      obtain ⟨fo', g1, g2, g3⟩ := OwnAll.snoc (own_mut (vs' := vs ++ [v]) x2 c6 c7 c9) (own_mut1 x2.fh (mut_free x2 c5 c6) hb ow fun z => by rw [fr a z] at c6; cases c6) c8 nx fun b hb z => by
        obtain ⟨_, w, e⟩ := OwnAll.there _ _ _ c7 b z
        rw [fr b hb] at e; cases e
      obtain ⟨fp', st, sat'⟩ := c10 F2 H2 _ _ fo' x2 g1 g2 fun b hb => (g3 b hb).imp id (fr b)
      exact ⟨a, vs, v, rfl, rfl, hb, by omega, h2 σ F2 _ fp' (.refl _ _) st sat'⟩
    · exact h2.elim

/-! ### name = [..] -/
theorem ds_setLc {elt tg iter : Expr} {ifs : List Expr} {scope : Scope} {own : List (Str × Nat)} {g : D → Ev → Option Ev} {fi : Ev → R (List D)} {fc : Ev → R Bool} {fe : Ev → R Ow} {ix : List Nat} {y : Str} {py spos : Pos} (i : Nat) (hc : X.calm = true) (hN : X.N.Nodup) (hi : DI X W tg iter fi) (ok : BlkOk X.N X.env.scope scope own)
    (hg : ∀ (s : Shared) (H : Hp) (C : Addr) (cl : List (Str × Addr)) (fp : List Addr), DG (X.blk s H scope (compEnvC scope cl C X.env) fp) tg ix g) (ht : ∀ (s : Shared) (H : Hp) (C : Addr) (cl : List (Str × Addr)) (fp : List Addr), DTs (X.blk s H scope (compEnvC scope cl C X.env) fp) W0 ifs fc)
    (he : ∀ (s : Shared) (H : Hp) (C : Addr) (cl : List (Str × Addr)) (fp : List Addr), DE (X.blk s H scope (compEnvC scope cl C X.env) fp) W0 elt fe) (hix : ∀ i ∈ ix, i ∈ own.map (·.2) := by decide) (hs : ∀ x, foldedSetIterable iter X.env x = pure x := by intro _; rfl)
    (hy : X.N[i]? = some y := by rfl) (hyl : X.env.scope.names.lookup y = some .local := by rfl) (hsw : swapsWith (.ListComp elt [⟨tg, iter, ifs, 0⟩] scope pos) (some (.Name y py)) spos.line X.env = pure true := by exact sw_true rfl rfl rfl (by decide +kernel)) (hS : S i = true := by rfl) :
    DS X W S (.Assign [.Name y py] (.ListComp elt [⟨tg, iter, ifs, 0⟩] scope pos) spos) (sSet i (eLc fi g fc fe (own.map (·.2)))) := by
  obtain ⟨wi, pi, si⟩ := hi
  refine ⟨_, ps_setLc (g := tgOf X.K ix g) (tt := tOf X.K (Post X W0 PTb) fc) (te := tOf X.K (Post X W0 (POw X.K)) fe) hc hN hy hyl hsw pi ok (fun s H C cl fp => hg s H C cl fp) (fun s H C cl fp => (ht s H C cl fp).can) (fun s H C cl fp => (he s H C cl fp).can) hs, fun F H σ env fp D sat h => ?_⟩
  refine de_lc_core si hix F H σ env fp _ sat ?_
  unfold sSet at h
  cases e : eLc fi g fc fe (own.map (·.2)) env with
  | no => rw [e] at h; exact h
  | ex c => rw [e] at h; exact fun C F' H' m x => h C σ F' H' fp m (.refl _ _) (StepS.of_ext x fp) (sat.ext x)
  | ok r =>
    rw [e] at h
    intro v F' H' x ⟨fx, q, nd, n⟩
    have h' : PostS X W S σ F H fp D (if i < env.length then .nx (env.set i (some r)) else .no) := h
    split at h'
    · obtain ⟨fp', s1, s2⟩ := put_step sat x q nd n ‹_›
      exact h' _ F' H' fp' (.set hS _) s1 s2
    · exact h'.elim
end
end Mir
end
set_option Elab.async false
set_option linter.all false
set_option maxRecDepth 100000
set_option maxHeartbeats 4000000
noncomputable section
namespace Mir
open PySem PySem.Spec PySem.W PySem.Calls PyProof.Rows PySem.SeqAt

/-! ### tuples, some of them empty, can be sorted too -/
section
variable {prog : Program} {w : World} {A : Around} {E : Value → Shared → Prop} {s : Shared}
theorem call_tuple_lt {Q : Value → Shared → Prop} {l b : Addr} {items items2 : Array Value} {e r : Nat → Bool} (hl : s.heap.IsTuple l items) (hb : s.heap.IsTuple b items2)
    (he : ∀ j (h1 : j < items.size) (h2 : j < items2.size), SeqAt.EqAt A.in1 s items[j] items2[j] (e j)) (hr : ∀ j (h1 : j < items.size) (h2 : j < items2.size), e j = false → RcLt A.in1 s items[j] items2[j] (r j))
    (h : Q (.bool (firstLt e r (decide (items.size < items2.size)) (List.range (min items.size items2.size)))) s) : wpAny (model prog w) A (call (.builtin "tuple.__lt__") [.ref l, .ref b]) Q E s := by
  obtain ⟨⟨cls, dd, data, sl⟩, ho, hc, n, hd⟩ := id hl
  obtain ⟨⟨cls2, dd2, data2, sl2⟩, ho2, hc2, n2, hd2⟩ := id hb
  simp only at hc hd hc2 hd2
  subst hc hd hc2 hd2
  exact call_meets F.slot_tuple_lt ⟨_, ho, rfl⟩ F.entry_tuple_lt (F.args_tuple_lt_2 _ _) (tuple_ltAt l b items items2 n n2 dd dd2 sl sl2 e r)
    ⟨ho, ho2, he, hr, h⟩
theorem oneLt_tuples {xs ys : List PyData} {a b : Value} {as bs : List Addr} {Q : Bool → Shared → Prop} (ra : Reads s.heap a (.tuple xs) as) (rb : Reads s.heap b (.tuple ys) bs) (hal : alikeAll xs ys = true)
    (hu : A.units + min (PyData.tuple xs).depth (PyData.tuple ys).depth < cLine) (hq : Q (dataLt (.tuple xs) (.tuple ys)) s) : wpAny (model prog w) A (oneLt' true a b) Q E s := by
  cases ra with
  | @tuple l o vs n _ as₁ h1 h2 h3 h4 =>
    cases rb with
    | @tuple l' o' vs' n' _ bs₁ k1 k2 k3 k4 =>
      have n1 : vs.size = xs.length := by simpa using SeqAt.ReadsAll.length _ _ _ h4
      have n2 : vs'.size = ys.length := by simpa using SeqAt.ReadsAll.length _ _ _ k4
      rw [dataLt_tuple, ← firstLt_toks xs ys hal, ← n1, ← n2] at hq
      rw [oneLt'_eq]
      simp only [if_true]
      refine wpAny_bind (wpAny_cRoomFor (SeqAt.room_here hu) ?_)
      refine wpAny_bind (wpAny_callSpecialIfBound?_slot (T := "tuple") ⟨_, h1, h2⟩ F.slot_tuple_lt (call_tuple_lt (e := SeqAt.pairEq xs ys) (r := fun j => dataLt (xs.getD j .none) (ys.getD j .none)) ⟨_, h1, h2, _, h3⟩ ⟨_, k1, k2, _, k3⟩ (fun j j1 j2 => ?_) (fun j j1 j2 hj => ?_) ?_))
      · have := eqAt_alikeAll xs ys A.in1 s vs.toList vs'.toList _ _ h4 k4 hal (SeqAt.room_in hu) j (by simpa using j1) (by simpa using j2)
        simpa using this
      · have := rcLt_alikeAll xs ys A.in1 s vs.toList vs'.toList _ _ h4 k4 hal (SeqAt.room_in hu) j (by simpa using j1) (by simpa using j2) hj
        simpa using this
      · exact wpAny_truthy_bool hq
end
section
variable {prog : Program} {w : World} {A : Around} {s : Shared}
def neD : PyData → Bool
  | .tuple [] => false
  | _ => true
theorem firsts_tup {M : Model} : ∀ {vs : List Value} {ds : List PyData}, EachIs (fun v d => ∃ as, Reads s.heap v d as) vs ds → (∀ d, d ∈ ds → ∃ xs, d = .tuple xs) → ∃ fs : List (Option Value), fs.map Option.isSome = ds.map neD ∧ ∀ (A : Around) (E : Value → Shared → Prop) (Q : List (Option Value) → Shared → Prop), Q fs s → wpAny M A (vs.mapM firstOfTuple') Q E s
  | _, _, .nil, _ => ⟨[], rfl, fun A E Q h => by rw [List.mapM_nil]; exact wpAny_pure h⟩
  | _, _, .cons (a := v) (b := d) (as := vs) (bs := ds) ⟨as, r⟩ t, ht => by
    obtain ⟨fs, h1, h2⟩ := firsts_tup (M := M) t fun d hd => ht d (List.mem_cons_of_mem _ hd)
    obtain ⟨xs, rfl⟩ := ht d List.mem_cons_self
    cases r with
    | @tuple a o ys n _ _ ho hc hd hr =>
      refine ⟨ys[0]? :: fs, ?_, fun A E Q h => ?_⟩
      · rw [List.map_cons, List.map_cons, h1]
        congr 1
        cases xs with
        | nil =>
          have e : ys.toList = [] := by cases q : ys.toList with | nil => rfl | cons u us => rw [q] at hr; cases hr
          have e2 : ys[0]? = none := by rw [← Array.getElem?_toList, e]; rfl
          rw [e2]; rfl
        | cons x r =>
          cases q : ys.toList with
          | nil => rw [q] at hr; cases hr
          | cons u us =>
            have e2 : ys[0]? = some u := by rw [← Array.getElem?_toList, q]; rfl
            rw [e2]; rfl
      · rw [List.mapM_cons]
        refine wpAny_bind ?_
        rw [kas_first_eq]
        refine wpAny_bind (Looks.here (show Looks M s.heap (typeOf (.ref a)) o.cls from (Looks.ld ho).andThen .now) ?_)
        rw [hc, if_neg (by first | decide | simp)]
        refine wpAny_bind (listItems_at ho hd (wpAny_pure ?_))
        exact wpAny_bind (h2 A E (fun bs s' => wpAny M A (pure (ys[0]? :: bs)) Q E s') (wpAny_pure h))
/-- tuples that read as alike data can be sorted -/
theorem sortsAt_tuples {vs : List Value} {ds : List PyData} (e : EachIs (fun v d => ∃ as, Reads s.heap v d as) vs ds) (hal : AllAlike ds) (ht : ∀ d, d ∈ ds → ∃ xs, d = .tuple xs) (hu : ∀ d, d ∈ ds → A.units + d.depth < cLine) : SortsAt prog w A s (dataKind s.heap ds) vs := by
  by_cases hne : ∀ d, d ∈ ds → ∃ x r, d = .tuple (x :: r)
  · exact SortsAt.data e hal (.inl hne) hu
  have room : ∀ {d d' : PyData}, d ∈ ds → A.units + min d.depth d'.depth < cLine := fun {d d'} hd => Nat.lt_of_le_of_lt (Nat.add_le_add_left (Nat.min_le_left _ _) _) (hu d hd)
  obtain ⟨fs, h1, h2⟩ := firsts_tup (M := model prog w) e ht
  have hnall : (fs.toArray.all fun x => x.isSome) = false := by
    rw [List.all_toArray, Bool.eq_false_iff]
    intro hall
    refine hne fun d hd => ?_
    obtain ⟨xs, rfl⟩ := ht d hd
    cases xs with
    | cons x r => exact ⟨x, r, rfl⟩
    | nil =>
      have : neD (.tuple []) ∈ ds.map neD := List.mem_map_of_mem hd
      rw [← h1] at this
      obtain ⟨f, f1, f2⟩ := List.mem_map.mp this
      have := List.all_eq_true.mp hall f f1
      rw [f2] at this
      cases this
  have hkeys : ∀ v, v ∈ vs → ∃ a, (dataKind s.heap ds).keyOf v = some a := fun v hv => by
    obtain ⟨d, hd, as, r⟩ := e.left v hv
    exact ⟨_, dataKind_some hal hd r⟩
  have hty : ∀ v ∈ vs, Looks (model prog w) s.heap (typeOf v) (.type "tuple") := fun v hv => by
    obtain ⟨d, hd, as, r⟩ := e.left v hv
    obtain ⟨xs, rfl⟩ := ht d hd
    exact looks_reads r
  by_cases hf : ((fs.toArray)[0]?.bind id).isSome = true
  · refine ⟨hkeys, general', ?_, fun h2' E Q hq => ?_⟩
    · intro E x y a b Q ha hb hq
      obtain ⟨d, as, hd, ra, rfl⟩ := dataKind_inv ha
      obtain ⟨d', as', hd', rb, rfl⟩ := dataKind_inv hb
      obtain ⟨xs, rfl⟩ := ht d hd
      show wpAny (model prog w) A (oneLt' false x y) Q E s
      exact oneLt_alike (fun z => by cases z) ra rb (hal _ hd d' hd') (by intro z; cases z) (room hd) hq
    · rw [kat_kind_eq, List.mapM_toArray, map_eq_pure_bind]
      refine wpAny_bind (wpAny_bind (h2 A E _ (wpAny_pure ?_)))
      rw [if_neg (by rw [hnall]; exact Bool.false_ne_true), if_pos hf]
      exact wpAny_pure hq
  · refine ⟨hkeys, oneType', ?_, fun h2' E Q hq => ?_⟩
    · intro E x y a b Q ha hb hq
      obtain ⟨d, as, hd, ra, rfl⟩ := dataKind_inv ha
      obtain ⟨d', as', hd', rb, rfl⟩ := dataKind_inv hb
      have hdd := hal d hd d' hd'
      have hroom := room (d' := d') hd
      obtain ⟨xs, rfl⟩ := ht d hd
      obtain ⟨ys, rfl⟩ := ht d' hd'
      rw [keyLt'_oneType]
      exact oneLt_tuples ra rb (by simpa [alike] using hdd) hroom hq
    · rw [kat_kind_eq, List.mapM_toArray, map_eq_pure_bind]
      refine wpAny_bind (wpAny_bind (h2 A E _ (wpAny_pure ?_)))
      rw [if_neg (by rw [hnall]; exact Bool.false_ne_true), if_neg hf]
      rw [oneTypeOnly'_eq, List.mapM_toArray, map_eq_pure_bind]
      refine wpAny_bind (wpAny_bind (wpAny_bind (kas_mapM (r := Value.type "tuple") _ (fun v hv Q' hq => (hty v hv).here hq) (wpAny_pure ?_))))
      obtain ⟨v0, vr, rfl⟩ : ∃ v0 vr, vs = v0 :: vr := by
        match vs, h2' with
        | [], h2 => simp at h2
        | v :: r, _ => exact ⟨v, r, rfl⟩
      have hall : ((List.map (fun _ => Value.type "tuple") (v0 :: vr)).toArray.all fun x => x == Value.type "tuple") = true := by
        simp only [List.all_toArray, List.all_map, List.all_eq_true]
        intro _ _
        exact beq_self_eq_true _
      have h0 : (List.map (fun _ => Value.type "tuple") (v0 :: vr)).toArray[0]? = some (Value.type "tuple") := by simp
      rw [h0]
      simp only [hall, if_true]
      exact wpAny_pure (wpAny_pure hq)
end
end Mir
namespace Mir
open PySem PySem.Spec L2
abbrev sortedD (ds : List D) : List D := ds.mergeSort (PySem.W.dataLe false id)
def tupB : D → Bool
  | .tuple _ => true
  | _ => false
def plainB : D → Bool
  | .tuple _ => false
  | .none => false
  | _ => true
def sortOk (ds : List D) : Bool := (ds.all fun d => ds.all fun e => PySem.W.alike d e) && (ds.all tupB || ds.all plainB) && (ds.all fun d => decide (d.depth ≤ 130))
def gSorted : List D → Option Ow
  | [.list ds] => if sortOk ds = true then some (.l ((sortedD ds).map Ow.d)) else none
  | _ => none
def rSortD (K : PySem.W.Frag) : List V → Hp → VK → Prop := fun vs H Q => ∃ (a : Addr) (xs : List V) (ds : List D) (T : V → D → Prop), vs = [V.ref a] ∧ SqL K H a xs ∧ DpAll K H xs ds ∧ sortOk ds = true ∧ PySem.W.EachIs T xs ds ∧
  ∀ (ys : List V) (p : Addr), H p = none → PySem.W.EachIs T ys (sortedD ds) → Q (.ref p) (upd H p (.lst ys))
section
variable {X : Cx} {W : WX}
theorem each_vals {T : V → D → Prop} : ∀ {xs : List V} {vs : List Value} {ds : List D}, Vals xs vs → PySem.W.EachIs T xs ds → PySem.W.EachIs (fun v d => ∃ x, RelV x v ∧ T x d) vs ds
  | _, _, _, .nil, .nil => .nil
  | _, _, _, .cons r t, .cons h g => .cons ⟨_, r, h⟩ (each_vals t g)
theorem vals_each {T : V → D → Prop} : ∀ {vs : List Value} {ds : List D}, PySem.W.EachIs (fun v d => ∃ x, RelV x v ∧ T x d) vs ds → ∃ xs, Vals xs vs ∧ PySem.W.EachIs T xs ds
  | _, _, .nil => ⟨[], .nil, .nil⟩
  | _, _, .cons ⟨x, r, h⟩ g => by
    obtain ⟨xs, a, b⟩ := vals_each g
    exact ⟨x :: xs, .cons r a, .cons h b⟩
theorem each_reads {pins : List (Addr × Obj)} {s : Shared} {σ : L2.St} {H : Hp} (I : Inv X pins σ H s) : ∀ {xs : List V} {vs : List Value} {ds : List D}, Vals xs vs → DpAll X.K H xs ds → PySem.W.EachIs (fun v d => ∃ as, PySem.Reads s.heap v d as) vs ds
  | _, _, _, .nil, h => by cases h; exact .nil
  | _, _, _, .cons r t, h => by
    cases h with
    | cons h1 h2 => exact .cons (Dp.reads I _ _ _ h1 r) (each_reads I t h2)
theorem sortOk_cases {ds : List D} (h : sortOk ds = true) : PySem.W.AllAlike ds ∧ ((∀ d, d ∈ ds → ∃ xs, d = .tuple xs) ∨ ∀ d, d ∈ ds → d ≠ .none ∧ ∀ xs, d ≠ .tuple xs) ∧ ∀ d, d ∈ ds → d.depth ≤ 130 := by
  unfold sortOk at h
  simp only [Bool.and_eq_true, Bool.or_eq_true, List.all_eq_true, decide_eq_true_eq] at h
  obtain ⟨⟨h1, h2⟩, h3⟩ := h
  refine ⟨h1, h2.imp (fun h d hd => ?_) (fun h d hd => ?_), h3⟩
  · have := h d hd
    cases d <;> first | exact ⟨_, rfl⟩ | cases this
  · have := h d hd
    cases d with
    | none => cases this
    | tuple _ => cases this
    | _ => exact ⟨nofun, nofun⟩
theorem cr_sortD (hu : X.A.units + 140 < cLine) : CallR X (.builtin "sorted") (rSortD X.K) := by
  intro pins s σ H vs us Q I r h
  obtain ⟨a, xs, ds, T, rfl, hs, hx, ok, hT, q⟩ := h
  obtain ⟨its, rv, hl, hz⟩ := I.list hs
  rw [Vals.ref1 r]
  obtain ⟨hal, hk, hd⟩ := sortOk_cases ok
  have er := each_reads I rv hx
  have e := each_vals rv hT
  have hL : its.length ≤ sizeLine := by rw [← rv.length]; exact hz
  have fin : ∀ out, out.length = ds.length → PySem.W.EachIs (fun v d => ∃ x, RelV x v ∧ T x d) out (sortedD ds) → EP X pins σ Q (.ref (s.heap.objs.size + 1)) { s with heap := PyProof.Rows.sortedAll s.heap its out.toArray } := fun out h1 h2 => by
    obtain ⟨ys, h3, h4⟩ := vals_each h2
    have hn : H (s.heap.objs.size + 1) = none := I.hok.fresh (Nat.le_succ _)
    obtain ⟨n, hn2⟩ := PyProof.Rows.sortedAll_at s.heap its out.toArray
    refine ⟨.ref (s.heap.objs.size + 1), upd H (s.heap.objs.size + 1) (.lst ys), I.laid (t' := s.toks) (fun b o e => PyProof.Rows.sortedAll_old e) (Nat.le_succ _) ⟨?_, out, n, h3, hn2⟩, rfl, q ys _ hn h4⟩
    rw [h3.length, h1, ← er.length]
    exact hL
  have er' : PySem.W.EachIs (fun v b => ∃ as, PySem.Reads (PySem.W.sortingHeap (PySem.W.copyHeap s.heap its) (s.heap.objs.size + 1) its) v (id b) as) its ds := er.mono fun _ _ ⟨as, r⟩ => ⟨as, PyProof.Rows.Reads.keeps (fun _ _ => PySem.W.sorting_copy_old) r⟩
  have hb : ∀ d, d ∈ ds → X.A.in1.in1.units + d.depth < cLine := fun d m => by
    have := hd d m
    show X.A.units + 1 + 1 + d.depth < cLine
    omega
  refine PySem.W.sorted_vals (κ := PySem.W.dataKind (PySem.W.sortingHeap (PySem.W.copyHeap s.heap its) (s.heap.objs.size + 1) its) ds) hl.isList ?_ hL (fin _ ?_ ?_)
  · rcases hk with hk | hk
    · exact sortsAt_tuples (s := { s with heap := PySem.W.sortingHeap (PySem.W.copyHeap s.heap its) (s.heap.objs.size + 1) its }) er' hal hk hb
    · exact PySem.W.SortsAt.data (s := { s with heap := PySem.W.sortingHeap (PySem.W.copyHeap s.heap its) (s.heap.objs.size + 1) its }) er' hal (.inr hk) hb
  · rw [PySem.W.sortVals_length false rfl]; exact er.length
  · have z := PySem.W.sortVals_data (enc := (id : D → D)) (bs := ds) false e er' (by simpa using hal)
    simpa using z
theorem each_dpAll {F : Hp} : ∀ {xs : List V} {ds : List D}, DpAll X.K F xs ds → PySem.W.EachIs (Dp X.K F) xs ds
  | _, [], h => by cases h; exact .nil
  | _, d :: ds, h => by
    cases h with
    | cons h1 h2 => exact .cons h1 (each_dpAll h2)
theorem dpAll_each {F : Hp} : ∀ {xs : List V} {ds : List D}, PySem.W.EachIs (Dp X.K F) xs ds → DpAll X.K F xs ds
  | _, _, .nil => .nil
  | _, _, .cons h g => .cons h (dpAll_each g)
theorem caG_sorted : CaG X.K (rSortD X.K) gSorted := by
  intro F H vs ds o Q s h e q
  unfold gSorted at e
  split at e
  · split at e
    · rename_i es c
      cases e
      obtain ⟨v, rfl, p, ws, rfl, p1, p2⟩ := psqs1 h
      refine ⟨p, ws, es, Dp X.K F, rfl, p1, dpaUp p2 s, c, each_dpAll p2, fun ys a ha hy => ?_⟩
      exact q _ _ _ (Ext.own s ha _) (own_l s ha (dpAll_each hy))
    · cases e
  · cases e
theorem de_sorted {x : Expr} {p pos : Pos} {f : Ev → R (List D)} (hu : X.A.units + 140 < cLine) (hg : Gl X "sorted") (hm : X.mg "sorted" = none) (ha : DAl X W [x] f) (he : starEach [x] X.env = (false, eval x X.env) :: starEach [] X.env := by rfl) : DE X W (.Call (.Name "sorted" p) [x] [] pos) (eCa gSorted f) :=
  de_callB (cr_sortD hu) caG_sorted hg hm (by first | rfl | decide +kernel) ha (he := he)
end
end Mir
end
set_option Elab.async false
set_option linter.all false
set_option maxRecDepth 100000
set_option maxHeartbeats 4000000
noncomputable section
namespace Mir
open PySem PySem.Spec L2

/-! ### for over an own list that stays as it is -/
def sameO (i : Nat) (os : List Ow) (env : Ev) : Prop := env[i]? = some (some (.l os))
open Classical in
def forLV (i : Nat) (os : List Ow) (g : D → Ev → Option Ev) (f : Ev → SR) : List D → Ev → SR
  | [], env => .nx env
  | d :: ds, env => match g d env with
    | none => .no
    | some env1 => match f env1 with
      | .nx env2 => if sameO i os env2 then forLV i os g f ds env2 else .no
      | .ct env2 => if sameO i os env2 then forLV i os g f ds env2 else .no
      | .bk env2 => .nx env2
      | .rt r env2 => .rt r env2
      | .ex c env2 => .ex c env2
      | .no => .no
def sForV (i : Nat) (g : D → Ev → Option Ev) (f : Ev → SR) (env : Ev) : SR := ownL i env fun os => match unDs os with
  | some ds => forLV i os g f ds env
  | none => .no
abbrev offI (S : Nat → Bool) (i : Nat) : Nat → Bool := fun j => S j && !(Nat.beq j i)
section
variable {X : Cx} {W : WX} {S : Nat → Bool} {pos npos : Pos} {x : Str} {fs : Ev → SR}
theorem offI_i (S : Nat → Bool) (i : Nat) : offI S i i = false := by simp [offI]
theorem own_lst {K : PySem.W.Frag} {F H : Hp} {σ : L2.St} {env : Ev} {fp : List Addr} (sat : Sat K F H σ env fp) {i : Nat} {ds : List D} {a : Addr} (e : sameO i (ds.map Ow.d) env) (es : σ[i]? = some (some (.ref a))) : ∃ vs, H a = some (.lst vs) ∧ DpAll K F vs ds := by
  obtain ⟨v, fo, e1, e2, _⟩ := sat.en.get e
  rw [es] at e1
  cases e1
  cases e2 with
  | l m1 m2 m3 => exact ⟨_, m2, (OwnAll.dp m3).1⟩
theorem ds_forV {tg : Expr} {body : List Stmt} {g : D → Ev → Option Ev} (i : Nat) (hp : PassesOwn (model X.prog X.w) X.A X.env X.xe) (hc : X.calm = true) {ix : List Nat} (hg : DG X tg ix g) (hb : DSs X W (offI S i) body fs) (hN : X.N[i]? = some x := by rfl) (hv : Vis X.env.scope x := by first | exact Or.inl rfl | exact Or.inr (Or.inl rfl) | exact Or.inr (Or.inr rfl)) (hd : (x == ("__debug__" : Str)) = false := by decide) (hcd : (x == ("__classdict__" : Str)) = false := by decide)
    (hs : ∀ z, foldedSetIterable (.Name x npos) X.env z = pure z := by intro _; rfl) (hS : ix.all (offI S i) = true := by rfl) : DS X W S (.For tg (.Name x npos) body [] pos) (sForV i g fs) := by
  obtain ⟨tb, pb, sb⟩ := hb
  refine ⟨_, ps_for hp hc (pi_list (pe_var hN hv hd hcd)) hg pb hs, fun F H σ env fp D sat h => ?_⟩
  obtain ⟨os, eo, h1⟩ := ownL_post h
  cases eu : unDs os with
  | none => rw [eu] at h1; exact h1.elim
  | some items =>
  rw [eu] at h1
  have h1 : PostS X W S σ F H fp D (forLV i os g fs items env) := h1
  have eos := unDs_eq eu
  subst eos
  obtain ⟨v, fo, e1, e2, _⟩ := sat.en.get eo
  cases e2 with
  | @l a vs0 _ f0 m1 m2 m3 =>
  have sub : ∀ j, S j = false → offI S i j = false := fun j hj => by simp [offI, hj]
  have hS2 : ix.all S = true := by
    rw [List.all_eq_true] at hS ⊢
    intro j hj
    have := hS j hj
    simp [offI] at this
    exact this.1
  refine ⟨_, e1, a, rfl, ⟨vs0, SqL.of m2⟩, ?_⟩
  refine ⟨fun k m σ' H' => m = items.length - k ∧ k ≤ items.length ∧ ∃ F' env' fp', Sat X.K F' H' σ' env' fp' ∧ sameO i (items.map Ow.d) env' ∧ σ'[i]? = some (some (.ref a)) ∧ PostS X W S σ' F' H' fp' D (forLV i (items.map Ow.d) g fs (items.drop k) env'),
    ⟨items.length, by simp, Nat.zero_le _, F, env, fp, sat, eo, e1, h1⟩, ?_⟩
  rintro k m σ' H' ⟨rfl, hk, F', env', fp', sat', so, es, h2⟩
  obtain ⟨vs, hvs, dvs⟩ := own_lst sat' so es
  have hl := DpAll.len dvs
  by_cases hlt : k < items.length
  · refine .inr ⟨⟨vs, vs[k]'(by omega), SqL.of hvs, by simp⟩, fun σ2 H2 => ∃ F2 env2 fp2, Sat X.K F2 H2 σ2 env2 fp2 ∧ sameO i (items.map Ow.d) env2 ∧ σ2[i]? = some (some (.ref a)) ∧ PostS X W S σ2 F2 H2 fp2 D (forLV i (items.map Ow.d) g fs (items.drop (k + 1)) env2), ?_, ?_⟩
    · rintro σ2 H2 ⟨F2, env2, fp2, c1, c2, c3, c4⟩
      exact ⟨items.length - (k + 1), by omega, rfl, hlt, F2, env2, fp2, c1, c2, c3, c4⟩
    · rintro x3 H3 ⟨rfl, q⟩
      obtain ⟨d, e3, dp⟩ := DpAll.getV dvs (q vs (SqL.of hvs))
      have ed : items.drop k = d :: items.drop (k + 1) := by
        rw [List.drop_eq_getElem_cons hlt]
        have : items[k] = d := by rw [List.getElem?_eq_getElem hlt] at e3; exact Option.some.inj e3
        rw [this]
      rw [ed] at h2
      unfold forLV at h2
      cases eg : g d env' with
      | none => rw [eg] at h2; exact h2.elim
      | some env1 =>
        rw [eg] at h2
        simp only at h2
        refine ⟨F', env', fp', d, env1, sat', dp, eg, fun σ4 fp4 sat4 sub4 off4 => ?_⟩
        have st4 : StepS F' H3 fp' F' H3 fp4 := (StepS.of_ext (.refl sat'.fh) fp').subset sub4
        have h4 := PostS.step h2 (.of off4 hS2) st4
        have es4 : σ4[i]? = some (some (.ref a)) := (OffS.of off4 hS i (offI_i S i)).trans es
        refine sb F' H3 σ4 env1 fp4 _ sat4 ?_
        have h4 := PostS.sub h4 sub
        cases ef : fs env1 with
        | no => rw [ef] at h4; exact h4
        | nx env2 =>
          rw [ef] at h4
          simp only at h4
          split at h4
          · rename_i so2
            refine fun σ5 F5 H5 fp5 o5 s5 sat5 => ⟨F5, env2, fp5, sat5, so2, (o5 i (offI_i S i)).trans es4, ?_⟩
            have h5 := PostS.step h2 (.of off4 hS2) st4
            rw [ef] at h5
            simp only at h5
            rw [if_pos so2] at h5
            exact PostS.step h5 (fun j hj => o5 j (sub j hj)) s5
          · exact h4.elim
        | ct env2 =>
          rw [ef] at h4
          simp only at h4
          split at h4
          · rename_i so2
            refine fun σ5 F5 H5 fp5 o5 s5 sat5 => ⟨F5, env2, fp5, sat5, so2, (o5 i (offI_i S i)).trans es4, ?_⟩
            have h5 := PostS.step h2 (.of off4 hS2) st4
            rw [ef] at h5
            simp only at h5
            rw [if_pos so2] at h5
            exact PostS.step h5 (fun j hj => o5 j (sub j hj)) s5
          · exact h4.elim
        | bk env2 => rw [ef] at h4; exact h4
        | rt r env2 => rw [ef] at h4; exact h4
        | ex c env2 => rw [ef] at h4; exact h4
  · have e : k = items.length := by omega
    subst e
    rw [List.drop_length] at h2
    exact .inl ⟨⟨vs, SqL.of hvs, by omega⟩, h2 σ' F' H' fp' (.refl _ _) (StepS.of_ext (.refl sat'.fh) fp') sat'⟩
end
end Mir
end
set_option Elab.async false
set_option linter.all false
set_option maxRecDepth 100000
set_option maxHeartbeats 4000000
noncomputable section
namespace Mir
open PySem PySem.Spec L2

/-! ### the end: the law's mirror says True -/
def spL (K : PySem.W.Frag) (m : List D → R Ow) : Sp := fun vs H Q _ => ∃ F ds r, Same F H ∧ DpAll K F vs ds ∧ ds.length = 1 ∧ m ds = .ok r ∧ ∀ v F' H', Ext F H F' H' → POw K H r v F' H' → Q v H'
theorem fnOk_spL {P : Program} {w : World} {K : PySem.W.Frag} {mg : Str → Option Value} {base : Heap} {CX : CXT} {k : Nat} {f : Addr} {fd : FuncData} {ps : List Str} {m : List D → R Ow} (h : FnOk P w K mg base CX k f fd ps (spM K mg 1 m)) : FnOk P w K mg base CX k f fd ps (spL K m) :=
  h.imp fun vs H Q E ⟨F, ds, r, h1, h2, h3, h4, h5⟩ => ⟨F, ds, h1, h2, h3, by rw [h4]; exact h5⟩
theorem law_end {l : PySem.W.OpenLaw} {q : Program} {loose : List Str} {XP : (Str → Option Value) → Heap → Prop} {YP : World → Heap → Prop} {d : DefRec} {K : Params → PySem.W.Frag} {m : List D → R Ow} (k : Nat) (x : Str) (hn : l.most = some 63) (hdf : d.params.defaults = []) (hr : Room k callerA)
    (hY : ∀ (w : World) (h : Heap), YP w h → (K w.params).In h)
    (hm : ∀ ns : List Int, ns.length ≤ 63 → (∀ z ∈ ns, Builtin.Int.intBits z ≤ 1048576) → m [.list (ns.map .int)] = .ok (.d (.bool true)))
    (F : ∀ (w : World) (mg : Str → Option Value) (fa : Addr) (h : Heap), (K w.params).In h → h.Ns PySem.mainGlobals mg → mg d.name = some (.ref fa) →
      ∃ fd : FuncData, (∀ (s : Shared) (u : Value), BindsTo s fd ⟨[u], []⟩ [(x, u)]) ∧ ∀ base : Heap, (K w.params).In base → base.Ns PySem.mainGlobals mg → FnOk l.prog w (K w.params) mg base (L2.CX l.prog w) k fa fd [x] (spM (K w.params) mg 1 m)) :
    PySem.W.WalkO q loose XP YP l.row.toRowW d [] (fun f vs => PySem.call f vs) := by
  refine L2.walk_ofB (n := 63) (k := k) (x := x) (CX := fun w => L2.CX l.prog w) (sp := fun w => spL (K w.params) m) hn (by decide) hdf hr hY (fun w mg fa h a b c => ?_) (fun w H a ns hl hb _ hS => ?_) fun w H s e s' z => ?_
  · obtain ⟨fd, h1, h2⟩ := F w mg fa h a b c
    exact ⟨fd, h1, fun base p q => fnOk_spL (h2 base p q)⟩
  · refine ⟨H, [.list (ns.map .int)], _, Same.refl _, .cons (.lst hS (DpAll.of_ints ns)) .nil, rfl, hm ns hl hb, fun v F' H' _ ⟨fp, ow, _⟩ => ?_⟩
    cases ow with
    | d h => cases h; rfl
  · obtain ⟨_, _, _, _, _, _, _, _, _, _, _, _, z⟩ := z
    exact z
theorem room_eq {k : Nat} {A : Around} (r : Room k A) : A.units + 140 < cLine := by have := r.un; omega
end Mir
end
set_option Elab.async false
set_option linter.all false
set_option maxRecDepth 100000
set_option maxHeartbeats 4000000
noncomputable section
namespace Mir
open PySem PySem.Spec L2
section
variable {X : Cx} {W : WX} {S : Nat → Bool}
/-! x += e, of ints or texts -/
def gAddA : D → D → Option D
  | .int i, .int j => some (.int (i + j))
  | .str x, .str y => if x.length + y.length ≤ sizeLine then some (.str (x ++ y)) else none
  | _, _ => none
theorem iop_addA : OpR X (inplaceOp .Add) (fun x y H Q => rI0 (fun i j => .int (i + j)) x y H Q ∨ ∃ i j, x = .str i ∧ y = .str j ∧ i.length + j.length ≤ sizeLine ∧ Q (.str (i ++ j)) H) := OpR.or iop_add iop_add_str
theorem opS_addA {K : PySem.W.Frag} : OpS K (fun x y H Q => rI0 (fun i j => .int (i + j)) x y H Q ∨ ∃ i j, x = .str i ∧ y = .str j ∧ i.length + j.length ≤ sizeLine ∧ Q (.str (i ++ j)) H) gAddA := by
  intro H x y dx dy d Q hx hy e q
  unfold gAddA at e
  split at e
  · cases e
    cases dp_int hx
    cases dp_int hy
    exact .inl ⟨_, _, rfl, rfl, q _ fun F => .int _⟩
  · split at e
    · cases e
      cases dp_str hx
      cases dp_str hy
      exact .inr ⟨_, _, rfl, rfl, ‹_›, q _ fun F => .str _⟩
    · cases e
  · cases e
/-- name = [..], the list made data -/
theorem ds_setLcF {elt tg iter : Expr} {ifs : List Expr} {scope : Scope} {own : List (Str × Nat)} {g : D → Ev → Option Ev} {fi : Ev → R (List D)} {fc : Ev → R Bool} {fe : Ev → R Ow} {ix : List Nat} {y : Str} {py spos pos : Pos} (i : Nat) (hc : X.calm = true) (hN : X.N.Nodup) (hi : DI X W tg iter fi) (ok : BlkOk X.N X.env.scope scope own)
    (hg : ∀ (s : Shared) (H : Hp) (C : Addr) (cl : List (Str × Addr)) (fp : List Addr), DG (X.blk s H scope (compEnvC scope cl C X.env) fp) tg ix g) (ht : ∀ (s : Shared) (H : Hp) (C : Addr) (cl : List (Str × Addr)) (fp : List Addr), DTs (X.blk s H scope (compEnvC scope cl C X.env) fp) W0 ifs fc)
    (he : ∀ (s : Shared) (H : Hp) (C : Addr) (cl : List (Str × Addr)) (fp : List Addr), DE (X.blk s H scope (compEnvC scope cl C X.env) fp) W0 elt fe) (hix : ∀ i ∈ ix, i ∈ own.map (·.2) := by decide) (hs : ∀ x, foldedSetIterable iter X.env x = pure x := by intro _; rfl)
    (hy : X.N[i]? = some y := by rfl) (hyl : X.env.scope.names.lookup y = some .local := by rfl) (hsw : swapsWith (.ListComp elt [⟨tg, iter, ifs, 0⟩] scope pos) (some (.Name y py)) spos.line X.env = pure true := by exact sw_true rfl rfl rfl (by decide +kernel)) (hS : S i = true := by rfl) :
    DS X W S (.Assign [.Name y py] (.ListComp elt [⟨tg, iter, ifs, 0⟩] scope pos) spos) (sSet i (eM (eM (eLc fi g fc fe (own.map (·.2))) viewD) Ow.d)) := by
  obtain ⟨wi, pi, si⟩ := hi
  refine ⟨_, ps_setLc (g := tgOf X.K ix g) (tt := tOf X.K (Post X W0 PTb) fc) (te := tOf X.K (Post X W0 (POw X.K)) fe) hc hN hy hyl hsw pi ok (fun s H C cl fp => hg s H C cl fp) (fun s H C cl fp => (ht s H C cl fp).can) (fun s H C cl fp => (he s H C cl fp).can) hs, fun F H σ env fp D sat h => ?_⟩
  refine de_lc_core si hix F H σ env fp _ sat ?_
  unfold sSet eM at h
  cases e : eLc fi g fc fe (own.map (·.2)) env with
  | no => rw [e] at h; exact h
  | ex c => rw [e] at h; exact fun C F' H' m x => h C σ F' H' fp m (.refl _ _) (StepS.of_ext x fp) (sat.ext x)
  | ok r =>
    rw [e] at h
    intro v F' H' x ⟨fx, q, nd, n⟩
    have h' : PostS X W S σ F H fp D (if i < env.length then .nx (env.set i (some (.d (viewD r)))) else .no) := h
    split at h'
    · obtain ⟨F2, x2, q2⟩ := x.freeze q n
      obtain ⟨fp', s1, s2⟩ := put_step sat x2 (.d q2) List.nodup_nil (fun _ z => nomatch z) ‹_›
      exact h' _ F2 H' fp' (.set hS _) s1 s2
    · exact h'.elim
end
end Mir
end
set_option Elab.async false
set_option linter.all false
set_option maxRecDepth 100000
set_option maxHeartbeats 4000000
noncomputable section
namespace Mir
open PySem PySem.Spec L2

/-! ### mirrors reckoned: rows for simp -/
section
variable {α β γ : Type} (env : Ev)
@[simp] theorem eB_eq (f : Ev → R α) (g : α → R β) : eB f g env = (f env).bind g := rfl
@[simp] theorem eM_eq (f : Ev → R α) (g : α → β) : eM f g env = (f env).map g := rfl
@[simp] theorem eC_eq (d : D) : eC d env = .ok d := rfl
@[simp] theorem aNil_eq : aNil env = .ok [] := rfl
@[simp] theorem aCons_eq (f : Ev → R D) (g : Ev → R (List D)) : aCons f g env = (f env).bind fun d => (g env).map fun ds => d :: ds := rfl
@[simp] theorem eTup_eq (f : Ev → R (List D)) : eTup f env = (f env).bind fun ds => guard (ds.length ≤ sizeLine) (.ok (.tuple ds)) := rfl
@[simp] theorem eLst_eq (f : Ev → R (List D)) : eLst f env = (f env).bind fun ds => guard (ds.length ≤ sizeLine) (.ok (.l (ds.map Ow.d))) := rfl
@[simp] theorem eBin_eq (g : D → D → Option D) (f h : Ev → R D) : eBin g f h env = (f env).bind fun x => (h env).bind fun y => R.of (g x y) := rfl
@[simp] theorem eBinO_eq (g : D → D → Option Ow) (f h : Ev → R D) : eBinO g f h env = (f env).bind fun x => (h env).bind fun y => R.of (g x y) := rfl
@[simp] theorem eCa_eq (g : List D → Option Ow) (f : Ev → R (List D)) : eCa g f env = (f env).bind fun ds => R.of (g ds) := rfl
@[simp] theorem eNot_eq (f : Ev → R D) : eNot f env = ((f env).bind asB).bind fun b => .ok (.bool !b) := rfl
@[simp] theorem eAnd_eq (f g : Ev → R D) : eAnd f g env = ((f env).bind asB).bind fun b => if b = true then g env else .ok (.bool false) := rfl
@[simp] theorem eOr_eq (f g : Ev → R D) : eOr f g env = ((f env).bind asB).bind fun b => if b = true then .ok (.bool true) else g env := rfl
@[simp] theorem eIf_eq (c : Ev → R Bool) (f g : Ev → R D) : eIf c f g env = (c env).bind fun b => if b = true then f env else g env := rfl
@[simp] theorem tNotE_eq (f : Ev → R Bool) : tNotE f env = (f env).map (!·) := rfl
@[simp] theorem tAndE_eq (f g : Ev → R Bool) : tAndE f g env = (f env).bind fun b => if b = true then g env else .ok false := rfl
@[simp] theorem tOrE_eq (f g : Ev → R Bool) : tOrE f g env = (f env).bind fun b => if b = true then .ok true else g env := rfl
@[simp] theorem eRep_eq (f : Ev → R Ow) (g : Ev → R D) : eRep f g env = (f env).bind fun o => (g env).bind fun d => repO o d := rfl
@[simp] theorem eIxO_eq (f : Ev → R Ow) (g : Ev → R D) : eIxO f g env = (f env).bind fun o => (g env).bind fun d => ixO o d := rfl
@[simp] theorem eSl_eq (f : Ev → R D) (l h : Ev → R (Option Int)) : eSl f l h env = (f env).bind fun x => (l env).bind fun i => (h env).bind fun j => R.of (gSl x i j) := rfl
@[simp] theorem oNone_eq : oNone env = .ok none := rfl
@[simp] theorem asI_eq (i : Int) : asI (.int i) = .ok (some i) := rfl
@[simp] theorem cYes_eq : cYes env = .ok true := rfl
theorem eVar_eq {i : Nat} {x : D} (h : env[i]? = some (some (.d x))) : eVar i env = .ok x := by unfold eVar; rw [h]
theorem eVarO_eq {i : Nat} {x : Ow} (h : env[i]? = some (some x)) : eVarO i env = .ok x := by unfold eVarO; rw [h]
@[simp] theorem eVar_0 (x : D) : eVar 0 (some (.d x) :: env) = .ok x := rfl
@[simp] theorem eVarO_0 (x : Ow) : eVarO 0 (some x :: env) = .ok x := rfl
@[simp] theorem eVar_s (i : Nat) (x : Option Ow) : eVar (i + 1) (x :: env) = eVar i env := by unfold eVar; rw [List.getElem?_cons_succ]
@[simp] theorem eVarO_s (i : Nat) (x : Option Ow) : eVarO (i + 1) (x :: env) = eVarO i env := by unfold eVarO; rw [List.getElem?_cons_succ]
@[simp] theorem eVar_1 (a : Option Ow) (x : D) : eVar 1 (a :: some (.d x) :: env) = .ok x := rfl
@[simp] theorem eVar_2 (a b : Option Ow) (x : D) : eVar 2 (a :: b :: some (.d x) :: env) = .ok x := rfl
@[simp] theorem eVar_3 (a b c : Option Ow) (x : D) : eVar 3 (a :: b :: c :: some (.d x) :: env) = .ok x := rfl
@[simp] theorem eVar_4 (a b c d : Option Ow) (x : D) : eVar 4 (a :: b :: c :: d :: some (.d x) :: env) = .ok x := rfl
@[simp] theorem eVar_5 (a b c d e : Option Ow) (x : D) : eVar 5 (a :: b :: c :: d :: e :: some (.d x) :: env) = .ok x := rfl
@[simp] theorem eVar_6 (a b c d e f : Option Ow) (x : D) : eVar 6 (a :: b :: c :: d :: e :: f :: some (.d x) :: env) = .ok x := rfl
@[simp] theorem eVar_7 (a b c d e f g : Option Ow) (x : D) : eVar 7 (a :: b :: c :: d :: e :: f :: g :: some (.d x) :: env) = .ok x := rfl
@[simp] theorem eVar_8 (a b c d e f g h : Option Ow) (x : D) : eVar 8 (a :: b :: c :: d :: e :: f :: g :: h :: some (.d x) :: env) = .ok x := rfl
@[simp] theorem eVar_9 (a b c d e f g h i : Option Ow) (x : D) : eVar 9 (a :: b :: c :: d :: e :: f :: g :: h :: i :: some (.d x) :: env) = .ok x := rfl
@[simp] theorem eVarO_1 (a : Option Ow) (x : Ow) : eVarO 1 (a :: some x :: env) = .ok x := rfl
@[simp] theorem eVarO_2 (a b : Option Ow) (x : Ow) : eVarO 2 (a :: b :: some x :: env) = .ok x := rfl
@[simp] theorem eVarO_3 (a b c : Option Ow) (x : Ow) : eVarO 3 (a :: b :: c :: some x :: env) = .ok x := rfl
@[simp] theorem eVarO_4 (a b c d : Option Ow) (x : Ow) : eVarO 4 (a :: b :: c :: d :: some x :: env) = .ok x := rfl
@[simp] theorem eVarO_5 (a b c d e : Option Ow) (x : Ow) : eVarO 5 (a :: b :: c :: d :: e :: some x :: env) = .ok x := rfl
@[simp] theorem eVarO_6 (a b c d e f : Option Ow) (x : Ow) : eVarO 6 (a :: b :: c :: d :: e :: f :: some x :: env) = .ok x := rfl
@[simp] theorem eVarO_7 (a b c d e f g : Option Ow) (x : Ow) : eVarO 7 (a :: b :: c :: d :: e :: f :: g :: some x :: env) = .ok x := rfl
@[simp] theorem sSkip_eq : sSkip env = .nx env := rfl
@[simp] theorem sSeq_eq (f g : Ev → SR) : sSeq f g env = (f env).andThen g := rfl
@[simp] theorem sSet_eq (i : Nat) (f : Ev → R Ow) : sSet i f env = (f env).st env fun r => if i < env.length then .nx (env.set i (some r)) else .no := rfl
@[simp] theorem sRet_eq (f : Ev → R Ow) : sRet f env = (f env).st env fun r => .rt r env := rfl
@[simp] theorem sRetN_eq : sRetN env = .rt (.d .none) env := rfl
theorem sRetV_of {i : Nat} {o : Ow} (h : env[i]? = some (some o)) : sRetV i env = .rt o (env.set i none) := by unfold sRetV; rw [h]
@[simp] theorem sIf_eq (c : Ev → R Bool) (f g : Ev → SR) : sIf c f g env = (c env).st env fun b => if b = true then f env else g env := rfl
@[simp] theorem sFor_eq (it : Ev → R (List D)) (g : D → Ev → Option Ev) (f : Ev → SR) : sFor it g f env = (it env).st env fun ds => forL g f ds env := rfl
@[simp] theorem sDrop_eq (f : Ev → R D) : sDrop f env = (f env).st env fun _ => .nx env := rfl
@[simp] theorem sAug_eq (h : D → D → Option D) (i : Nat) (f : Ev → R D) : sAug h i f env = (((eVar i env).bind fun x => (f env).bind fun y => R.of (h x y)).st env fun d => if i < env.length then .nx (env.set i (some (.d d))) else .no) := rfl
@[simp] theorem sAsg_eq (g : D → Ev → Option Ev) (f : Ev → R D) : sAsg g f env = (f env).st env fun d => match g d env with
  | some env' => .nx env'
  | none => .no := rfl
theorem ownL_of {i : Nat} {os : List Ow} (h : env[i]? = some (some (.l os))) (k : List Ow → SR) : ownL i env k = k os := by unfold ownL; rw [h]
@[simp] theorem sApp_eq (i : Nat) (f : Ev → R Ow) : sApp i f env = ownL i env fun os => (f env).st env fun r => if os.length < sizeLine then .nx (env.set i (some (.l (os ++ [r])))) else .no := rfl
@[simp] theorem sExt_eq (i : Nat) (f : Ev → R D) : sExt i f env = ownL i env fun os => (f env).st env fun d => (asL d).st env fun ds => if os.length + ds.length ≤ sizeLine then .nx (env.set i (some (.l (os ++ ds.map Ow.d)))) else .no := rfl
@[simp] theorem sPut_eq (i : Nat) (f : Ev → R Ow) (g : Ev → R D) : sPut i f g env = (f env).st env fun r => ownL i env fun os => (g env).st env (putAt i env os r) := rfl
@[simp] theorem ownL_0 (os : List Ow) (k : List Ow → SR) : ownL 0 (some (.l os) :: env) k = k os := rfl
@[simp] theorem ownL_1 (a : Option Ow) (os : List Ow) (k : List Ow → SR) : ownL 1 (a :: some (.l os) :: env) k = k os := rfl
@[simp] theorem ownL_2 (a b : Option Ow) (os : List Ow) (k : List Ow → SR) : ownL 2 (a :: b :: some (.l os) :: env) k = k os := rfl
@[simp] theorem ownL_3 (a b c : Option Ow) (os : List Ow) (k : List Ow → SR) : ownL 3 (a :: b :: c :: some (.l os) :: env) k = k os := rfl
@[simp] theorem ownL_4 (a b c d : Option Ow) (os : List Ow) (k : List Ow → SR) : ownL 4 (a :: b :: c :: d :: some (.l os) :: env) k = k os := rfl
@[simp] theorem ownL_5 (a b c d e : Option Ow) (os : List Ow) (k : List Ow → SR) : ownL 5 (a :: b :: c :: d :: e :: some (.l os) :: env) k = k os := rfl
@[simp] theorem ownL_6 (a b c d e f : Option Ow) (os : List Ow) (k : List Ow → SR) : ownL 6 (a :: b :: c :: d :: e :: f :: some (.l os) :: env) k = k os := rfl
@[simp] theorem gtName_eq (i : Nat) (d : D) : gtName i d env = if i < env.length then some (env.set i (some (.d d))) else none := rfl
@[simp] theorem gtTup_eq (n : Nat) (h : List D → Ev → Option Ev) (ds : List D) : gtTup n h (.tuple ds) env = if ds.length = n then h ds env else none := rfl
@[simp] theorem gtCons_eq (g : D → Ev → Option Ev) (h : List D → Ev → Option Ev) (d : D) (ds : List D) : gtCons g h (d :: ds) env = (g d env).bind (h ds) := rfl
@[simp] theorem gtNil_eq : gtNil [] env = some env := rfl
theorem guard_ok {c : Prop} {r : R α} (h : c) : guard c r = r := guard_pos h
@[simp] theorem guard_true {r : R α} : guard True r = r := guard_pos trivial
@[simp] theorem guard_small {a : Nat} {r : R α} (h : a ≤ sizeLine) : guard (a ≤ sizeLine) r = r := guard_pos h
end
@[simp] theorem gAddA_int (i j : Int) : gAddA (.int i) (.int j) = some (.int (i + j)) := rfl
@[simp] theorem gEq_int (i j : Int) : gEq (.int i) (.int j) = some (.bool (i == j)) := rfl
@[simp] theorem gNe_int (i j : Int) : gNe (.int i) (.int j) = some (.bool (!(i == j))) := rfl
@[simp] theorem gNeg_int (i : Int) : gNeg (.int i) = .ok (.int (-i)) := rfl
@[simp] theorem gIx_lst (ds : List D) (i : Int) : gIx (.list ds) (.int i) = atI ds i := rfl
@[simp] theorem gIsi_int_int (i : Int) : gIsi "int" (.int i) = .ok (.bool true) := by rfl
@[simp] theorem gIsi_bool_int (i : Int) : gIsi "bool" (.int i) = .ok (.bool false) := by first | rfl | decide +kernel | kernel_rfl
@[simp] theorem gIsi_list_list (ds : List D) : gIsi "list" (.list ds) = .ok (.bool true) := by rfl
@[simp] theorem gIsi_tup_tup (ds : List D) : gIsi "tuple" (.tuple ds) = .ok (.bool true) := by rfl
@[simp] theorem ixO_l (os : List Ow) (k : Int) : ixO (.l os) (.int k) = match atI os k with
    | some o => .ok o
    | none => .no := rfl
@[simp] theorem R.st_no {α : Type} (env : Ev) (f : α → SR) : (R.no : R α).st env f = .no := rfl
/-! items by place -/
theorem atI_natD {α : Type} {xs : List α} {k : Nat} {x : α} (h : xs[k]? = some x) : atI xs (k : Int) = some x := by
  unfold atI ixN
  have hl := (List.getElem?_eq_some_iff.mp h).1
  rw [if_pos (by omega), if_pos (by omega)]
  simpa using h
theorem ixN_nat {n k : Nat} (h : k < n) : ixN n (k : Int) = some k := by
  unfold ixN
  rw [if_pos (by omega), if_pos (by omega)]
  simp
@[simp] theorem atI_0 {α : Type} (x : α) (xs : List α) : atI (x :: xs) 0 = some x := atI_natD (k := 0) rfl
@[simp] theorem atI_1 {α : Type} (x y : α) (xs : List α) : atI (x :: y :: xs) 1 = some y := atI_natD (k := 1) rfl
@[simp] theorem atI_2 {α : Type} (x y z : α) (xs : List α) : atI (x :: y :: z :: xs) 2 = some z := atI_natD (k := 2) rfl
@[simp] theorem atI_3 {α : Type} (x y z u : α) (xs : List α) : atI (x :: y :: z :: u :: xs) 3 = some u := atI_natD (k := 3) rfl
@[simp] theorem atI_4 {α : Type} (x y z u v : α) (xs : List α) : atI (x :: y :: z :: u :: v :: xs) 4 = some v := atI_natD (k := 4) rfl
/-! loops -/
theorem forL_ind {g : D → Ev → Option Ev} {f : Ev → SR} (items : List D) (I : Nat → Ev → Prop) (step : ∀ i d env, items[i]? = some d → I i env → ∃ env1, g d env = some env1 ∧ ∃ env2, (f env1 = .nx env2 ∨ f env1 = .ct env2) ∧ I (i + 1) env2) :
    ∀ env, I 0 env → ∃ env', forL g f items env = .nx env' ∧ I items.length env' := by
  suffices h : ∀ (ds : List D) (k : Nat) (env : Ev), items.drop k = ds → k ≤ items.length → I k env → ∃ env', forL g f ds env = .nx env' ∧ I items.length env' from fun env h0 => h items 0 env rfl (Nat.zero_le _) h0
  intro ds
  induction ds with
  | nil =>
    intro k env hd hk h
    have : k = items.length := by
      have := congrArg List.length hd
      simp at this
      omega
    subst this
    exact ⟨env, rfl, h⟩
  | cons d ds ih =>
    intro k env hd hk h
    have hk' : k < items.length := by
      have := congrArg List.length hd
      simp at this
      omega
    rw [List.drop_eq_getElem_cons hk'] at hd
    obtain ⟨e1, e2⟩ := List.cons.inj hd
    obtain ⟨env1, g1, env2, g2, g3⟩ := step k d env (by rw [List.getElem?_eq_getElem hk', e1]) h
    obtain ⟨env', r1, r2⟩ := ih (k + 1) env2 e2 hk' g3
    refine ⟨env', ?_, r2⟩
    unfold forL
    rw [g1]
    rcases g2 with g2 | g2 <;> (simp only; rw [g2]; exact r1)
theorem forLV_ind {g : D → Ev → Option Ev} {f : Ev → SR} {j : Nat} {os : List Ow} (items : List D) (I : Nat → Ev → Prop) (step : ∀ i d env, items[i]? = some d → I i env → ∃ env1, g d env = some env1 ∧ ∃ env2, (f env1 = .nx env2 ∨ f env1 = .ct env2) ∧ env2[j]? = some (some (.l os)) ∧ I (i + 1) env2) :
    ∀ env, I 0 env → ∃ env', forLV j os g f items env = .nx env' ∧ I items.length env' := by
  suffices h : ∀ (ds : List D) (k : Nat) (env : Ev), items.drop k = ds → k ≤ items.length → I k env → ∃ env', forLV j os g f ds env = .nx env' ∧ I items.length env' from fun env h0 => h items 0 env rfl (Nat.zero_le _) h0
  intro ds
  induction ds with
  | nil =>
    intro k env hd hk h
    have : k = items.length := by
      have := congrArg List.length hd
      simp at this
      omega
    subst this
    exact ⟨env, rfl, h⟩
  | cons d ds ih =>
    intro k env hd hk h
    have hk' : k < items.length := by
      have := congrArg List.length hd
      simp at this
      omega
    rw [List.drop_eq_getElem_cons hk'] at hd
    obtain ⟨e1, e2⟩ := List.cons.inj hd
    obtain ⟨env1, g1, env2, g2, so, g3⟩ := step k d env (by rw [List.getElem?_eq_getElem hk', e1]) h
    obtain ⟨env', r1, r2⟩ := ih (k + 1) env2 e2 hk' g3
    refine ⟨env', ?_, r2⟩
    unfold forLV
    rw [g1]
    rcases g2 with g2 | g2 <;> (simp only; rw [g2]; simp only; rw [if_pos (show sameO j os env2 from so)]; exact r1)
theorem lcR_all {g : D → Ev → Option Ev} {c : Ev → R Bool} {e : Ev → R Ow} {env : Ev} (h : D → Ow) : ∀ ds : List D, (∀ d ∈ ds, ∃ env1, g d env = some env1 ∧ c env1 = .ok true ∧ e env1 = .ok (h d)) → lcR g c e env ds = .ok (ds.map h)
  | [], _ => rfl
  | d :: ds, q => by
    obtain ⟨env1, q1, q2, q3⟩ := q d List.mem_cons_self
    unfold lcR
    rw [q1]
    simp only [q2, q3, noEx_ok, R.bind_ok, if_true]
    rw [lcR_all h ds fun d hd => q d (List.mem_cons_of_mem _ hd)]
    rfl
theorem lcR_none {g : D → Ev → Option Ev} {c : Ev → R Bool} {e : Ev → R Ow} {env : Ev} : ∀ ds : List D, (∀ d ∈ ds, ∃ env1, g d env = some env1 ∧ c env1 = .ok false) → lcR g c e env ds = .ok []
  | [], _ => rfl
  | d :: ds, q => by
    obtain ⟨env1, q1, q2⟩ := q d List.mem_cons_self
    unfold lcR
    rw [q1]
    simp only [q2, noEx_ok, R.bind_ok, if_false]
    rw [lcR_none ds fun d hd => q d (List.mem_cons_of_mem _ hd)]
    rfl
theorem eLc_of {fi : Ev → R (List D)} {g : D → Ev → Option Ev} {c : Ev → R Bool} {e : Ev → R Ow} {vs : List Nat} {env : Ev} {ds : List D} {rs : List Ow} (h1 : fi env = .ok ds) (hl : ds.length ≤ sizeLine) (h2 : lcR g c e (wipeE env vs) ds = .ok rs) : eLc fi g c e vs env = .ok (.l rs) := by
  unfold eLc
  rw [h1, R.bind_ok, guard_ok hl, h2]
  rfl
theorem repO_of {os : List Ow} {ds : List D} {k : Int} (h : unDs os = some ds) (c : -(2 ^ 63) ≤ k ∧ k < 2 ^ 63 ∧ os.length * k.toNat ≤ sizeLine) : repO (.l os) (.int k) = .ok (.l ((List.replicate k.toNat ds).flatten.map Ow.d)) := by
  unfold repO
  simp only [h]
  exact guard_ok c
def finR : SR → R Ow
  | .nx _ => .ok (.d .none)
  | .rt r _ => .ok r
  | .ex c _ => .ex c
  | _ => .no
theorem runB_fin (k : Nat) (f : Ev → SR) (ds : List D) : runB k f ds = finR (f (envOf k ds)) := by
  unfold runB
  cases f (envOf k ds) <;> rfl
@[simp] theorem finR_nx (env : Ev) : finR (.nx env) = .ok (.d .none) := rfl
@[simp] theorem finR_rt (r : Ow) (env : Ev) : finR (.rt r env) = .ok r := rfl
@[simp] theorem finR_ex (c : Str) (env : Ev) : finR (.ex c env) = .ex c := rfl
@[simp] theorem finR_no : finR .no = .no := rfl
@[simp] theorem envOf_nil (k : Nat) : envOf k [] = List.replicate k none := rfl
@[simp] theorem envOf_cons (k : Nat) (d : D) (ds : List D) : envOf k (d :: ds) = some (.d d) :: envOf k ds := rfl
end Mir
end
set_option Elab.async false
set_option linter.all false
set_option maxRecDepth 100000
set_option maxHeartbeats 4000000
noncomputable section
namespace Mir
open PySem PySem.Spec L2

/-! ### what is not mirrored: it must not be reached -/
section
variable {X : Cx} {W : WX} {S : Nat → Bool}
def sNo (_ : Ev) : SR := .no
theorem ds_no {st : Stmt} : DS X W S st sNo := ⟨fun _ _ _ => False, ⟨fun pins s σ H D I h => h.elim⟩, fun F H σ env fp D sat h => h⟩
def eNo {α : Type} (_ : Ev) : R α := .no
theorem df_no {e : Expr} : DF X W e eNo := ⟨fun _ _ _ => False, ⟨fun pins s σ H Q I h => h.elim⟩, fun F H σ env fp Q sat h => h⟩
theorem de_no {e : Expr} : DE X W e eNo := ⟨fun _ _ _ => False, ⟨fun pins s σ H Q I h => h.elim⟩, fun F H σ env fp Q sat h => h⟩

/-! ### in, not in -/
def inD (d : D) (ds : List D) : Bool := ds.any fun e => PyData.eqv e d
def inOk (d : D) (ds : List D) : Bool := d.canLay0 && decide (d.depth ≤ 130) && ds.all fun e => e.canLay0
def gInB (neg : Bool) : D → D → Option D
  | .str x, .str z => match x.cps.toList with
    | [c] => some (.bool (xor neg (decide (c ∈ z.cps.toList))))
    | _ => none
  | d, .list ds => if inOk d ds = true then some (.bool (xor neg (inD d ds))) else none
  | d, .tuple ds => if inOk d ds = true then some (.bool (xor neg (inD d ds))) else none
  | _, _ => none
def gIn := gInB false
def gNotIn := gInB true
def rInA (K : PySem.W.Frag) (neg : Bool) : R2 := fun x y H Q => ∃ d ds, Dp K H x d ∧ (Dp K H y (.list ds) ∨ Dp K H y (.tuple ds)) ∧ inOk d ds = true ∧ Q (.bl (xor neg (inD d ds))) H
theorem inOk_cases {d : D} {ds : List D} (h : inOk d ds = true) : d.canLay0 = true ∧ d.depth ≤ 130 ∧ ∀ e ∈ ds, e.canLay0 = true := by
  unfold inOk at h
  simp only [Bool.and_eq_true, decide_eq_true_eq, List.all_eq_true] at h
  exact ⟨h.1.1, h.1.2, h.2⟩
open Classical in
/-- what the items answer, by the values -/
def eqW (s : Shared) (d : D) (ds : List D) (u : Value) : Bool := if ∃ e as, e ∈ ds ∧ PySem.Reads s.heap u e as ∧ PyData.eqv e d = true then true else false
theorem eqW_of {s : Shared} {d e : D} {ds : List D} {u : Value} {as : List Addr} (he : e ∈ ds) (hc : ∀ e ∈ ds, e.canLay0 = true) (r : PySem.Reads s.heap u e as) : eqW s d ds u = PyData.eqv e d := by
  unfold eqW
  cases h : PyData.eqv e d with
  | true => exact if_pos ⟨e, as, he, r, h⟩
  | false =>
    refine if_neg fun ⟨e', as', h1, h2, h3⟩ => ?_
    have := SeqAt.Reads.unique e' e u as' as (hc e' h1) h2 r
    subst this
    rw [h] at h3; cases h3
theorem any_eqW {s : Shared} {d : D} {ds0 : List D} (hc : ∀ e ∈ ds0, e.canLay0 = true) : ∀ {ds : List D} {us : List Value}, (∀ e ∈ ds, e ∈ ds0) → PySem.W.EachIs (fun v d => ∃ as, PySem.Reads s.heap v d as) us ds → us.any (eqW s d ds0) = ds.any fun e => PyData.eqv e d
  | _, _, _, .nil => rfl
  | _, _, hs, .cons ⟨as, r⟩ t => by
    rw [List.any_cons, List.any_cons, eqW_of (hs _ List.mem_cons_self) hc r, any_eqW hc (fun e he => hs e (List.mem_cons_of_mem _ he)) t]
theorem eachIs_mem {α β : Type} {T : α → β → Prop} : ∀ {as : List α} {bs : List β}, PySem.W.EachIs T as bs → ∀ a ∈ as, ∃ b ∈ bs, T a b
  | _, _, .nil, a, h => by cases h
  | _, _, .cons h t, a, hm => by
    rcases List.mem_cons.mp hm with e | e
    · subst e; exact ⟨_, List.mem_cons_self, h⟩
    · obtain ⟨b, b1, b2⟩ := eachIs_mem t a e
      exact ⟨b, List.mem_cons_of_mem _ b1, b2⟩
theorem op_inA (neg : Bool) (hu : X.A.units + 140 < cLine) : OpR X (compareOp (if neg then .NotIn else .In)) (rInA X.K neg) := by
  intro pins s σ H x y v u Q I rx ry h
  obtain ⟨d, ds, hx, hy, ok, q⟩ := h
  obtain ⟨c1, c2, c3⟩ := inOk_cases ok
  obtain ⟨bs, rd⟩ := Dp.reads I d x v hx rx
  have key : ∀ (its : List Value), PySem.W.EachIs (fun v d => ∃ as, PySem.Reads s.heap v d as) its ds → (∀ y, y ∈ its.toArray → SeqAt.EqAt X.A.in1 s y v (eqW s d ds y)) ∧ its.toArray.any (eqW s d ds) = inD d ds := fun its er => by
    refine ⟨fun w hw => ?_, ?_⟩
    · obtain ⟨e, he, as, re⟩ := eachIs_mem er w (by simpa using hw)
      rw [eqW_of he c3 re]
      refine SeqAt.eqAt_reads e d X.A.in1 s w v as bs re rd (c3 e he) c1 ?_
      have := Nat.min_le_right e.depth d.depth
      show X.A.units + 1 + min e.depth d.depth < cLine
      omega
    · rw [show its.toArray.any (eqW s d ds) = its.any (eqW s d ds) by simp, any_eqW c3 (fun _ h => h) er]
      rfl
  rcases hy with hy | hy
  · obtain ⟨p, xs, rfl, h1, h2⟩ := dp_lst hy
    obtain ⟨its, r, pl, hz⟩ := I.list h1
    cases ry
    obtain ⟨k1, k2⟩ := key its (each_reads I r h2)
    cases neg with
    | false => exact SeqAt.in_listAt (eqW s d ds) pl.isList k1 ⟨.bl _, H, I, by rw [k2]; rfl, by simpa using q⟩
    | true => exact SeqAt.notIn_listAt (eqW s d ds) pl.isList k1 ⟨.bl _, H, I, by rw [k2]; rfl, by simpa using q⟩
  · obtain ⟨p, xs, rfl, h1, h2⟩ := dp_tup hy
    obtain ⟨its, r, pl, hz⟩ := I.tuple h1
    cases ry
    obtain ⟨k1, k2⟩ := key its (each_reads I r h2)
    cases neg with
    | false => exact SeqAt.in_tupleAt (eqW s d ds) pl k1 ⟨.bl _, H, I, by rw [k2]; rfl, by simpa using q⟩
    | true => exact SeqAt.notIn_tupleAt (eqW s d ds) pl k1 ⟨.bl _, H, I, by rw [k2]; rfl, by simpa using q⟩
theorem str_one {x : Str} {c : Nat} (h : x.cps.toList = [c]) : x = ⟨#[c]⟩ := by
  cases x with
  | mk a =>
    have : a = #[c] := Array.toList_inj.mp h
    rw [this]
theorem opS_in {K : PySem.W.Frag} : OpS K (fun x y H Q => rInS x y H Q ∨ rInA K false x y H Q) gIn := by
  intro H x y dx dy d Q hx hy e q
  unfold gIn gInB at e
  split at e
  · rename_i a z
    split at e
    · rename_i c hc
      cases e
      cases dp_str hx
      cases dp_str hy
      exact .inl ⟨c, z, by rw [str_one hc], rfl, by simpa using q _ fun F => .bl _⟩
    · cases e
  · split at e
    · cases e
      exact .inr ⟨_, _, hx, .inl hy, ‹_›, q _ fun F => .bl _⟩
    · cases e
  · split at e
    · cases e
      exact .inr ⟨_, _, hx, .inr hy, ‹_›, q _ fun F => .bl _⟩
    · cases e
  · cases e
theorem opS_notIn {K : PySem.W.Frag} : OpS K (fun x y H Q => rNotInS x y H Q ∨ rInA K true x y H Q) gNotIn := by
  intro H x y dx dy d Q hx hy e q
  unfold gNotIn gInB at e
  split at e
  · rename_i a z
    split at e
    · rename_i c hc
      cases e
      cases dp_str hx
      cases dp_str hy
      exact .inl ⟨c, z, by rw [str_one hc], rfl, by simpa using q _ fun F => .bl _⟩
    · cases e
  · split at e
    · cases e
      exact .inr ⟨_, _, hx, .inl hy, ‹_›, q _ fun F => .bl _⟩
    · cases e
  · split at e
    · cases e
      exact .inr ⟨_, _, hx, .inr hy, ‹_›, q _ fun F => .bl _⟩
    · cases e
  · cases e
variable {a b : Expr} {pos : Pos} {f g : Ev → R D}
theorem op_inF (hu : X.A.units + 140 < cLine) : OpR X (compareOp .In) (rInA X.K false) := op_inA false hu
theorem op_inT (hu : X.A.units + 140 < cLine) : OpR X (compareOp .NotIn) (rInA X.K true) := op_inA true hu
theorem df_in (hu : X.A.units + 140 < cLine) (ha : DV X W a f) (hb : DV X W b g) (hm : behindInMarks .In b = false := by first | exact nomark _ | rfl) : DF X W (.Compare a [.In] [b] pos) (eBin gIn f g) := df_cmp (OpR.or op_inS (op_inF hu)) opS_in ha hb hm
theorem df_notIn (hu : X.A.units + 140 < cLine) (ha : DV X W a f) (hb : DV X W b g) (hm : behindInMarks .NotIn b = false := by first | exact nomark _ | rfl) : DF X W (.Compare a [.NotIn] [b] pos) (eBin gNotIn f g) := df_cmp (OpR.or op_notInS (op_inT hu)) opS_notIn ha hb hm
theorem dt_in (hu : X.A.units + 140 < cLine) (ha : DV X W a f) (hb : DV X W b g) (hm : behindInMarks .In b = false := by first | exact nomark _ | rfl) : DT X W (.Compare a [.In] [b] pos) (eB (eBin gIn f g) asB) := dt_cmp (OpR.or op_inS (op_inF hu)) opS_in ha hb hm
theorem dt_notIn (hu : X.A.units + 140 < cLine) (ha : DV X W a f) (hb : DV X W b g) (hm : behindInMarks .NotIn b = false := by first | exact nomark _ | rfl) : DT X W (.Compare a [.NotIn] [b] pos) (eB (eBin gNotIn f g) asB) := dt_cmp (OpR.or op_notInS (op_inT hu)) opS_notIn ha hb hm
end
theorem gIn_sign (c : Nat) (z : Str) : gIn (.str ⟨#[c]⟩) (.str z) = some (.bool (decide (c ∈ z.cps.toList))) := by
  show some (PyData.bool (xor false (decide (c ∈ z.cps.toList)))) = _
  simp
@[simp] theorem sNo_eq (env : Ev) : sNo env = .no := rfl
end Mir
end
set_option Elab.async false
set_option linter.all false
set_option maxRecDepth 100000
noncomputable section
namespace Mir
open PySem PySem.Spec L2
@[simp] theorem ownL_7 (a0 a1 a2 a3 a4 a5 a6 : Option Ow) (os : List Ow) (env : Ev) (k : List Ow → SR) : ownL 7 (a0 :: a1 :: a2 :: a3 :: a4 :: a5 :: a6 :: some (.l os) :: env) k = k os := rfl
@[simp] theorem eVarO_8 (a0 a1 a2 a3 a4 a5 a6 a7 : Option Ow) (x : Ow) (env : Ev) : eVarO 8 (a0 :: a1 :: a2 :: a3 :: a4 :: a5 :: a6 :: a7 :: some x :: env) = .ok x := rfl
@[simp] theorem ownL_8 (a0 a1 a2 a3 a4 a5 a6 a7 : Option Ow) (os : List Ow) (env : Ev) (k : List Ow → SR) : ownL 8 (a0 :: a1 :: a2 :: a3 :: a4 :: a5 :: a6 :: a7 :: some (.l os) :: env) k = k os := rfl
@[simp] theorem eVarO_9 (a0 a1 a2 a3 a4 a5 a6 a7 a8 : Option Ow) (x : Ow) (env : Ev) : eVarO 9 (a0 :: a1 :: a2 :: a3 :: a4 :: a5 :: a6 :: a7 :: a8 :: some x :: env) = .ok x := rfl
@[simp] theorem ownL_9 (a0 a1 a2 a3 a4 a5 a6 a7 a8 : Option Ow) (os : List Ow) (env : Ev) (k : List Ow → SR) : ownL 9 (a0 :: a1 :: a2 :: a3 :: a4 :: a5 :: a6 :: a7 :: a8 :: some (.l os) :: env) k = k os := rfl
@[simp] theorem eVar_10 (a0 a1 a2 a3 a4 a5 a6 a7 a8 a9 : Option Ow) (x : D) (env : Ev) : eVar 10 (a0 :: a1 :: a2 :: a3 :: a4 :: a5 :: a6 :: a7 :: a8 :: a9 :: some (.d x) :: env) = .ok x := rfl
@[simp] theorem eVarO_10 (a0 a1 a2 a3 a4 a5 a6 a7 a8 a9 : Option Ow) (x : Ow) (env : Ev) : eVarO 10 (a0 :: a1 :: a2 :: a3 :: a4 :: a5 :: a6 :: a7 :: a8 :: a9 :: some x :: env) = .ok x := rfl
@[simp] theorem ownL_10 (a0 a1 a2 a3 a4 a5 a6 a7 a8 a9 : Option Ow) (os : List Ow) (env : Ev) (k : List Ow → SR) : ownL 10 (a0 :: a1 :: a2 :: a3 :: a4 :: a5 :: a6 :: a7 :: a8 :: a9 :: some (.l os) :: env) k = k os := rfl
@[simp] theorem eVar_11 (a0 a1 a2 a3 a4 a5 a6 a7 a8 a9 a10 : Option Ow) (x : D) (env : Ev) : eVar 11 (a0 :: a1 :: a2 :: a3 :: a4 :: a5 :: a6 :: a7 :: a8 :: a9 :: a10 :: some (.d x) :: env) = .ok x := rfl
@[simp] theorem eVarO_11 (a0 a1 a2 a3 a4 a5 a6 a7 a8 a9 a10 : Option Ow) (x : Ow) (env : Ev) : eVarO 11 (a0 :: a1 :: a2 :: a3 :: a4 :: a5 :: a6 :: a7 :: a8 :: a9 :: a10 :: some x :: env) = .ok x := rfl
@[simp] theorem ownL_11 (a0 a1 a2 a3 a4 a5 a6 a7 a8 a9 a10 : Option Ow) (os : List Ow) (env : Ev) (k : List Ow → SR) : ownL 11 (a0 :: a1 :: a2 :: a3 :: a4 :: a5 :: a6 :: a7 :: a8 :: a9 :: a10 :: some (.l os) :: env) k = k os := rfl
@[simp] theorem eVar_12 (a0 a1 a2 a3 a4 a5 a6 a7 a8 a9 a10 a11 : Option Ow) (x : D) (env : Ev) : eVar 12 (a0 :: a1 :: a2 :: a3 :: a4 :: a5 :: a6 :: a7 :: a8 :: a9 :: a10 :: a11 :: some (.d x) :: env) = .ok x := rfl
@[simp] theorem eVarO_12 (a0 a1 a2 a3 a4 a5 a6 a7 a8 a9 a10 a11 : Option Ow) (x : Ow) (env : Ev) : eVarO 12 (a0 :: a1 :: a2 :: a3 :: a4 :: a5 :: a6 :: a7 :: a8 :: a9 :: a10 :: a11 :: some x :: env) = .ok x := rfl
@[simp] theorem ownL_12 (a0 a1 a2 a3 a4 a5 a6 a7 a8 a9 a10 a11 : Option Ow) (os : List Ow) (env : Ev) (k : List Ow → SR) : ownL 12 (a0 :: a1 :: a2 :: a3 :: a4 :: a5 :: a6 :: a7 :: a8 :: a9 :: a10 :: a11 :: some (.l os) :: env) k = k os := rfl
@[simp] theorem eVar_13 (a0 a1 a2 a3 a4 a5 a6 a7 a8 a9 a10 a11 a12 : Option Ow) (x : D) (env : Ev) : eVar 13 (a0 :: a1 :: a2 :: a3 :: a4 :: a5 :: a6 :: a7 :: a8 :: a9 :: a10 :: a11 :: a12 :: some (.d x) :: env) = .ok x := rfl
@[simp] theorem eVarO_13 (a0 a1 a2 a3 a4 a5 a6 a7 a8 a9 a10 a11 a12 : Option Ow) (x : Ow) (env : Ev) : eVarO 13 (a0 :: a1 :: a2 :: a3 :: a4 :: a5 :: a6 :: a7 :: a8 :: a9 :: a10 :: a11 :: a12 :: some x :: env) = .ok x := rfl
@[simp] theorem ownL_13 (a0 a1 a2 a3 a4 a5 a6 a7 a8 a9 a10 a11 a12 : Option Ow) (os : List Ow) (env : Ev) (k : List Ow → SR) : ownL 13 (a0 :: a1 :: a2 :: a3 :: a4 :: a5 :: a6 :: a7 :: a8 :: a9 :: a10 :: a11 :: a12 :: some (.l os) :: env) k = k os := rfl
@[simp] theorem eVar_14 (a0 a1 a2 a3 a4 a5 a6 a7 a8 a9 a10 a11 a12 a13 : Option Ow) (x : D) (env : Ev) : eVar 14 (a0 :: a1 :: a2 :: a3 :: a4 :: a5 :: a6 :: a7 :: a8 :: a9 :: a10 :: a11 :: a12 :: a13 :: some (.d x) :: env) = .ok x := rfl
@[simp] theorem eVarO_14 (a0 a1 a2 a3 a4 a5 a6 a7 a8 a9 a10 a11 a12 a13 : Option Ow) (x : Ow) (env : Ev) : eVarO 14 (a0 :: a1 :: a2 :: a3 :: a4 :: a5 :: a6 :: a7 :: a8 :: a9 :: a10 :: a11 :: a12 :: a13 :: some x :: env) = .ok x := rfl
@[simp] theorem ownL_14 (a0 a1 a2 a3 a4 a5 a6 a7 a8 a9 a10 a11 a12 a13 : Option Ow) (os : List Ow) (env : Ev) (k : List Ow → SR) : ownL 14 (a0 :: a1 :: a2 :: a3 :: a4 :: a5 :: a6 :: a7 :: a8 :: a9 :: a10 :: a11 :: a12 :: a13 :: some (.l os) :: env) k = k os := rfl
@[simp] theorem eVar_15 (a0 a1 a2 a3 a4 a5 a6 a7 a8 a9 a10 a11 a12 a13 a14 : Option Ow) (x : D) (env : Ev) : eVar 15 (a0 :: a1 :: a2 :: a3 :: a4 :: a5 :: a6 :: a7 :: a8 :: a9 :: a10 :: a11 :: a12 :: a13 :: a14 :: some (.d x) :: env) = .ok x := rfl
@[simp] theorem eVarO_15 (a0 a1 a2 a3 a4 a5 a6 a7 a8 a9 a10 a11 a12 a13 a14 : Option Ow) (x : Ow) (env : Ev) : eVarO 15 (a0 :: a1 :: a2 :: a3 :: a4 :: a5 :: a6 :: a7 :: a8 :: a9 :: a10 :: a11 :: a12 :: a13 :: a14 :: some x :: env) = .ok x := rfl
@[simp] theorem ownL_15 (a0 a1 a2 a3 a4 a5 a6 a7 a8 a9 a10 a11 a12 a13 a14 : Option Ow) (os : List Ow) (env : Ev) (k : List Ow → SR) : ownL 15 (a0 :: a1 :: a2 :: a3 :: a4 :: a5 :: a6 :: a7 :: a8 :: a9 :: a10 :: a11 :: a12 :: a13 :: a14 :: some (.l os) :: env) k = k os := rfl
@[simp] theorem eVar_16 (a0 a1 a2 a3 a4 a5 a6 a7 a8 a9 a10 a11 a12 a13 a14 a15 : Option Ow) (x : D) (env : Ev) : eVar 16 (a0 :: a1 :: a2 :: a3 :: a4 :: a5 :: a6 :: a7 :: a8 :: a9 :: a10 :: a11 :: a12 :: a13 :: a14 :: a15 :: some (.d x) :: env) = .ok x := rfl
@[simp] theorem eVarO_16 (a0 a1 a2 a3 a4 a5 a6 a7 a8 a9 a10 a11 a12 a13 a14 a15 : Option Ow) (x : Ow) (env : Ev) : eVarO 16 (a0 :: a1 :: a2 :: a3 :: a4 :: a5 :: a6 :: a7 :: a8 :: a9 :: a10 :: a11 :: a12 :: a13 :: a14 :: a15 :: some x :: env) = .ok x := rfl
@[simp] theorem ownL_16 (a0 a1 a2 a3 a4 a5 a6 a7 a8 a9 a10 a11 a12 a13 a14 a15 : Option Ow) (os : List Ow) (env : Ev) (k : List Ow → SR) : ownL 16 (a0 :: a1 :: a2 :: a3 :: a4 :: a5 :: a6 :: a7 :: a8 :: a9 :: a10 :: a11 :: a12 :: a13 :: a14 :: a15 :: some (.l os) :: env) k = k os := rfl
@[simp] theorem eVar_17 (a0 a1 a2 a3 a4 a5 a6 a7 a8 a9 a10 a11 a12 a13 a14 a15 a16 : Option Ow) (x : D) (env : Ev) : eVar 17 (a0 :: a1 :: a2 :: a3 :: a4 :: a5 :: a6 :: a7 :: a8 :: a9 :: a10 :: a11 :: a12 :: a13 :: a14 :: a15 :: a16 :: some (.d x) :: env) = .ok x := rfl
@[simp] theorem eVarO_17 (a0 a1 a2 a3 a4 a5 a6 a7 a8 a9 a10 a11 a12 a13 a14 a15 a16 : Option Ow) (x : Ow) (env : Ev) : eVarO 17 (a0 :: a1 :: a2 :: a3 :: a4 :: a5 :: a6 :: a7 :: a8 :: a9 :: a10 :: a11 :: a12 :: a13 :: a14 :: a15 :: a16 :: some x :: env) = .ok x := rfl
@[simp] theorem ownL_17 (a0 a1 a2 a3 a4 a5 a6 a7 a8 a9 a10 a11 a12 a13 a14 a15 a16 : Option Ow) (os : List Ow) (env : Ev) (k : List Ow → SR) : ownL 17 (a0 :: a1 :: a2 :: a3 :: a4 :: a5 :: a6 :: a7 :: a8 :: a9 :: a10 :: a11 :: a12 :: a13 :: a14 :: a15 :: a16 :: some (.l os) :: env) k = k os := rfl
@[simp] theorem eVar_18 (a0 a1 a2 a3 a4 a5 a6 a7 a8 a9 a10 a11 a12 a13 a14 a15 a16 a17 : Option Ow) (x : D) (env : Ev) : eVar 18 (a0 :: a1 :: a2 :: a3 :: a4 :: a5 :: a6 :: a7 :: a8 :: a9 :: a10 :: a11 :: a12 :: a13 :: a14 :: a15 :: a16 :: a17 :: some (.d x) :: env) = .ok x := rfl
@[simp] theorem eVarO_18 (a0 a1 a2 a3 a4 a5 a6 a7 a8 a9 a10 a11 a12 a13 a14 a15 a16 a17 : Option Ow) (x : Ow) (env : Ev) : eVarO 18 (a0 :: a1 :: a2 :: a3 :: a4 :: a5 :: a6 :: a7 :: a8 :: a9 :: a10 :: a11 :: a12 :: a13 :: a14 :: a15 :: a16 :: a17 :: some x :: env) = .ok x := rfl
@[simp] theorem ownL_18 (a0 a1 a2 a3 a4 a5 a6 a7 a8 a9 a10 a11 a12 a13 a14 a15 a16 a17 : Option Ow) (os : List Ow) (env : Ev) (k : List Ow → SR) : ownL 18 (a0 :: a1 :: a2 :: a3 :: a4 :: a5 :: a6 :: a7 :: a8 :: a9 :: a10 :: a11 :: a12 :: a13 :: a14 :: a15 :: a16 :: a17 :: some (.l os) :: env) k = k os := rfl
@[simp] theorem eVar_19 (a0 a1 a2 a3 a4 a5 a6 a7 a8 a9 a10 a11 a12 a13 a14 a15 a16 a17 a18 : Option Ow) (x : D) (env : Ev) : eVar 19 (a0 :: a1 :: a2 :: a3 :: a4 :: a5 :: a6 :: a7 :: a8 :: a9 :: a10 :: a11 :: a12 :: a13 :: a14 :: a15 :: a16 :: a17 :: a18 :: some (.d x) :: env) = .ok x := rfl
@[simp] theorem eVarO_19 (a0 a1 a2 a3 a4 a5 a6 a7 a8 a9 a10 a11 a12 a13 a14 a15 a16 a17 a18 : Option Ow) (x : Ow) (env : Ev) : eVarO 19 (a0 :: a1 :: a2 :: a3 :: a4 :: a5 :: a6 :: a7 :: a8 :: a9 :: a10 :: a11 :: a12 :: a13 :: a14 :: a15 :: a16 :: a17 :: a18 :: some x :: env) = .ok x := rfl
@[simp] theorem ownL_19 (a0 a1 a2 a3 a4 a5 a6 a7 a8 a9 a10 a11 a12 a13 a14 a15 a16 a17 a18 : Option Ow) (os : List Ow) (env : Ev) (k : List Ow → SR) : ownL 19 (a0 :: a1 :: a2 :: a3 :: a4 :: a5 :: a6 :: a7 :: a8 :: a9 :: a10 :: a11 :: a12 :: a13 :: a14 :: a15 :: a16 :: a17 :: a18 :: some (.l os) :: env) k = k os := rfl
@[simp] theorem eVar_20 (a0 a1 a2 a3 a4 a5 a6 a7 a8 a9 a10 a11 a12 a13 a14 a15 a16 a17 a18 a19 : Option Ow) (x : D) (env : Ev) : eVar 20 (a0 :: a1 :: a2 :: a3 :: a4 :: a5 :: a6 :: a7 :: a8 :: a9 :: a10 :: a11 :: a12 :: a13 :: a14 :: a15 :: a16 :: a17 :: a18 :: a19 :: some (.d x) :: env) = .ok x := rfl
@[simp] theorem eVarO_20 (a0 a1 a2 a3 a4 a5 a6 a7 a8 a9 a10 a11 a12 a13 a14 a15 a16 a17 a18 a19 : Option Ow) (x : Ow) (env : Ev) : eVarO 20 (a0 :: a1 :: a2 :: a3 :: a4 :: a5 :: a6 :: a7 :: a8 :: a9 :: a10 :: a11 :: a12 :: a13 :: a14 :: a15 :: a16 :: a17 :: a18 :: a19 :: some x :: env) = .ok x := rfl
@[simp] theorem ownL_20 (a0 a1 a2 a3 a4 a5 a6 a7 a8 a9 a10 a11 a12 a13 a14 a15 a16 a17 a18 a19 : Option Ow) (os : List Ow) (env : Ev) (k : List Ow → SR) : ownL 20 (a0 :: a1 :: a2 :: a3 :: a4 :: a5 :: a6 :: a7 :: a8 :: a9 :: a10 :: a11 :: a12 :: a13 :: a14 :: a15 :: a16 :: a17 :: a18 :: a19 :: some (.l os) :: env) k = k os := rfl
@[simp] theorem eVar_21 (a0 a1 a2 a3 a4 a5 a6 a7 a8 a9 a10 a11 a12 a13 a14 a15 a16 a17 a18 a19 a20 : Option Ow) (x : D) (env : Ev) : eVar 21 (a0 :: a1 :: a2 :: a3 :: a4 :: a5 :: a6 :: a7 :: a8 :: a9 :: a10 :: a11 :: a12 :: a13 :: a14 :: a15 :: a16 :: a17 :: a18 :: a19 :: a20 :: some (.d x) :: env) = .ok x := rfl
@[simp] theorem eVarO_21 (a0 a1 a2 a3 a4 a5 a6 a7 a8 a9 a10 a11 a12 a13 a14 a15 a16 a17 a18 a19 a20 : Option Ow) (x : Ow) (env : Ev) : eVarO 21 (a0 :: a1 :: a2 :: a3 :: a4 :: a5 :: a6 :: a7 :: a8 :: a9 :: a10 :: a11 :: a12 :: a13 :: a14 :: a15 :: a16 :: a17 :: a18 :: a19 :: a20 :: some x :: env) = .ok x := rfl
@[simp] theorem ownL_21 (a0 a1 a2 a3 a4 a5 a6 a7 a8 a9 a10 a11 a12 a13 a14 a15 a16 a17 a18 a19 a20 : Option Ow) (os : List Ow) (env : Ev) (k : List Ow → SR) : ownL 21 (a0 :: a1 :: a2 :: a3 :: a4 :: a5 :: a6 :: a7 :: a8 :: a9 :: a10 :: a11 :: a12 :: a13 :: a14 :: a15 :: a16 :: a17 :: a18 :: a19 :: a20 :: some (.l os) :: env) k = k os := rfl
@[simp] theorem eVar_22 (a0 a1 a2 a3 a4 a5 a6 a7 a8 a9 a10 a11 a12 a13 a14 a15 a16 a17 a18 a19 a20 a21 : Option Ow) (x : D) (env : Ev) : eVar 22 (a0 :: a1 :: a2 :: a3 :: a4 :: a5 :: a6 :: a7 :: a8 :: a9 :: a10 :: a11 :: a12 :: a13 :: a14 :: a15 :: a16 :: a17 :: a18 :: a19 :: a20 :: a21 :: some (.d x) :: env) = .ok x := rfl
@[simp] theorem eVarO_22 (a0 a1 a2 a3 a4 a5 a6 a7 a8 a9 a10 a11 a12 a13 a14 a15 a16 a17 a18 a19 a20 a21 : Option Ow) (x : Ow) (env : Ev) : eVarO 22 (a0 :: a1 :: a2 :: a3 :: a4 :: a5 :: a6 :: a7 :: a8 :: a9 :: a10 :: a11 :: a12 :: a13 :: a14 :: a15 :: a16 :: a17 :: a18 :: a19 :: a20 :: a21 :: some x :: env) = .ok x := rfl
@[simp] theorem ownL_22 (a0 a1 a2 a3 a4 a5 a6 a7 a8 a9 a10 a11 a12 a13 a14 a15 a16 a17 a18 a19 a20 a21 : Option Ow) (os : List Ow) (env : Ev) (k : List Ow → SR) : ownL 22 (a0 :: a1 :: a2 :: a3 :: a4 :: a5 :: a6 :: a7 :: a8 :: a9 :: a10 :: a11 :: a12 :: a13 :: a14 :: a15 :: a16 :: a17 :: a18 :: a19 :: a20 :: a21 :: some (.l os) :: env) k = k os := rfl
@[simp] theorem eVar_23 (a0 a1 a2 a3 a4 a5 a6 a7 a8 a9 a10 a11 a12 a13 a14 a15 a16 a17 a18 a19 a20 a21 a22 : Option Ow) (x : D) (env : Ev) : eVar 23 (a0 :: a1 :: a2 :: a3 :: a4 :: a5 :: a6 :: a7 :: a8 :: a9 :: a10 :: a11 :: a12 :: a13 :: a14 :: a15 :: a16 :: a17 :: a18 :: a19 :: a20 :: a21 :: a22 :: some (.d x) :: env) = .ok x := rfl
@[simp] theorem eVarO_23 (a0 a1 a2 a3 a4 a5 a6 a7 a8 a9 a10 a11 a12 a13 a14 a15 a16 a17 a18 a19 a20 a21 a22 : Option Ow) (x : Ow) (env : Ev) : eVarO 23 (a0 :: a1 :: a2 :: a3 :: a4 :: a5 :: a6 :: a7 :: a8 :: a9 :: a10 :: a11 :: a12 :: a13 :: a14 :: a15 :: a16 :: a17 :: a18 :: a19 :: a20 :: a21 :: a22 :: some x :: env) = .ok x := rfl
@[simp] theorem ownL_23 (a0 a1 a2 a3 a4 a5 a6 a7 a8 a9 a10 a11 a12 a13 a14 a15 a16 a17 a18 a19 a20 a21 a22 : Option Ow) (os : List Ow) (env : Ev) (k : List Ow → SR) : ownL 23 (a0 :: a1 :: a2 :: a3 :: a4 :: a5 :: a6 :: a7 :: a8 :: a9 :: a10 :: a11 :: a12 :: a13 :: a14 :: a15 :: a16 :: a17 :: a18 :: a19 :: a20 :: a21 :: a22 :: some (.l os) :: env) k = k os := rfl
@[simp] theorem eVar_24 (a0 a1 a2 a3 a4 a5 a6 a7 a8 a9 a10 a11 a12 a13 a14 a15 a16 a17 a18 a19 a20 a21 a22 a23 : Option Ow) (x : D) (env : Ev) : eVar 24 (a0 :: a1 :: a2 :: a3 :: a4 :: a5 :: a6 :: a7 :: a8 :: a9 :: a10 :: a11 :: a12 :: a13 :: a14 :: a15 :: a16 :: a17 :: a18 :: a19 :: a20 :: a21 :: a22 :: a23 :: some (.d x) :: env) = .ok x := rfl
@[simp] theorem eVarO_24 (a0 a1 a2 a3 a4 a5 a6 a7 a8 a9 a10 a11 a12 a13 a14 a15 a16 a17 a18 a19 a20 a21 a22 a23 : Option Ow) (x : Ow) (env : Ev) : eVarO 24 (a0 :: a1 :: a2 :: a3 :: a4 :: a5 :: a6 :: a7 :: a8 :: a9 :: a10 :: a11 :: a12 :: a13 :: a14 :: a15 :: a16 :: a17 :: a18 :: a19 :: a20 :: a21 :: a22 :: a23 :: some x :: env) = .ok x := rfl
@[simp] theorem ownL_24 (a0 a1 a2 a3 a4 a5 a6 a7 a8 a9 a10 a11 a12 a13 a14 a15 a16 a17 a18 a19 a20 a21 a22 a23 : Option Ow) (os : List Ow) (env : Ev) (k : List Ow → SR) : ownL 24 (a0 :: a1 :: a2 :: a3 :: a4 :: a5 :: a6 :: a7 :: a8 :: a9 :: a10 :: a11 :: a12 :: a13 :: a14 :: a15 :: a16 :: a17 :: a18 :: a19 :: a20 :: a21 :: a22 :: a23 :: some (.l os) :: env) k = k os := rfl
@[simp] theorem eVar_25 (a0 a1 a2 a3 a4 a5 a6 a7 a8 a9 a10 a11 a12 a13 a14 a15 a16 a17 a18 a19 a20 a21 a22 a23 a24 : Option Ow) (x : D) (env : Ev) : eVar 25 (a0 :: a1 :: a2 :: a3 :: a4 :: a5 :: a6 :: a7 :: a8 :: a9 :: a10 :: a11 :: a12 :: a13 :: a14 :: a15 :: a16 :: a17 :: a18 :: a19 :: a20 :: a21 :: a22 :: a23 :: a24 :: some (.d x) :: env) = .ok x := rfl
@[simp] theorem eVarO_25 (a0 a1 a2 a3 a4 a5 a6 a7 a8 a9 a10 a11 a12 a13 a14 a15 a16 a17 a18 a19 a20 a21 a22 a23 a24 : Option Ow) (x : Ow) (env : Ev) : eVarO 25 (a0 :: a1 :: a2 :: a3 :: a4 :: a5 :: a6 :: a7 :: a8 :: a9 :: a10 :: a11 :: a12 :: a13 :: a14 :: a15 :: a16 :: a17 :: a18 :: a19 :: a20 :: a21 :: a22 :: a23 :: a24 :: some x :: env) = .ok x := rfl
@[simp] theorem ownL_25 (a0 a1 a2 a3 a4 a5 a6 a7 a8 a9 a10 a11 a12 a13 a14 a15 a16 a17 a18 a19 a20 a21 a22 a23 a24 : Option Ow) (os : List Ow) (env : Ev) (k : List Ow → SR) : ownL 25 (a0 :: a1 :: a2 :: a3 :: a4 :: a5 :: a6 :: a7 :: a8 :: a9 :: a10 :: a11 :: a12 :: a13 :: a14 :: a15 :: a16 :: a17 :: a18 :: a19 :: a20 :: a21 :: a22 :: a23 :: a24 :: some (.l os) :: env) k = k os := rfl
theorem fin_step {f g : Ev → SR} {env env1 : Ev} {o : R Ow} (h1 : f env = .nx env1) (h2 : finR (g env1) = o) : finR (sSeq f g env) = o := by
  rw [sSeq_eq, h1]
  exact h2
end Mir
end
set_option Elab.async false
set_option linter.all false
set_option maxRecDepth 100000
set_option maxHeartbeats 4000000
noncomputable section
namespace Mir
open PySem PySem.Spec L2

/-! ### expressions that change own lists: the value told is data -/
def PostX (K : PySem.W.Frag) {α β : Type} (P : Hp → α → β → Prop) (F H : Hp) (fp : List Addr) (σ : L2.St) : R (α × Ev) → (β → Hp → Prop) → Prop
  | .ok (a, env), Q => ∀ v F' H' fp', StepS F H fp F' H' fp' → Sat K F' H' σ env fp' → P F' a v → Q v H'
  | _, _ => False
def SmX (K : PySem.W.Frag) {α β : Type} (P : Hp → α → β → Prop) (t : L2.St → Hp → (β → Hp → Prop) → Prop) (f : Ev → R (α × Ev)) : Prop :=
  ∀ F H σ env fp Q, Sat K F H σ env fp → PostX K P F H fp σ (f env) Q → t σ H Q
def XD (K : PySem.W.Frag) (F : Hp) (d : D) (v : V) : Prop := Dp K F v d
def XDs (K : PySem.W.Frag) (F : Hp) (ds : List D) (vs : List V) : Prop := DpAll K F vs ds
section
variable {K : PySem.W.Frag} {α β γ δ : Type} {P : Hp → α → β → Prop} {P2 : Hp → γ → δ → Prop} {F H F1 H1 : Hp} {fp fp1 : List Addr} {σ : L2.St}
theorem PostX.step {r : R (α × Ev)} {Q : β → Hp → Prop} (h : PostX K P F H fp σ r Q) (s : StepS F H fp F1 H1 fp1) : PostX K P F1 H1 fp1 σ r Q := by
  cases r with
  | no => exact h
  | ex c => exact h
  | ok p => exact fun v F' H' fp' s' => h v F' H' fp' (s.trans s')
theorem SmX.go {t : L2.St → Hp → (β → Hp → Prop) → Prop} {f : Ev → R (α × Ev)} (s : SmX K P t f) {g : α × Ev → R (γ × Ev)} {env : Ev} {Q : δ → Hp → Prop} {T : β → Hp → Prop} (sat : Sat K F H σ env fp) (h : PostX K P2 F H fp σ ((f env).bind g) Q)
    (k : ∀ a env1 v F1 H1 fp1, StepS F H fp F1 H1 fp1 → Sat K F1 H1 σ env1 fp1 → P F1 a v → PostX K P2 F1 H1 fp1 σ (g (a, env1)) Q → T v H1) : t σ H T := by
  refine s F H σ env fp T sat ?_
  cases e : f env with
  | no => rw [e] at h; exact h
  | ex c => rw [e] at h; exact h
  | ok p =>
    obtain ⟨a, env1⟩ := p
    rw [e] at h
    exact fun v F' H' fp' st sat' q => k a env1 v F' H' fp' st sat' q (PostX.step (show PostX K P2 F H fp σ (g (a, env1)) Q from h) st)
end
section
variable (X : Cx)
def DXF (e : Expr) (f : Ev → R (D × Ev)) : Prop := ∃ t, PE X e t ∧ SmX X.K (XD X.K) t f
def DXA (es : List Expr) (f : Ev → R (List D × Ev)) : Prop := ∃ t, PA X es t ∧ SmX X.K (XDs X.K) t f
end
section
variable {X : Cx} {W : WX} {e a b : Expr} {es : List Expr} {pos p : Pos} {x : Str}
/-- a plain expression -/
def xP (f : Ev → R D) (env : Ev) : R (D × Ev) := match f env with
  | .ok d => .ok (d, env)
  | _ => .no
theorem xf_df {f : Ev → R D} (h : DF X W0 e f) : DXF X e (xP f) := by
  obtain ⟨t, p, s⟩ := h
  refine ⟨t, p, fun F H σ env fp Q sat h => s F H σ env fp Q sat ?_⟩
  unfold xP at h
  cases e : f env with
  | no => rw [e] at h; exact h
  | ex c => rw [e] at h; exact h.elim
  | ok d => rw [e] at h; exact fun v F' H' x q => h v F' H' fp (StepS.of_ext x fp) (sat.ext x) q
def xBin (g : D → D → Option D) (f h : Ev → R (D × Ev)) (env : Ev) : R (D × Ev) := (f env).bind fun p => (h p.2).bind fun q => (R.of (g p.1 q.1)).bind fun d => .ok (d, q.2)
theorem xop_sm {r : R2} {g : D → D → Option D} (hs : OpS X.K r g) {ta tb : TE} {f h : Ev → R (D × Ev)} (sa : SmX X.K (XD X.K) ta f) (sb : SmX X.K (XD X.K) tb h) : SmX X.K (XD X.K) (tOp r ta tb) (xBin g f h) := by
  intro F H σ env fp Q sat hp
  refine sa.go sat hp fun d env1 v F1 H1 fp1 st1 sat1 q h1 => ?_
  refine sb.go sat1 h1 fun d' env2 v' F2 H2 fp2 st2 sat2 q' h2 => ?_
  cases hz : g d d' with
  | none => simp only [hz] at h2; exact h2.elim
  | some z =>
    simp only [hz] at h2
    exact hs H2 v v' d d' z Q (dpUp (dpUp q st2.ff) sat2.fh) (dpUp q' sat2.fh) hz fun u hu => h2 u F2 H2 fp2 (StepS.of_ext (.refl sat2.fh) fp2) sat2 (hu _)
theorem xf_bin {op : Operator} {r : R2} {g : D → D → Option D} (ho : OpR X (binaryOp op) r) (hs : OpS X.K r g) {f h : Ev → R (D × Ev)} (ha : DXF X a f) (hb : DXF X b h) : DXF X (.BinOp a op b pos) (xBin g f h) := by
  obtain ⟨ta, pa, sa⟩ := ha
  obtain ⟨tb, pb, sb⟩ := hb
  exact ⟨_, pe_op ho pa pb, xop_sm hs sa sb⟩
theorem xf_cmp {op : CmpOp} {r : R2} {g : D → D → Option D} (ho : OpR X (compareOp op) r) (hs : OpS X.K r g) {f h : Ev → R (D × Ev)} (ha : DXF X a f) (hb : DXF X b h) (hm : behindInMarks op b = false := by first | exact nomark _ | rfl) :
    DXF X (.Compare a [op] [b] pos) (xBin g f h) := by
  obtain ⟨ta, pa, sa⟩ := ha
  obtain ⟨tb, pb, sb⟩ := hb
  exact ⟨_, pe_cmpR ho pa pb hm, xop_sm hs sa sb⟩
def xNil (env : Ev) : R (List D × Ev) := .ok ([], env)
def xCons (f : Ev → R (D × Ev)) (g : Ev → R (List D × Ev)) (env : Ev) : R (List D × Ev) := (f env).bind fun p => (g p.2).bind fun q => .ok (p.1 :: q.1, q.2)
theorem xa_nil : DXA X [] xNil := ⟨_, pa_nil, fun F H σ env fp Q sat h => h _ F H fp (StepS.of_ext (.refl sat.fh) fp) sat .nil⟩
theorem xa_cons {f : Ev → R (D × Ev)} {g : Ev → R (List D × Ev)} (hf : DXF X e f) (hg : DXA X es g) (hs : starEach (e :: es) X.env = (false, eval e X.env) :: starEach es X.env := by rfl) : DXA X (e :: es) (xCons f g) := by
  obtain ⟨t, p, s⟩ := hf
  obtain ⟨t', p', s'⟩ := hg
  refine ⟨_, pa_cons p p' hs, fun F H σ env fp Q sat h => ?_⟩
  refine s.go sat h fun d env1 v F1 H1 fp1 st1 sat1 q h1 => ?_
  refine s'.go sat1 h1 fun ds env2 vs F2 H2 fp2 st2 sat2 q' h2 => ?_
  exact h2 _ F2 H2 fp2 (StepS.of_ext (.refl sat2.fh) fp2) sat2 (.cons (dpUp q st2.ff) q')
/-- a def that changes nothing, called -/
def xCall (m : List D → R Ow) (fa : Ev → R (List D × Ev)) (env : Ev) : R (D × Ev) := (fa env).bind fun p => match m p.1 with
  | .ok r => .ok (viewD r, p.2)
  | _ => .no
theorem xf_call {k n : Nat} {f : Addr} {fd : FuncData} {ps : List Str} {m : List D → R Ow} {fa : Ev → R (List D × Ev)} (F : FnOk X.prog X.w X.K X.mg X.base (L2.CX X.prog X.w) k f fd ps (spM X.K X.mg n m)) (tk : Takes X W) (hr : Room k X.A) (hg : Gl X x) (hm : X.mg x = some (.ref f))
    (hk : PySem.W.keepIn X.K (.ref f) = true) (hb : Binds X.K fd ps []) (ha : DXA X (e :: es) fa) (hn : ∀ ds env env', fa env = .ok (ds, env') → ds.length = n)
    (hdb : (x == ("__debug__" : Str)) = false := by decide) (he : starEach (e :: es) X.env = (false, eval e X.env) :: starEach es X.env := by rfl) (hpl : (backTo pos (starEach es X.env)).any (·.1) = false := by rfl) :
    DXF X (.Call (.Name x p) (e :: es) [] pos) (xCall m fa) := by
  obtain ⟨t, pa, s⟩ := ha
  refine ⟨_, pe_callS F hr hg hm hk hb (fun σ => passAt tk σ) pa hdb he hpl, fun F0 H σ env fp Q sat hp => ?_⟩
  unfold xCall at hp
  cases ef : fa env with
  | no => rw [ef] at hp; exact hp.elim
  | ex c => rw [ef] at hp; exact hp.elim
  | ok p0 =>
    obtain ⟨ds, env1⟩ := p0
    rw [ef] at hp
    refine s F0 H σ env fp _ sat ?_
    rw [ef]
    intro vs F1 H1 fp1 st1 sat1 q
    refine ⟨F1, ds, sat1.fh, q, hn ds env env1 ef, ?_⟩
    have h1 : PostX X.K (XD X.K) F0 H fp σ (match m ds with
      | .ok r => .ok (viewD r, env1)
      | _ => .no) Q := hp
    cases em : m ds with
    | no => rw [em] at h1; exact h1.elim
    | ex c => rw [em] at h1; exact h1.elim
    | ok r =>
      rw [em] at h1
      intro v F' H' x ⟨fo, ow, nd, fresh⟩
      obtain ⟨F2, x2, q2⟩ := x.freeze ow fresh
      exact h1 v F2 H' fp1 (st1.trans (StepS.of_ext x2 fp1)) (sat1.ext x2) q2
theorem xNil_len {ds : List D} {env env' : Ev} (h : xNil env = .ok (ds, env')) : ds.length = 0 := by cases h; rfl
theorem xCons_len {n : Nat} {f : Ev → R (D × Ev)} {g : Ev → R (List D × Ev)} (ih : ∀ ds env env', g env = .ok (ds, env') → ds.length = n) : ∀ ds env env', xCons f g env = .ok (ds, env') → ds.length = n + 1 := fun ds env env' h => by
  unfold xCons at h
  cases e1 : f env with
  | no => rw [e1] at h; cases h
  | ex c => rw [e1] at h; cases h
  | ok p =>
    rw [e1] at h
    simp only [R.bind_ok] at h
    cases e2 : g p.2 with
    | no => rw [e2] at h; cases h
    | ex c => rw [e2] at h; cases h
    | ok q =>
      rw [e2] at h
      simp only [R.bind_ok] at h
      cases h
      simp [ih q.1 p.2 q.2 e2]

/-! ### a list changed by another def -/

/-- the own list in slot i, changed by a step within it -/
theorem Sat.chg {K : PySem.W.Frag} {F H : Hp} {σ : L2.St} {env : Ev} {fp : List Addr} (sat : Sat K F H σ env fp) {i : Nat} {dk : List D} (hi : env[i]? = some (some (.l (dk.map Ow.d)))) : ∃ a vs, σ[i]? = some (some (.ref a)) ∧ F a = none ∧ H a = some (.lst vs) ∧ DpAll K F vs dk ∧
    ∀ F' H' vs' dk', StepS F H [a] F' H' [a] → Same F' H' → F' a = none → H' a = some (.lst vs') → DpAll K F' vs' dk' → ∃ fp', StepS F H fp F' H' fp' ∧ Sat K F' H' σ (env.set i (some (.l (dk'.map Ow.d)))) fp' := by
  have hl : i < env.length := (List.getElem?_eq_some_iff.mp hi).1
  obtain ⟨fr, fo0, a1, a2, a3, a3', a4, a5, a6⟩ := sat.en.put hl sat.nd
  obtain ⟨v, e1, e2⟩ := a5 _ hi
  cases e2 with
  | @l a vs _ fo h1 h2 h3 =>
    obtain ⟨dp, rfl⟩ := OwnAll.dp h3
    refine ⟨a, vs, e1, h1, h2, dp, fun F' H' vs' dk' st sf fa ha dp' => ?_⟩
    have na : a ∉ fr := a4 a List.mem_cons_self
    obtain ⟨fp', b1, b2, b3⟩ := (a6 F' H' [a] [a] st fun b hb z => na (by rw [← List.mem_singleton.mp z]; exact hb)).2 (.ref a) (.l (dk'.map Ow.d)) [a] (.l fa ha (OwnAll.of_dp dp')) (by simp) fun b hb => by rw [List.mem_singleton.mp hb]; exact na
    rw [set_self e1] at b3
    refine ⟨fp', ⟨st.ff, fun b o q n => st.fr b o q fun z => n (by rw [List.mem_singleton.mp z]; exact a2 a List.mem_cons_self), fun b o q => (st.fn b o q).imp id (.imp (fun z => by rw [List.mem_singleton.mp z]; exact a2 a List.mem_cons_self) id), fun b hb => ?_⟩, sf, b3, b1⟩
    rcases b2 b hb with q | q
    · rw [List.mem_singleton.mp q]; exact .inl (a2 a List.mem_cons_self)
    · exact .inl (a1 b q)
def lstAt (i : Nat) (env : Ev) : Option (List D) := match env[i]? with
  | some (some (.l os)) => unDs os
  | _ => none
theorem lstAt_eq {i : Nat} {env : Ev} {dk : List D} (h : lstAt i env = some dk) : env[i]? = some (some (.l (dk.map Ow.d))) := by
  unfold lstAt at h
  split at h
  · rename_i os e
    rw [e, unDs_eq h]
  · cases h
def PostK (K : PySem.W.Frag) (F H : Hp) (a : Addr) : R Ow → VK → Prop
  | .ok (.d (.tuple [r, .list dk])), Q => ∀ v F' H' xs, StepS F H [a] F' H' [a] → Same F' H' → F' a = none → H' a = some (.lst xs) → DpAll K F' xs dk → Dp K F' v r → Q v H'
  | _, _ => False
/-- the promise of a def that changes the list that it is handed first -/
def spK (K : PySem.W.Frag) (n : Nat) (m : List D → R Ow) : Sp := fun vs H Q _ => ∃ F a xs ws dk ds, Same F H ∧ vs = V.ref a :: ws ∧ F a = none ∧ H a = some (.lst xs) ∧ DpAll K F xs dk ∧ DpAll K F ws ds ∧ ds.length = n ∧ PostK K F H a (m (.list dk :: ds)) Q
theorem spK_len {K : PySem.W.Frag} {n : Nat} {m : List D → R Ow} {vs : List V} {H : Hp} {Q : VK} {E : XK} (h : spK K n m vs H Q E) : vs.length = n + 1 := by
  obtain ⟨F, a, xs, ws, dk, ds, _, rfl, _, _, _, h1, h2, _⟩ := h
  rw [List.length_cons, DpAll.len h1, h2]
def xCallK (m : List D → R Ow) (i : Nat) (fa : Ev → R (List D × Ev)) (env : Ev) : R (D × Ev) := match lstAt i env with
  | none => .no
  | some _ => (fa env).bind fun p => match lstAt i p.2 with
    | none => .no
    | some dk => match m (.list dk :: p.1) with
      | .ok (.d (.tuple [r, .list dk'])) => .ok (r, p.2.set i (some (.l (dk'.map Ow.d))))
      | _ => .no
theorem xf_callK {k n : Nat} {f : Addr} {fd : FuncData} {ps : List Str} {y : Str} {npos : Pos} {m : List D → R Ow} {fa : Ev → R (List D × Ev)} (i : Nat) (F : FnOk X.prog X.w X.K X.mg X.base (L2.CX X.prog X.w) k f fd ps (spK X.K n m)) (tk : Takes X W) (hr : Room k X.A) (hg : Gl X x) (hm : X.mg x = some (.ref f))
    (hk : PySem.W.keepIn X.K (.ref f) = true) (hb : Binds X.K fd ps []) (ha : DXA X es fa) (hn : ∀ ds env env', fa env = .ok (ds, env') → ds.length = n) (hN : X.N[i]? = some y := by rfl) (hv : Vis X.env.scope y := by first | exact Or.inl rfl | exact Or.inr (Or.inl rfl) | exact Or.inr (Or.inr rfl)) (hd : (y == ("__debug__" : Str)) = false := by decide) (hcd : (y == ("__classdict__" : Str)) = false := by decide)
    (hdb : (x == ("__debug__" : Str)) = false := by decide) (he : starEach (.Name y npos :: es) X.env = (false, eval (.Name y npos) X.env) :: starEach es X.env := by rfl) (hpl : (backTo pos (starEach es X.env)).any (·.1) = false := by rfl) :
    DXF X (.Call (.Name x p) (.Name y npos :: es) [] pos) (xCallK m i fa) := by
  obtain ⟨t, pa, s⟩ := ha
  refine ⟨_, pe_callS F hr hg hm hk hb (fun σ => passAt tk σ) (pa_cons (pe_var hN hv hd hcd) pa he) hdb he hpl, fun F0 H σ env fp Q sat hp => ?_⟩
  unfold xCallK at hp
  cases e0 : lstAt i env with
  | none => rw [e0] at hp; exact hp.elim
  | some dk0 =>
  rw [e0] at hp
  obtain ⟨a0, vs0, b1, _⟩ := sat.chg (lstAt_eq e0)
  refine ⟨.ref a0, b1, ?_⟩
  cases ef : fa env with
  | no => rw [ef] at hp; exact hp.elim
  | ex c => rw [ef] at hp; exact hp.elim
  | ok p0 =>
  obtain ⟨ds, env1⟩ := p0
  rw [ef] at hp
  refine s F0 H σ env fp _ sat ?_
  rw [ef]
  intro ws F1 H1 fp1 st1 sat1 q
  have h1 : PostX X.K (XD X.K) F0 H fp σ (match lstAt i env1 with
    | none => .no
    | some dk => match m (.list dk :: ds) with
      | .ok (.d (.tuple [r, .list dk'])) => .ok (r, env1.set i (some (.l (dk'.map Ow.d))))
      | _ => .no) Q := hp
  cases e1 : lstAt i env1 with
  | none => rw [e1] at h1; exact h1.elim
  | some dk =>
  rw [e1] at h1
  simp only at h1
  obtain ⟨a, vs, c1, c2, c3, c4, c5⟩ := sat1.chg (lstAt_eq e1)
  rw [b1] at c1
  cases c1
  refine ⟨F1, a0, vs, ws, dk, ds, sat1.fh, rfl, c2, c3, c4, q, hn ds env env1 ef, ?_⟩
  cases em : m (.list dk :: ds) with
  | no => rw [em] at h1; exact h1.elim
  | ex c => rw [em] at h1; exact h1.elim
  | ok r =>
  rw [em] at h1
  split at h1
  · rename_i r' dk' e
    cases e
    intro v F' H' xs st sf fa' ha' dp' dv
    obtain ⟨fp', d1, d2⟩ := c5 F' H' xs dk' st sf fa' ha' dp'
    exact h1 v F' H' fp' (st1.trans d1) d2 dv
  · exact h1.elim
/-- x.pop() -/
def xPop (i : Nat) (env : Ev) : R (D × Ev) := match lstAt i env with
  | none => .no
  | some dk => match dk.getLast? with
    | none => .no
    | some d => .ok (d, env.set i (some (.l (dk.dropLast.map Ow.d))))
theorem DpAll.dropLast {H : Hp} {K : PySem.W.Frag} {vs : List V} {ds : List D} (h : DpAll K H vs ds) : DpAll K H vs.dropLast ds.dropLast := by
  rw [List.dropLast_eq_take, List.dropLast_eq_take, DpAll.len h]
  exact Mir.DpAll.take _ h
theorem pop_step {F H : Hp} {a : Addr} {vs vs' : List V} (s : Same F H) (h : H a = some (.lst vs)) : StepS F H [a] F (upd H a (.lst vs')) [a] :=
  ⟨Same.refl _, fun b o e n => by rw [upd_ne (fun z => n (by simp [z]))]; exact e, fun b o e => .inl e, fun b z => .inl z⟩
theorem xf_pop {npos apos cpos : Pos} (i : Nat) (hN : X.N[i]? = some x := by rfl) (hv : Vis X.env.scope x := by first | exact Or.inl rfl | exact Or.inr (Or.inl rfl) | exact Or.inr (Or.inr rfl)) (hd : (x == ("__debug__" : Str)) = false := by decide) (hcd : (x == ("__classdict__" : Str)) = false := by decide)
    (hbase : attributeBase (.Name x npos) "pop" X.env (eval (.Name x npos) X.env) = eval (.Name x npos) X.env := by rfl) (hline : (apos.endLine == cpos.line) = true := by rfl) : DXF X (.Call (.Attribute (.Name x npos) "pop" apos) [] [] cpos) (xPop i) := by
  refine ⟨_, pe_bm0 PySem.F.plainAttrs_list PySem.F.slot_list_pop PySem.F.type_list_pop mt_pop (pe_var hN hv hd hcd) hbase hline, fun F H σ env fp Q sat hp => ?_⟩
  unfold xPop at hp
  cases e0 : lstAt i env with
  | none => rw [e0] at hp; exact hp.elim
  | some dk =>
  rw [e0] at hp
  simp only at hp
  obtain ⟨a, vs, b1, b2, b3, b4, b5⟩ := sat.chg (lstAt_eq e0)
  refine ⟨.ref a, b1, .inl ⟨rfl, vs, SqL.of b3⟩, ?_⟩
  cases el : dk.getLast? with
  | none => rw [el] at hp; exact hp.elim
  | some d =>
  rw [el] at hp
  have hl := DpAll.len b4
  rw [List.getLast?_eq_getElem?] at el
  obtain ⟨v, g1, g2⟩ := Mir.DpAll.get b4 el
  refine ⟨a, vs, v, rfl, rfl, b3, by rw [hl]; exact g1, ?_⟩
  obtain ⟨fp', d1, d2⟩ := b5 F (upd H a (.lst vs.dropLast)) vs.dropLast dk.dropLast (pop_step sat.fh b3) (mut_same sat.fh b2) b2 upd_same (Mir.DpAll.dropLast b4)
  exact hp v F _ fp' d1 d2 g2
end
end Mir
end
set_option Elab.async false
set_option linter.all false
set_option maxRecDepth 100000
set_option maxHeartbeats 4000000
noncomputable section
namespace Mir
open PySem PySem.Spec L2

/-! ### a comprehension whose items change own lists -/
def tOfX (K : PySem.W.Frag) (f : Ev → R (D × Ev)) : TE := fun σ H Q => ∃ F env fp, Sat K F H σ env fp ∧ PostX K (XD K) F H fp σ (f env) Q
theorem DXF.can {X : Cx} {e : Expr} {f : Ev → R (D × Ev)} (h : DXF X e f) : PE X e (tOfX X.K f) := by
  obtain ⟨t, p, s⟩ := h
  refine PE.imp p ?_
  rintro σ H Q ⟨F, env, fp, sat, h⟩
  exact s F H σ env fp Q sat h
def lcX (g : D → Ev → Option Ev) (fe : Ev → R (D × Ev)) (vs : List Nat) : Ev → List D → R (List D × Ev)
  | env, [] => .ok ([], env)
  | env, d :: ds => match g d env with
    | none => .no
    | some env1 => (fe env1).bind fun p => (lcX g fe vs (wipeE p.2 vs) ds).bind fun q => .ok (p.1 :: q.1, q.2)
def xLc (fi : Ev → R (List D)) (g : D → Ev → Option Ev) (fe : Ev → R (D × Ev)) (vs : List Nat) (env : Ev) : R (D × Ev) := match fi env with
  | .ok ds => guard (ds.length ≤ sizeLine) ((lcX g fe vs (wipeE env vs) ds).bind fun p => .ok (.list p.1, p.2))
  | _ => .no
theorem wipeE_get : ∀ (env : Ev) (vs : List Nat) (j : Nat), j ∈ vs → (wipeE env vs)[j]? = (env[j]?).map (fun _ => none)
  | env, [], j, h => by cases h
  | env, v :: vs, j, h => by
    show ((wipeE env vs).set v none)[j]? = _
    have hlen : ∀ vs : List Nat, (wipeE env vs).length = env.length := fun vs => by
      induction vs with
      | nil => rfl
      | cons v vs ih => show ((wipeE env vs).set v none).length = _; rw [List.length_set, ih]
    by_cases hj : v = j
    · subst hj
      by_cases hl : v < (wipeE env vs).length
      · rw [List.getElem?_set_self hl]
        rw [hlen] at hl
        simp [List.getElem?_eq_getElem hl]
      · rw [set_none_len hl]
        rw [hlen] at hl
        rw [List.getElem?_eq_none (by rw [hlen]; omega), List.getElem?_eq_none (by omega)]
        rfl
    · rw [List.getElem?_set_ne hj]
      exact wipeE_get env vs j ((List.mem_cons.mp h).resolve_left fun e => hj e.symm)
theorem EnvAt.re {K : PySem.W.Frag} {F H : Hp} {σ : L2.St} {env : Ev} {fp : List Addr} (h : EnvAt K F H σ env fp) : ∀ {σ' : L2.St}, σ'.length = σ.length → (∀ (j : Nat) (o : Ow), env[j]? = some (some o) → σ'[j]? = σ[j]?) → EnvAt K F H σ' env fp := by
  induction h with
  | nil =>
    intro σ' hl _
    cases σ' with
    | nil => exact .nil
    | cons => simp at hl
  | @non x σ env fp h ih =>
    intro σ' hl hs
    cases σ' with
    | nil => simp at hl
    | cons y σ' => exact .non (ih (by simpa using hl) fun j o e => by simpa using hs (j + 1) o (by simpa using e))
  | @som v o σ env fp fps h1 h2 ih =>
    intro σ' hl hs
    cases σ' with
    | nil => simp at hl
    | cons y σ' =>
      have := hs 0 o rfl
      simp at this
      subst this
      exact .som h1 (ih (by simpa using hl) fun j o e => by simpa using hs (j + 1) o (by simpa using e))
section
variable {X : Cx} {W : WX} {S : Nat → Bool} {pos : Pos}
theorem xf_lc_core {wi : TI} {g : D → Ev → Option Ev} {fi : Ev → R (List D)} {fe : Ev → R (D × Ev)} {ix vs : List Nat} (si : Sm X W (PIt X.K) wi fi) (hix : ∀ i ∈ ix, i ∈ vs) :
    SmX X.K (XD X.K) (tLc wi (tgOf X.K ix g) (tOf X.K (Post X W0 PTb) cYes) (tOfX X.K fe) vs) (xLc fi g fe vs) := by
  intro F H σ env fp Q sat hp
  unfold xLc at hp
  refine si F H σ env fp _ sat ?_
  cases ei : fi env with
  | no => rw [ei] at hp; exact hp.elim
  | ex c => rw [ei] at hp; exact hp.elim
  | ok items =>
  rw [ei] at hp
  intro J F1 H1 x1 wk
  have wk : WalkF X.K J F1 items := wk
  have sat1 := sat.ext x1
  have h1 : PostX X.K (XD X.K) F H fp σ (guard (items.length ≤ sizeLine) ((lcX g fe vs (wipeE env vs) items).bind fun p => .ok (.list p.1, p.2))) Q := hp
  have hz : items.length ≤ sizeLine := by
    by_cases c : items.length ≤ sizeLine
    · exact c
    · have e : guard (items.length ≤ sizeLine) ((lcX g fe vs (wipeE env vs) items).bind fun p => (.ok (.list p.1, p.2) : R (D × Ev))) = .no := by unfold guard; exact if_neg c
      rw [e] at h1
      exact h1.elim
  rw [guard_pos hz] at h1
  intro Dd hD
  have hD1 : F1 Dd = none := free_of sat1.fh hD
  cases el : lcX g fe vs (wipeE env vs) items with
  | no => rw [el] at h1; exact h1.elim
  | ex c => rw [el] at h1; exact h1.elim
  | ok pz =>
  obtain ⟨all, envZ⟩ := pz
  rw [el] at h1
  have h2 : ∀ v F' H' fp', StepS F H fp F' H' fp' → Sat X.K F' H' σ envZ fp' → XD X.K F' (.list all) v → Q v H' := h1
  obtain ⟨fpw, satw, subw⟩ := wipe_sat sat1 vs
  let Iv : Nat → Hp → Prop := fun i H' => ∃ F' env' fp' acc accD rest, StepS F1 H1 fpw F' H' (Dd :: fp') ∧ Sat X.K F' H' (wipe σ vs) env' fp' ∧ F' Dd = none ∧ H' Dd = some (.lst acc) ∧ DpAll X.K F' acc accD ∧ Dd ∉ fp' ∧ accD.length = i ∧ (∀ v ∈ vs, ∀ o, env'[v]? ≠ some (some o)) ∧ lcX g fe vs env' (items.drop i) = .ok (rest, envZ) ∧ all = accD ++ rest
  have wiped : ∀ env : Ev, ∀ v ∈ vs, ∀ o, (wipeE env vs)[v]? ≠ some (some o) := fun env v hv o e => by
    rw [wipeE_get env vs v hv] at e
    cases q : env[v]? with
    | none => rw [q] at e; cases e
    | some u => rw [q] at e; cases e
  have nD0 : Dd ∉ fpw := fun z => by
    obtain ⟨_, w, e⟩ := satw.en.there Dd z
    rw [hD] at e; cases e
  refine ⟨fun i m H' => m = items.length - i ∧ i ≤ items.length ∧ Iv i H', ⟨items.length, by simp, Nat.zero_le _, F1, wipeE env vs, fpw, [], [], all, ⟨Same.refl _, fun b o e n => ?_, fun b o e => .inl e, fun b hb => ?_⟩, satw.ext (Ext.own sat1.fh hD _), hD1, upd_same, .nil, nD0, rfl, wiped env, el, rfl⟩, ?_⟩
  · rw [upd_ne (ne_of_none e hD)]; exact e
  · rcases List.mem_cons.mp hb with z | z
    · rw [z]; exact .inr hD
    · exact .inl z
  rintro i m H' ⟨rfl, hi, F', env', fp', acc, accD, rest, st, sat', fD, hDd, hacc, nD, hl, wp, er, ea⟩
  have nn : ∀ c, H' c = none → c ∈ fpw ∨ H1 c = none := fun c h => by
    cases q : H1 c with
    | none => exact .inr rfl
    | some o =>
      by_cases hc : c ∈ fpw
      · exact .inl hc
      · rw [st.fr c o q hc] at h; cases h
  by_cases hlt : i < items.length
  · refine .inr ⟨wk.go i F' H' hlt st.ff sat'.fh, Iv (i + 1), fun H2 z => ⟨items.length - (i + 1), by omega, rfl, hlt, z⟩, fun v H3 y => ?_⟩
    obtain ⟨d, F3, e1, x3, dp⟩ := wk.yld i F' H' v H3 hlt st.ff sat'.fh y
    have ed : items.drop i = d :: items.drop (i + 1) := by
      rw [List.drop_eq_getElem_cons hlt]
      have : items[i] = d := by rw [List.getElem?_eq_getElem hlt] at e1; exact Option.some.inj e1
      rw [this]
    rw [ed] at er
    unfold lcX at er
    cases eg : g d env' with
    | none => rw [eg] at er; cases er
    | some env1 =>
    rw [eg] at er
    simp only at er
    cases ee : fe env1 with
    | no => rw [ee] at er; cases er
    | ex c => rw [ee] at er; cases er
    | ok pr =>
    obtain ⟨r, env2⟩ := pr
    rw [ee] at er
    simp only [R.bind_ok] at er
    cases er2 : lcX g fe vs (wipeE env2 vs) (items.drop (i + 1)) with
    | no => rw [er2] at er; cases er
    | ex c => rw [er2] at er; cases er
    | ok pq =>
    obtain ⟨rest2, envQ⟩ := pq
    rw [er2] at er
    simp only [R.bind_ok] at er
    cases er
    refine ⟨F3, env', fp', d, env1, sat'.ext x3, dp, eg, fun σ2 fp2 sat2 sub2 off2 => ?_⟩
    have ew := wipe_off off2 hix
    refine ⟨ew, F3, env1, fp2, sat2, fun v4 F4 H4 x4 ev4 => ?_⟩
    obtain rfl : v4 = true := ev4
    rw [if_pos rfl]
    refine ⟨F4, env1, fp2, sat2.ext x4, ?_⟩
    rw [ee]
    intro y5 F5 H5 fp5 st5 sat5 dy
    have xx := x3.trans x4
    have n2 : Dd ∉ fp2 := fun z => nD (sub2 Dd z)
    have hD4 : H4 Dd = some (.lst acc) := xx.hh _ _ hDd
    have hD5 : H5 Dd = some (.lst acc) := st5.fr Dd _ hD4 n2
    have fD4 : F4 Dd = none := by
      cases q : F4 Dd with
      | none => rfl
      | some u =>
        rcases xx.fn Dd u q with z | z
        · rw [fD] at z; cases z
        · rw [hDd] at z; cases z
    have fD5 : F5 Dd = none := by
      cases q : F5 Dd with
      | none => rfl
      | some u =>
        rcases st5.fn Dd u q with z | z | z
        · rw [fD4] at z; cases z
        · exact absurd z n2
        · rw [hD4] at z; cases z
    have n5 : Dd ∉ fp5 := fun z => by
      rcases st5.sub Dd z with q | q
      · exact n2 q
      · rw [hD4] at q; cases q
    obtain ⟨fp6, sat6, sub6⟩ := wipe_sat sat5 vs
    rw [ew] at sat6
    have n6 : Dd ∉ fp6 := fun z => n5 (sub6 Dd z)
    have la := DpAll.len hacc
    have stp : StepS F5 H5 [Dd] F5 (upd H5 Dd (.lst (acc ++ [y5]))) [] := mut_step (.refl sat6.fh) hD5
    refine ⟨acc, hD5, by omega, F5, wipeE env2 vs, fp6, acc ++ [y5], accD ++ [r], rest2, ⟨st.ff.trans (xx.ff.trans st5.ff), fun b o e n => ?_, fun b o e => ?_, fun b hb => ?_⟩, ⟨mut_same sat6.fh fD5, sat6.en.keep stp fun b hb z => n6 (by rw [← List.mem_singleton.mp z]; exact hb), sat6.nd⟩, fD5, upd_same, DpAll.append (dpaUp hacc (xx.ff.trans st5.ff)) (.cons dy .nil), n6, by simp [hl], wiped env2, er2, by simp [ea]⟩
    · have e' := st.fr b o e n
      rw [upd_ne (ne_of_none e hD)]
      refine st5.fr b o (xx.hh _ _ e') fun z => ?_
      rcases st.sub b (List.mem_cons_of_mem _ (sub2 b z)) with q | q
      · exact n q
      · rw [e] at q; cases q
    · rcases st5.fn b o e with z | z | z
      · rcases xx.fn b o z with q | q
        · exact st.fn b o q
        · exact .inr (nn b q)
      · exact .inr (st.sub b (List.mem_cons_of_mem _ (sub2 b z)))
      · exact .inr (nn b (xx.hh.free z))
    · rcases List.mem_cons.mp hb with z | z
      · rw [z]; exact .inr hD
      · rcases st5.sub b (sub6 b z) with q | q
        · exact st.sub b (List.mem_cons_of_mem _ (sub2 b q))
        · exact nn b (xx.hh.free q)
  · have e : i = items.length := by omega
    subst e
    rw [List.drop_length] at er
    cases er
    refine .inl ⟨wk.stop F' H' st.ff sat'.fh, ?_⟩
    have sfD : Same F' (upd F' Dd (.lst acc)) := same_upd fD _
    have stD : StepS F' H' [Dd] (upd F' Dd (.lst acc)) H' [] := ⟨sfD, fun b o e _ => e, fun b o e => by
      by_cases c : b = Dd
      · exact .inr (.inl (by rw [c]; exact List.mem_cons_self))
      · rw [upd_ne c] at e; exact .inl e, fun b z => nomatch z⟩
    have fhD : Same (upd F' Dd (.lst acc)) H' := fun b o e => by
      by_cases c : b = Dd
      · subst c; rw [upd_same] at e; cases e; exact hDd
      · rw [upd_ne c] at e; exact sat'.fh b o e
    refine h2 (.ref Dd) (upd F' Dd (.lst acc)) H' fp' ⟨x1.ff.trans (st.ff.trans sfD), fun b o e n => ?_, fun b o e => ?_, fun b hb => ?_⟩ ⟨fhD, EnvAt.re (sat'.en.keep stD fun b hb z => nD (by rw [← List.mem_singleton.mp z]; exact hb)) (by rw [wipe_length]) fun j o ej => ?_, sat'.nd⟩ ?_
    · exact st.fr b o (x1.hh _ _ e) fun z => n (subw b z)
    · by_cases c : b = Dd
      · subst c
        exact .inr (.inr (x1.hh.free hD))
      · rw [upd_ne c] at e
        rcases st.fn b o e with q | q | q
        · exact (x1.fn b o q).imp id .inr
        · exact .inr (.inl (subw b q))
        · exact .inr (.inr (x1.hh.free q))
    · rcases st.sub b (List.mem_cons_of_mem _ hb) with q | q
      · exact .inl (subw b q)
      · exact .inr (x1.hh.free q)
    · rw [wipe_get]
      rw [if_neg fun z => wp j z o ej]
    · rw [ea, List.append_nil]
      exact .lst (SqL.of upd_same) (dpaUp hacc sfD)
theorem xf_lc {elt tg iter : Expr} {scope : Scope} {own : List (Str × Nat)} {g : D → Ev → Option Ev} {fi : Ev → R (List D)} {fe : Ev → R (D × Ev)} {ix : List Nat} (hc : X.calm = true) (hN : X.N.Nodup) (hi : DI X W0 tg iter fi) (ok : BlkOk X.N X.env.scope scope own)
    (hg : ∀ (s : Shared) (H : Hp) (C : Addr) (cl : List (Str × Addr)) (fp : List Addr), DG (X.blk s H scope (compEnvC scope cl C X.env) fp) tg ix g)
    (he : ∀ (s : Shared) (H : Hp) (C : Addr) (cl : List (Str × Addr)) (fp : List Addr), DXF (X.blk s H scope (compEnvC scope cl C X.env) fp) elt fe) (hix : ∀ i ∈ ix, i ∈ own.map (·.2) := by decide) (hs : ∀ x, foldedSetIterable iter X.env x = pure x := by intro _; rfl) :
    DXF X (.ListComp elt [⟨tg, iter, [], 0⟩] scope pos) (xLc fi g fe (own.map (·.2))) := by
  obtain ⟨wi, pi, si⟩ := hi
  exact ⟨_, pe_lc (g := tgOf X.K ix g) hc hN pi ok (fun s H C cl fp => hg s H C cl fp) (fun s H C cl fp => (dts_nil (X := X.blk s H scope (compEnvC scope cl C X.env) fp) (W := W0)).can) (fun s H C cl fp => (he s H C cl fp).can) hs, xf_lc_core si hix⟩

/-! ### statements -/
def xSet (i : Nat) (r : R (D × Ev)) : SR := match r with
  | .ok (d, env1) => if i < env1.length then .nx (env1.set i (some (.d d))) else .no
  | _ => .no
def sXSet (i : Nat) (f : Ev → R (D × Ev)) (env : Ev) : SR := xSet i (f env)
theorem put_stepX {K : PySem.W.Frag} {F H F1 H1 : Hp} {σ : L2.St} {env env1 : Ev} {fp fp1 : List Addr} {i : Nat} {v : V} {d : D} (sat : Sat K F1 H1 σ env1 fp1) (st : StepS F H fp F1 H1 fp1) (h : Dp K F1 v d) (hi : i < env1.length) :
    ∃ fp', StepS F H fp F1 H1 fp' ∧ Sat K F1 H1 (σ.set i (some v)) (env1.set i (some (.d d))) fp' := by
  obtain ⟨fp', s1, s2⟩ := sat.put hi (OwnAt.d h) List.nodup_nil (fun _ z => nomatch z)
  exact ⟨fp', st.subset fun b hb => (s2 b hb).elim (fun z => nomatch z) id, s1⟩
theorem xset_post {F H : Hp} {σ : L2.St} {env : Ev} {fp : List Addr} {D' : Ends} {i : Nat} {f : Ev → R (D × Ev)} (hS : S i = true) (h : PostS X W S σ F H fp D' (sXSet i f env)) : PostX X.K (XD X.K) F H fp σ (f env) fun v H' => D'.nx (σ.set i (some v)) H' := by
  unfold sXSet xSet at h
  cases e : f env with
  | no => rw [e] at h; exact h
  | ex c => rw [e] at h; exact h
  | ok p =>
    obtain ⟨d, env1⟩ := p
    rw [e] at h
    intro v F' H' fp' st sat q
    have h' : PostS X W S σ F H fp D' (if i < env1.length then .nx (env1.set i (some (.d d))) else .no) := h
    split at h'
    · obtain ⟨fp2, s1, s2⟩ := put_stepX (env := env) sat st q ‹_›
      exact h' _ F' H' fp2 (.set hS _) s1 s2
    · exact h'.elim
theorem ds_xset {e : Expr} {f : Ev → R (D × Ev)} {x : Str} {pos' : Pos} (i : Nat) (hN : X.N.Nodup) (he : DXF X e f) (hi : X.N[i]? = some x := by rfl) (hx : Loc X.env.scope x := by first | exact Or.inl rfl | exact Or.inr rfl)
    (hs : swapsWith e (some (.Name x pos')) pos.line X.env = pure false := by rfl) (hf : X.fn x = true ∨ X.env.scope.names.lookup x = some .local := by first | exact .inl rfl | exact .inr rfl | assumption) (hS : S i = true := by rfl) : DS X W S (.Assign [.Name x pos'] e pos) (sXSet i f) := by
  obtain ⟨t, p, s⟩ := he
  exact ⟨_, ps_set hN hi hx p hs hf, fun F H σ env fp D sat h => s F H σ env fp _ sat (xset_post hS h)⟩
theorem ds_xsetLc {elt tg iter : Expr} {scope : Scope} {own : List (Str × Nat)} {g : D → Ev → Option Ev} {fi : Ev → R (List D)} {fe : Ev → R (D × Ev)} {ix : List Nat} {y : Str} {py spos : Pos} (i : Nat) (hc : X.calm = true) (hN : X.N.Nodup) (hi : DI X W0 tg iter fi) (ok : BlkOk X.N X.env.scope scope own)
    (hg : ∀ (s : Shared) (H : Hp) (C : Addr) (cl : List (Str × Addr)) (fp : List Addr), DG (X.blk s H scope (compEnvC scope cl C X.env) fp) tg ix g)
    (he : ∀ (s : Shared) (H : Hp) (C : Addr) (cl : List (Str × Addr)) (fp : List Addr), DXF (X.blk s H scope (compEnvC scope cl C X.env) fp) elt fe) (hix : ∀ i ∈ ix, i ∈ own.map (·.2) := by decide) (hs : ∀ x, foldedSetIterable iter X.env x = pure x := by intro _; rfl)
    (hy : X.N[i]? = some y := by rfl) (hyl : X.env.scope.names.lookup y = some .local := by rfl) (hsw : swapsWith (.ListComp elt [⟨tg, iter, [], 0⟩] scope pos) (some (.Name y py)) spos.line X.env = pure true := by exact sw_true rfl rfl rfl (by decide +kernel)) (hS : S i = true := by rfl) :
    DS X W S (.Assign [.Name y py] (.ListComp elt [⟨tg, iter, [], 0⟩] scope pos) spos) (sXSet i (xLc fi g fe (own.map (·.2)))) := by
  obtain ⟨wi, pi, si⟩ := hi
  exact ⟨_, ps_setLc (g := tgOf X.K ix g) hc hN hy hyl hsw pi ok (fun s H C cl fp => hg s H C cl fp) (fun s H C cl fp => (dts_nil (X := X.blk s H scope (compEnvC scope cl C X.env) fp) (W := W0)).can) (fun s H C cl fp => (he s H C cl fp).can) hs, fun F H σ env fp D sat h => xf_lc_core si hix F H σ env fp _ sat (xset_post hS h)⟩
def sXRet (f : Ev → R (D × Ev)) (env : Ev) : SR := match f env with
  | .ok (d, env1) => .rt (.d d) env1
  | _ => .no
theorem ds_xret {e : Expr} {f : Ev → R (D × Ev)} (he : DXF X e f) : DS X W S (.Return (some e) pos) (sXRet f) := by
  obtain ⟨t, p, s⟩ := he
  refine ⟨_, ps_ret p, fun F H σ env fp D sat h => ?_⟩
  refine s F H σ env fp _ sat ?_
  unfold sXRet at h
  cases e : f env with
  | no => rw [e] at h; exact h
  | ex c => rw [e] at h; exact h
  | ok pr =>
    obtain ⟨d, env1⟩ := pr
    rw [e] at h
    intro v F' H' fp' st sat' q
    exact h v σ F' H' [] fp' (.refl _ _) st sat' (.d q) sat'.nd
/-- tuple(e), list handed -/
def xCa (g : List D → Option Ow) (fa : Ev → R (List D × Ev)) (env : Ev) : R (D × Ev) := (fa env).bind fun p => match g p.1 with
  | some r => .ok (viewD r, p.2)
  | none => .no
theorem psqs_of {K : PySem.W.Frag} {F H : Hp} (s : Same F H) : ∀ {vs : List V} {ds : List D}, DpAll K F vs ds → PSqs K F H ds vs
  | _, [], h => by cases h; exact .nil
  | _, d :: ds, h => by
    cases h with
    | cons h1 h2 => exact .cons (.of (H0 := H) s h1) (psqs_of s h2)
theorem xca_sm {r : List V → Hp → VK → Prop} {g : List D → Option Ow} {t : TA} {f : Ev → R (List D × Ev)} (hs : CaG X.K r g) (s : SmX X.K (XDs X.K) t f) : SmX X.K (XD X.K) (tCB r t) (xCa g f) := by
  intro F H σ env fp Q sat hp
  refine s.go sat hp fun ds env1 vs F1 H1 fp1 st1 sat1 q h1 => ?_
  cases hz : g ds with
  | none => simp only [hz] at h1; exact h1.elim
  | some o =>
    simp only [hz] at h1
    refine hs F1 H1 vs ds o Q sat1.fh (psqs_of sat1.fh q) hz fun v F' H' x ⟨fo, ow, nd, fresh⟩ => ?_
    obtain ⟨F2, x2, q2⟩ := x.freeze ow fresh
    exact h1 v F2 H' fp1 (StepS.of_ext x2 fp1) (sat1.ext x2) q2
theorem xf_tuple {e : Expr} {p : Pos} {f : Ev → R (List D × Ev)} (hg : Gl X "tuple") (hm : X.mg "tuple" = none) (ha : DXA X [e] f) (he : starEach [e] X.env = (false, eval e X.env) :: starEach [] X.env := by rfl) : DXF X (.Call (.Name "tuple" p) [e] [] pos) (xCa gTuple f) := by
  obtain ⟨t, pa, s⟩ := ha
  exact ⟨_, pe_callTy call_tuple_of hg hm (by decide +kernel) pa (by decide) (by decide) he rfl, xca_sm caG_tuple s⟩

/-! ### a def that changes the list that it is handed first -/
def runK (k : Nat) (f : Ev → SR) (ds : List D) : R Ow := match ds with
  | .list dk :: ds => match f (some (.l (dk.map Ow.d)) :: envOf k ds) with
    | .rt (.d r) env => match lstAt 0 env with
      | some dk' => .ok (.d (.tuple [r, .list dk']))
      | none => .no
    | _ => .no
  | _ => .no
end
section
variable {P : Program} {w : World} {K : PySem.W.Frag} {mg : Str → Option Value} {base : Heap}
theorem mk_fnK {x qual : Str} {st : Stmt} {f : Addr} {fd : FuncData} {N ps : List Str} {k l n : Nat} {fb : Ev → SR} {m : List D → R Ow} (F : Fun K x qual st f fd) (S : FnScope N ps (defScope st)) (hl : N.length = ps.length + l) (hn : ps.length = n + 1) (hm : ∀ ds, m ds = runK l fb ds)
    (hb : ∀ (cdv : Value) (A : Around) (outer : List Env) (s : Shared) (H : Hp) (E : XK), Room k (A.deeper (PyProof.Rows.envOfC qual (defScope st) s.heap.objs.size f cdv)) →
      DSs (cxOf (L2.CX P w) P w K mg base N qual (defScope st) f cdv A outer s H E) (fun cls d _ H => E cls d H) (fun j => j != 0) (defBody st) fb) : FnOk P w K mg base (L2.CX P w) (k + 1) f fd ps (spK K n m) := by
  refine F.okX S (fun vs H Q E h => by rw [spK_len h, hn]) (fun cdv A outer s H vs Q E hr h => ?_)
  obtain ⟨t, p, sm⟩ := hb cdv A outer s H E hr
  refine ⟨t, p, ?_⟩
  have hlen := spK_len h
  obtain ⟨F0, a, xs, ws, dk, ds, s1, rfl, s2, s3, s4, s5, s6, s7⟩ := h
  have e0 : start N (V.ref a :: ws) = some (V.ref a) :: (ws.map some ++ List.replicate l none) := by
    show (V.ref a :: ws).map some ++ List.replicate (N.length - (V.ref a :: ws).length) none = _
    rw [hl, hlen, hn, Nat.add_sub_cancel_left]
    rfl
  rw [e0]
  have sat : Sat K F0 H (some (V.ref a) :: (ws.map some ++ List.replicate l none)) (some (.l (dk.map Ow.d)) :: envOf l ds) [a] := ⟨s1, .som (fp := [a]) (.l s2 s3 (OwnAll.of_dp s4)) (env_start l s5), by simp⟩
  rw [hm] at s7
  unfold runK at s7
  simp only at s7
  refine sm F0 H _ _ [a] _ sat ?_
  cases e : fb (some (.l (dk.map Ow.d)) :: envOf l ds) with
  | no => rw [e] at s7; exact s7.elim
  | bk env => rw [e] at s7; exact s7.elim
  | ct env => rw [e] at s7; exact s7.elim
  | nx env => rw [e] at s7; exact s7.elim
  | ex c env => rw [e] at s7; exact s7.elim
  | rt r env =>
    rw [e] at s7
    cases r with
    | l os => exact s7.elim
    | d r =>
    simp only at s7
    intro v σ' F' H' fx fp' off st sat' ow nd
    cases el : lstAt 0 env with
    | none => rw [el] at s7; exact s7.elim
    | some dk' =>
    rw [el] at s7
    obtain ⟨a', vs', b1, b2, b3, b4, _⟩ := sat'.chg (lstAt_eq el)
    have o0 := off 0 rfl
    rw [b1] at o0
    simp at o0
    subst o0
    cases ow with
    | d q => exact s7 v F' H' vs' ⟨st.ff, st.fr, st.fn, fun b hb => .inl hb⟩ sat'.fh b2 b3 b4 q
end
end Mir
end
set_option Elab.async false
set_option linter.all false
set_option maxRecDepth 100000
set_option maxHeartbeats 4000000
noncomputable section
namespace RT
open PySem PySem.Spec PyProof.Rows
/-! ### list(reversed(list)) -/
section
variable {prog : Program} {w : World} {A : Around} {E : Value → Shared → Prop} {s : Shared}
theorem init_rev {it l S : Addr} {items : Array Value} {R : Result → Shared → Prop} (hh : A.handled = none) (hit : s.heap.IsRevIter it l ((items.size : Int) - 1)) (hl : s.heap.IsList l items) (hne : l ≠ it) (hn : items.size ≤ sizeLine) (hSi : S ≠ it) (hSl : S ≠ l)
    (hS : s.heap.get? S = some { cls := .type "list", data := .seq #[] })
    (hQ : ∀ (h' : Heap) (tk : Nat) (acc : Array Value) (c : Nat), (∀ b o, b ≠ it → b ≠ S → s.heap.get? b = some o → h'.get? b = some o) → h'.get? S = some { cls := .type "list", dict := none, data := .seq acc c, slots := #[] } → ItemsOf (fun i v => items[items.size - 1 - i]? = some v) acc items.size → R (.ok (.ret .none)) { s with heap := h', toks := tk }) :
    wpAny (model prog w) A.in1 (Builtin.«list.__init__» ⟨[.ref S, .ref it], []⟩)
      (fun fin s' => match fin with | .done f => R (.ok f) s' | .again c' => c'.quiet = true ∧ codeAny (model prog w) A c' R s') (fun e s' => R (.error e) s') s := by
  have W := (Walks.listRev (prog := prog) (w := w) (A := A.in1) hh it l hne items).toS
  have hSf : S ∉ [it, l] := by simp only [List.mem_cons, List.not_mem_nil, or_false, not_or]; exact ⟨hSi, hSl⟩
  show wpAny _ A.in1 (do let old ← Builtin.List.listItems (.ref S); Builtin.List.listUpdate (.ref S) (fun _ => #[]); letGo old.toList.reverse; Builtin.List.listExtendWith (.ref S) (.ref it) .none) _ _ s
  refine wpAny_bind ?_
  unfold Builtin.List.listItems
  refine wpAny_bind (wpAny_seqItems hS rfl (wpAny_pure ?_))
  show wpAny _ A.in1 (updateSeq S (fun _ => #[]) >>= fun _ => letGo (#[] : Array Value).toList.reverse >>= fun _ => Builtin.List.listExtendWith (.ref S) (.ref it) .none) _ _ s
  refine wpAny_bind (wpAny_updateSeq hS rfl ?_)
  have hS₂ := Heap.get?_update_self (Obj.mapSeq (fun _ => (#[] : Array Value))) hS rfl
  have oth : ∀ b o, b ≠ S → s.heap.get? b = some o → (s.heap.update S (Obj.mapSeq (fun _ => (#[] : Array Value)))).get? b = some o :=
    fun b o hb e => (Heap.get?_update_other _ _ (Ne.symm hb)).trans e
  refine wpAny_bind (wpAny_letGo ?_)
  have hit1 : (s.heap.update S (Obj.mapSeq (fun _ => (#[] : Array Value)))).IsRevIter it l ((items.size : Int) - 1) := hit.at fun o e => oth it o (Ne.symm hSi) e
  have hl1 : (s.heap.update S (Obj.mapSeq (fun _ => (#[] : Array Value)))).IsList l items := by
    obtain ⟨o, ho, r⟩ := hl
    exact ⟨o, oth l o (Ne.symm hSl) ho, r⟩
  have hT : ({ s with heap := s.heap.update S (Obj.mapSeq (fun _ => (#[] : Array Value))) } : Shared).TypeIs (.ref it) "list_reverseiterator" := Heap.IsRevIter.typeIs (s := { s with heap := s.heap.update S (Obj.mapSeq (fun _ => (#[] : Array Value))) }) hit1
  have h1 : Builtin.List.listSameRef (.ref S) (.ref it) = false := by simp [Builtin.List.listSameRef, hSi]
  unfold Builtin.List.listExtendWith
  refine wpAny_bind (wpAny_typeOf hT ?_)
  rw [if_neg (by rw [h1]; decide)]
  refine wpAny_bind (wpAny_pyIter_revIter (s := { s with heap := s.heap.update S (Obj.mapSeq (fun _ => (#[] : Array Value))) }) hit1 ?_)
  refine wpAny_bind (wpAny_holding ?_)
  unfold Builtin.List.listLengthHint
  refine wpAny_bind (wpAny_specialOf hT nolen_lri ?_)
  show wpAny _ A.in1 (specialOf (Value.ref it) (Str.ofString "__length_hint__") >>= _) _ _ _
  refine wpAny_bind (wpAny_specialOf hT hint_lri ?_)
  generalize hid : ("list_reverseiterator.__length_hint__" : String) = id0
  wp_delta
  rw [show splitId id0 = some ("list_reverseiterator", "__length_hint__") from by subst hid; decide +kernel]
  subst hid
  refine wpAny_bind (wpAny_isInstance (b := true) hT (by rw [isSubtype_type]; kernel_rfl) ?_)
  refine wpAny_pure ?_
  rw [if_neg (by decide)]
  have e0 : ((items.size : Nat) : Int) - 1 - ((0 : Nat) : Int) = (items.size : Int) - 1 := by omega
  refine wpAny_pure ⟨plainId_quiet F.plain_extend_loop _, codeAny_extend_loopS W hn _ hSf _ items.size 0 _ _ _ rfl (Nat.zero_le _) ⟨Nat.zero_le _, by rw [e0]; exact hit1, hl1⟩ hS₂ (ItemsOf.nil _) fun s' acc' c' hm hS' hacc => ?_⟩
  rw [Moved.eq_with hm]
  refine hQ s'.heap s'.toks acc' c' (fun b o hb hb2 e => hm.heap b o (fun hmem => ?_) (oth b o hb2 e)) hS' hacc
  rcases List.mem_cons.mp hmem with e' | hmem
  · exact hb2 e'
  · exact hb (List.mem_singleton.mp hmem)
theorem call_list_rev {it l : Addr} {items : Array Value} {Q : Value → Shared → Prop} (hh : A.handled = none) (hit : s.heap.IsRevIter it l ((items.size : Int) - 1)) (hl : s.heap.IsList l items) (hne : l ≠ it) (hn : items.size ≤ sizeLine)
    (hQ : ∀ (h' : Heap) (tk : Nat) (acc : Array Value) (c : Nat), (∀ b o, b ≠ it → s.heap.get? b = some o → h'.get? b = some o) → h'.get? s.heap.objs.size = some { cls := .type "list", dict := none, data := .seq acc c, slots := #[] } → ItemsOf (fun i v => items[items.size - 1 - i]? = some v) acc items.size →
      Q (.ref s.heap.objs.size) { s with heap := h', toks := tk }) :
    wpAny (model prog w) A (call (.type "list") [.ref it]) Q E s := by
  obtain ⟨oi, hoi, _⟩ := id hit
  obtain ⟨ol, hol, _⟩ := id hl
  have hSi : s.heap.objs.size ≠ it := Nat.ne_of_gt (Heap.lt_size hoi)
  have hSl : s.heap.objs.size ≠ l := Nat.ne_of_gt (Heap.lt_size hol)
  refine callType_codes (Q₁ := fun obj s₁ => obj = .ref s.heap.objs.size ∧ s₁ = { s with heap := s.heap.push { cls := .type "list", data := .seq #[] } }) F.called_list (F.typeCall_list_1 _) F.entry_list_init
    (code_list_new _ ⟨rfl, rfl⟩) fun obj s₁ h₁ => ?_
  obtain ⟨rfl, rfl⟩ := h₁
  have hS : (s.heap.push { cls := .type "list", data := .seq #[] }).get? s.heap.objs.size = some { cls := .type "list", data := .seq #[] } := Heap.get?_push_size _ rfl
  refine ⟨⟨_, hS, rfl⟩, F.args_list_init_2 _ _, init_rev (A := A.in1) hh (hit.at fun o e => Heap.get?_push_of_some _ e) (hl.push _) hne hn hSi hSl hS fun h' tk acc c hk hS' hacc => ?_⟩
  exact ⟨rfl, hQ h' tk acc c (fun b o hb e => hk b o hb (fun z => absurd (Heap.lt_size e) (by rw [z]; exact Nat.lt_irrefl _)) (Heap.get?_push_of_some _ e)) hS' hacc⟩
end
end RT
namespace Mir
open PySem PySem.Spec PyProof.Rows L2 RT
def tListRev (K : PySem.W.Frag) (te : TE) : TE := fun σ H Q => te σ H fun v H1 => ∃ (a : Addr) (xs : List V), v = .ref a ∧ SqL K H1 a xs ∧ ∀ q, H1 q = none → Q (.ref q) (upd H1 q (.lst xs.reverse))
section
variable {X : Cx} {W : WX}
theorem pe_listRev {e : Expr} {te : TE} {p p2 pos pos2 : Pos} (hc : X.calm = true) (hg : Gl X "list") (hm : X.mg "list" = none) (hg2 : Gl X "reversed") (hm2 : X.mg "reversed" = none) (he : PE X e te)
    (hs : starEach [e] X.env = (false, eval e X.env) :: starEach [] X.env := by rfl)
    (hs2 : starEach [.Call (.Name "reversed" p2) [e] [] pos2] X.env = (false, eval (.Call (.Name "reversed" p2) [e] [] pos2) X.env) :: starEach [] X.env := by rfl) :
    PE X (.Call (.Name "list" p) [.Call (.Name "reversed" p2) [e] [] pos2] [] pos) (tListRev X.K te) := by
  refine ⟨fun pins s σ H Q I h => ?_⟩
  refine Call_ (ld_blt I hg hm boot_list (PyProof.Rows.callWith_type1 (args_cons (Call_ (ld_blt I hg2 hm2 PyProof.Rows.boot_reversed (PyProof.Rows.callWith_type1 (args_cons (thn (he.run pins s σ H _ I h) fun u s1 ⟨v, H1, I1, r1, q1⟩ => args_nil ?_) hs) hs rfl))) hs2) hs2 rfl))
  obtain ⟨a, xs, ev, hq, q⟩ := q1
  subst ev
  obtain rfl : u = Value.ref a := r1
  obtain ⟨its, rv, p', hz⟩ := I1.list hq
  refine call_reversed_list p'.isList (args_nil ?_)
  have k0 : ∀ b o, s1.heap.get? b = some o → (s1.heap.push (revObj a ((its.toArray.size : Int) - 1))).get? b = some o := fun b o e => Heap.get?_push_of_some _ e
  have I2 : Inv X pins σ H1 { s1 with heap := s1.heap.push (revObj a ((its.toArray.size : Int) - 1)) } := I1.kept (t' := s1.toks) k0
  obtain ⟨f0, f1, f2, f3, f4, f5⟩ := I1.fpOk (H' := H1) (b := s1.heap.objs.size) (Nat.le_refl _) (I1.hok.fresh (Nat.le_refl _))
  have hl := p'.isList
  obtain ⟨ol, hol, _⟩ := id hl
  have hne : a ≠ s1.heap.objs.size := Nat.ne_of_lt (Heap.lt_size hol)
  have hn : its.toArray.size ≤ sizeLine := by rw [List.size_toArray, ← rv.length]; exact hz
  refine call_list_rev (s := { s1 with heap := s1.heap.push (revObj a ((its.toArray.size : Int) - 1)) }) (I1.ok.hd hc) ⟨_, Heap.get?_push_size _ rfl, rfl, rfl⟩ (hl.push _) hne hn fun h' tk acc c hk hS hi => ?_
  have FP : FpOk X pins H1 s1.heap.objs.size := I1.fpOk (Nat.le_refl _) (I1.hok.fresh (Nat.le_refl _))
  refine ⟨.ref (s1.heap.push (revObj a ((its.toArray.size : Int) - 1))).objs.size, upd H1 (s1.heap.push (revObj a ((its.toArray.size : Int) - 1))).objs.size (.lst xs.reverse), I2.turnedNew (t' := tk) (ch := [s1.heap.objs.size]) (fun b o hb e => hk b o (fun z => hb (by simp [z])) e) (fun b hb => by rw [List.mem_singleton.mp hb]; exact FP) (Nat.le_refl _) ?_, rfl, q _ (I2.hok.fresh (Nat.le_refl _))⟩
  exact ⟨by rw [List.length_reverse]; exact hz, acc.toList, c, vals_rev rv hi, by rw [Array.toArray_toList]; exact hS⟩
def gListRev : D → Option Ow
  | .list ds => some (.l (ds.reverse.map Ow.d))
  | _ => none
@[simp] theorem gListRev_list (ds : List D) : gListRev (.list ds) = some (.l (ds.reverse.map Ow.d)) := rfl
theorem DpAll.reverse {K : PySem.W.Frag} {H : Hp} : ∀ {ds : List D} {vs : List V}, DpAll K H vs ds → DpAll K H vs.reverse ds.reverse
  | [], _, h => by cases h; exact .nil
  | d :: ds, _, h => by
    cases h with
    | cons h1 h2 =>
      rw [List.reverse_cons, List.reverse_cons]
      exact Mir.DpAll.append (DpAll.reverse h2) (.cons h1 .nil)
def eListRev (f : Ev → R D) (env : Ev) : R Ow := (f env).bind fun d => R.of (gListRev d)
@[simp] theorem eListRev_eq (f : Ev → R D) (env : Ev) : eListRev f env = (f env).bind fun d => R.of (gListRev d) := rfl
theorem de_listRev {e : Expr} {p p2 pos pos2 : Pos} {f : Ev → R D} (hc : X.calm = true) (hg : Gl X "list") (hm : X.mg "list" = none) (hg2 : Gl X "reversed") (hm2 : X.mg "reversed" = none) (he : DL X W e f)
    (hs : starEach [e] X.env = (false, eval e X.env) :: starEach [] X.env := by rfl)
    (hs2 : starEach [.Call (.Name "reversed" p2) [e] [] pos2] X.env = (false, eval (.Call (.Name "reversed" p2) [e] [] pos2) X.env) :: starEach [] X.env := by rfl) :
    DE X W (.Call (.Name "list" p) [.Call (.Name "reversed" p2) [e] [] pos2] [] pos) (eListRev f) := by
  obtain ⟨t, pe, s⟩ := he
  refine ⟨_, pe_listRev hc hg hm hg2 hm2 pe hs hs2, fun F H σ env fp Q sat hp => ?_⟩
  refine s.go sat hp fun d v F1 H1 sat1 q _ h1 => ?_
  obtain ⟨o, ho, h2⟩ := post_of h1
  cases d with
  | list ds =>
    cases ho
    obtain ⟨a, vs, rfl, q1, q2⟩ := q
    refine ⟨a, vs, rfl, q1, fun b hb => ?_⟩
    exact h2 _ _ _ (Ext.own sat1.fh hb _) ⟨[b], .l (free_of sat1.fh hb) upd_same (OwnAll.of_dp (DpAll.reverse q2)), by simp, by simpa using hb⟩
  | _ => cases ho
end
end Mir
end
set_option Elab.async false
set_option linter.all false
set_option maxRecDepth 100000
set_option maxHeartbeats 4000000
noncomputable section
namespace Mir
open PySem PySem.Spec PyProof.Rows L2
/-! ### a text so many times -/
def repS (z : Str) (n : Nat) : Str := ⟨(List.replicate n z.cps.toList).flatten.toArray⟩
theorem foldl_rep (a : Array Nat) : ∀ (n : Nat) (b : Array Nat), ((List.replicate n a).foldl (· ++ ·) b) = ⟨b.toList ++ (List.replicate n a.toList).flatten⟩
  | 0, b => by simp
  | n + 1, b => by
    rw [List.replicate_succ, List.foldl_cons, foldl_rep a n, List.replicate_succ, List.flatten_cons]
    simp
section
variable {X : Cx} {W : WX} {a b : Expr} {pos : Pos} {f g : Ev → R D}
theorem op_mul_strN : OpR X (binaryOp .Mult) (fun x y H Q => ∃ (z : Str) (n : Nat), x = .str z ∧ y = .int (n : Int) ∧ 1 ≤ n ∧ n ≤ 1000000 ∧ z.length * n ≤ sizeLine ∧ Q (.str (repS z n)) H) := by
  intro pins s σ H x y v u Q I rx ry h
  obtain ⟨z, n, rfl, rfl, h1, hn, hz, q⟩ := h
  obtain ⟨t, rfl⟩ := rx
  obtain ⟨t', rfl⟩ := ry
  have s0 : sizeLine = 16777216 := sizeLine_eq
  refine PySem.P.mul_str ?_ (fun _ _ => ?_) (fun _ _ => ?_) ?_
  · rw [decide_eq_false (by omega), decide_eq_false (by omega)]; rfl
  · rw [Int.not_lt]
    refine Int.le_ediv_of_mul_le (by omega) ?_
    have : ((z.length * n : Nat) : Int) ≤ 16777216 := by omega
    rw [Int.natCast_mul] at this
    omega
  · unfold Builtin.Str.tooLong
    rw [Int.toNat_natCast]
    exact decide_eq_false (by omega)
  · rw [if_neg (by omega)]
    have e1 : (⟨(List.replicate (n : Int).toNat z.cps).foldl (· ++ ·) #[]⟩ : Str) = repS z n := by
      rw [foldl_rep, Int.toNat_natCast]
      unfold repS
      simp
    split
    · rename_i c
      have ez : repS z n = z := by
        unfold repS
        simp only [Bool.or_eq_true, beq_iff_eq] at c
        rcases c with c | c
        · have : n = 1 := by omega
          subst this
          simp
        · have : z.cps.toList = [] := by
            have : z.cps.size = 0 := c
            simpa using this
          rw [this]
          cases z with
          | mk a => simp at this ⊢; subst this; simp
      rw [ez] at q
      exact ⟨.str z, H, I, ⟨_, rfl⟩, q⟩
    · rw [e1]
      refine ⟨?_, ⟨.str (repS z n), H, I.tok _, ⟨_, rfl⟩, q⟩⟩
      have : (repS z n).length = n * z.length := by
        show (repS z n).cps.size = n * z.cps.size
        unfold repS
        simp
      rw [this, Nat.mul_comm]
      exact hz
def gMulS : D → D → Option D
  | .int i, .int j => gMul (.int i) (.int j)
  | .str z, .int n => if 1 ≤ n ∧ n ≤ 1000000 ∧ z.length * n.toNat ≤ sizeLine then some (.str (repS z n.toNat)) else none
  | _, _ => none
@[simp] theorem gMulS_int (i j : Int) : gMulS (.int i) (.int j) = gMul (.int i) (.int j) := rfl
theorem gMulS_str {z : Str} {n : Nat} (h : 1 ≤ n) (h2 : n ≤ 1000000) (h3 : z.length * n ≤ sizeLine) : gMulS (.str z) (.int (n : Int)) = some (.str (repS z n)) := if_pos ⟨by omega, by omega, by rw [Int.toNat_natCast]; exact h3⟩
theorem opS_mulS {K : PySem.W.Frag} : OpS K (fun x y H Q => rI (fun i j => CMul i j ∨ CMulW i j) (fun i j => .int (i * j)) x y H Q ∨ ∃ (z : Str) (n : Nat), x = .str z ∧ y = .int (n : Int) ∧ 1 ≤ n ∧ n ≤ 1000000 ∧ z.length * n ≤ sizeLine ∧ Q (.str (repS z n)) H) gMulS := by
  intro H x y dx dy d Q hx hy e q
  unfold gMulS at e
  split at e
  · exact .inl (opS_I H x y _ _ d Q hx hy e q)
  · split at e
    · rename_i z n c
      cases e
      cases dp_str hx
      cases dp_int hy
      refine .inr ⟨z, n.toNat, rfl, by rw [Int.toNat_of_nonneg (by omega)], by omega, by omega, c.2.2, q _ fun F => .str _⟩
    · cases e
  · cases e
theorem op_mulSV : OpR X (binaryOp .Mult) (fun x y H Q => rI (fun i j => CMul i j ∨ CMulW i j) (fun i j => .int (i * j)) x y H Q ∨ ∃ (z : Str) (n : Nat), x = .str z ∧ y = .int (n : Int) ∧ 1 ≤ n ∧ n ≤ 1000000 ∧ z.length * n ≤ sizeLine ∧ Q (.str (repS z n)) H) := OpR.or op_mulV op_mul_strN
theorem df_mulS (ha : DV X W a f) (hb : DV X W b g) : DF X W (.BinOp a .Mult b pos) (eBin gMulS f g) := df_bin op_mulSV opS_mulS ha hb

/-! ### is True, is not True (of truth values) -/
theorem op_isB : OpR X (compareOp .Is) (fun x y H Q => ∃ p q, x = .bl p ∧ y = .bl q ∧ Q (.bl (p == q)) H) := by
  intro pins s σ H x y v u Q I rx ry h
  obtain ⟨p, r, rfl, rfl, q⟩ := h
  cases rx
  cases ry
  exact wpAny_is_plain rfl (fin_bl I q (by cases p <;> cases r <;> rfl))
theorem op_notB : OpR X (compareOp .IsNot) (fun x y H Q => ∃ p q, x = .bl p ∧ y = .bl q ∧ Q (.bl (!(p == q))) H) := by
  intro pins s σ H x y v u Q I rx ry h
  obtain ⟨p, r, rfl, rfl, q⟩ := h
  cases rx
  cases ry
  exact wpAny_isNot_plain rfl (fin_bl I q (by cases p <;> cases r <;> rfl))
def gIsB : D → D → Option D
  | .bool p, .bool q => some (.bool (p == q))
  | _, _ => none
def gNotB : D → D → Option D
  | .bool p, .bool q => some (.bool (!(p == q)))
  | _, _ => none
@[simp] theorem gIsB_bool (p q : Bool) : gIsB (.bool p) (.bool q) = some (.bool (p == q)) := rfl
@[simp] theorem gNotB_bool (p q : Bool) : gNotB (.bool p) (.bool q) = some (.bool (!(p == q))) := rfl
theorem opS_isB {K : PySem.W.Frag} : OpS K (fun x y H Q => ∃ p q, x = .bl p ∧ y = .bl q ∧ Q (.bl (p == q)) H) gIsB := by
  intro H x y dx dy d Q hx hy e q
  unfold gIsB at e
  split at e
  · cases e
    cases dp_bool hx
    cases dp_bool hy
    exact ⟨_, _, rfl, rfl, q _ fun F => .bl _⟩
  · cases e
theorem opS_notB {K : PySem.W.Frag} : OpS K (fun x y H Q => ∃ p q, x = .bl p ∧ y = .bl q ∧ Q (.bl (!(p == q))) H) gNotB := by
  intro H x y dx dy d Q hx hy e q
  unfold gNotB at e
  split at e
  · cases e
    cases dp_bool hx
    cases dp_bool hy
    exact ⟨_, _, rfl, rfl, q _ fun F => .bl _⟩
  · cases e
theorem df_isB (ha : DV X W a f) (hb : DV X W b g) : DF X W (.Compare a [.Is] [b] pos) (eBin gIsB f g) := df_cmp op_isB opS_isB ha hb
theorem df_notB (ha : DV X W a f) (hb : DV X W b g) : DF X W (.Compare a [.IsNot] [b] pos) (eBin gNotB f g) := df_cmp op_notB opS_notB ha hb
theorem dt_isB (ha : DV X W a f) (hb : DV X W b g) : DT X W (.Compare a [.Is] [b] pos) (eB (eBin gIsB f g) asB) := dt_cmp op_isB opS_isB ha hb
theorem dt_notB (ha : DV X W a f) (hb : DV X W b g) : DT X W (.Compare a [.IsNot] [b] pos) (eB (eBin gNotB f g) asB) := dt_cmp op_notB opS_notB ha hb
/-! stateful forms of the operators -/
section
variable {F G : Ev → R (D × Ev)}
theorem xf_add_int (ha : DXF X a F) (hb : DXF X b G) : DXF X (.BinOp a .Add b pos) (xBin (gI0 fun i j => i + j) F G) := xf_bin op_add opS_I0 ha hb
theorem xf_sub (ha : DXF X a F) (hb : DXF X b G) : DXF X (.BinOp a .Sub b pos) (xBin gSub F G) := xf_bin op_sub opS_I0 ha hb
theorem xf_mul (ha : DXF X a F) (hb : DXF X b G) : DXF X (.BinOp a .Mult b pos) (xBin gMul F G) := xf_bin op_mulV opS_I ha hb
theorem xf_div (ha : DXF X a F) (hb : DXF X b G) : DXF X (.BinOp a .FloorDiv b pos) (xBin gDiv F G) := xf_bin op_fdivW opS_I ha hb
theorem xf_mod (ha : DXF X a F) (hb : DXF X b G) : DXF X (.BinOp a .Mod b pos) (xBin gMod F G) := xf_bin op_mod opS_I ha hb
theorem xf_lt (ha : DXF X a F) (hb : DXF X b G) : DXF X (.Compare a [.Lt] [b] pos) (xBin gLt F G) := xf_cmp op_lt opS_IB ha hb
theorem xf_le (ha : DXF X a F) (hb : DXF X b G) : DXF X (.Compare a [.LtE] [b] pos) (xBin gLe F G) := xf_cmp op_le opS_IB ha hb
theorem xf_gt (ha : DXF X a F) (hb : DXF X b G) : DXF X (.Compare a [.Gt] [b] pos) (xBin gGt F G) := xf_cmp op_gt opS_IB ha hb
theorem xf_eq (hu : X.A.units + 140 < cLine) (ha : DXF X a F) (hb : DXF X b G) : DXF X (.Compare a [.Eq] [b] pos) (xBin gEq F G) := xf_cmp (OpR.or op_eq (op_eqA hu)) opS_eq ha hb
theorem xf_ne (hu : X.A.units + 140 < cLine) (ha : DXF X a F) (hb : DXF X b G) : DXF X (.Compare a [.NotEq] [b] pos) (xBin gNe F G) := xf_cmp (OpR.or op_ne (op_neA hu)) opS_ne ha hb
theorem xf_ge (ha : DXF X a F) (hb : DXF X b G) : DXF X (.Compare a [.GtE] [b] pos) (xBin gGe F G) := xf_cmp op_ge opS_IB ha hb
end
end
end Mir
end
set_option Elab.async false
set_option linter.all false
set_option maxRecDepth 100000
set_option maxHeartbeats 4000000
noncomputable section
namespace Mir
open PySem PySem.Spec L2
section
variable {X : Cx} {W : WX} {S : Nat → Bool} {pos : Pos}
/-- a target stored from an expression that changes own lists -/
def sXAsg (g : D → Ev → Option Ev) (f : Ev → R (D × Ev)) (env : Ev) : SR := match f env with
  | .ok (d, env1) => match g d env1 with
    | some env2 => .nx env2
    | none => .no
  | _ => .no
theorem ds_xasg {e : Expr} {f : Ev → R (D × Ev)} {g : D → Ev → Option Ev} {tg : Expr} {ix : List Nat} (he : DXF X e f) (hg : DG X tg ix g) (hs : swapsWithSole [tg] e pos.line X.env = pure false := by rfl) (hw : swappedStores [tg] e X.env = pure none := by rfl)
    (h1 : (assignEach [tg] X.env).map (·.2) = [assign tg X.env] := by rfl) (hS : ix.all S = true := by rfl) : DS X W S (.Assign [tg] e pos) (sXAsg g f) := by
  obtain ⟨t, p, s⟩ := he
  refine ⟨_, ps_asg p hg hs hw h1, fun F H σ env fp D sat h => ?_⟩
  refine s F H σ env fp _ sat ?_
  unfold sXAsg at h
  cases e : f env with
  | no => rw [e] at h; exact h
  | ex c => rw [e] at h; exact h
  | ok pr =>
    obtain ⟨d, env1⟩ := pr
    rw [e] at h
    intro v F1 H1 fp1 st sat1 q
    have h' : PostS X W S σ F H fp D (match g d env1 with
      | some env2 => .nx env2
      | none => .no) := h
    split at h'
    · rename_i env2 e2
      exact ⟨F1, env1, fp1, d, env2, sat1, q, e2, fun σ' fp' sat' sub off => h' σ' F1 H1 fp' (.of off hS) (st.subset sub) sat'⟩
    · exact h'.elim
end
/-! ### a def called with lists as they stand: what it tells must be flat -/
def flatD : D → Bool
  | .none => true
  | .bool _ => true
  | .int _ => true
  | .str _ => true
  | _ => false
theorem flat_dp {K : PySem.W.Frag} {H H' : Hp} {v : V} {d : D} (h : Dp K H v d) (f : flatD d = true) : Dp K H' v d := by
  cases d with
  | none => rw [dp_none h]; exact .non
  | bool b => rw [dp_bool h]; exact .bl b
  | int b => rw [dp_int h]; exact .int b
  | str b => rw [dp_str h]; exact .str b
  | list ds => cases f
  | tuple ds => cases f
  | dict ds => cases f
def flatR : R Ow → R D
  | .ok (.d x) => if flatD x = true then .ok x else .no
  | .ex c => .ex c
  | _ => .no
def eCallV (m : List D → R Ow) (fa : Ev → R (List D)) (env : Ev) : R D := (fa env).bind fun ds => flatR (m ds)
@[simp] theorem eCallV_eq (m : List D → R Ow) (fa : Ev → R (List D)) (env : Ev) : eCallV m fa env = (fa env).bind fun ds => flatR (m ds) := rfl
@[simp] theorem flatR_bool (b : Bool) : flatR (.ok (.d (.bool b))) = .ok (.bool b) := rfl
@[simp] theorem flatR_int (b : Int) : flatR (.ok (.d (.int b))) = .ok (.int b) := rfl
@[simp] theorem flatR_none : flatR (.ok (.d .none)) = .ok .none := rfl
section
variable {X : Cx} {W : WX} {e : Expr} {es : List Expr} {pos p : Pos}
theorem df_callV {k n : Nat} {f : Addr} {fd : FuncData} {ps : List Str} {x : Str} {m : List D → R Ow} {fa : Ev → R (List D)} (F : FnOk X.prog X.w X.K X.mg X.base (L2.CX X.prog X.w) k f fd ps (spM X.K X.mg n m)) (tk : Takes X W) (hr : Room k X.A) (hg : Gl X x) (hm : X.mg x = some (.ref f))
    (hk : PySem.W.keepIn X.K (.ref f) = true) (hb : Binds X.K fd ps []) (ha : DAv X W (e :: es) fa) (hn : ∀ ds env, fa env = .ok ds → ds.length = n)
    (hdb : (x == ("__debug__" : Str)) = false := by decide) (he : starEach (e :: es) X.env = (false, eval e X.env) :: starEach es X.env := by rfl) (hpl : (backTo pos (starEach es X.env)).any (·.1) = false := by rfl) :
    DF X W (.Call (.Name x p) (e :: es) [] pos) (eCallV m fa) := by
  obtain ⟨t, pa, s⟩ := ha
  refine ⟨_, pe_callS F hr hg hm hk hb (fun σ => passAt tk σ) pa hdb he hpl, fun F0 H σ env fp Q sat hp => ?_⟩
  refine s.choose sat hp (fun z => z _) fun ds ed k => k _ fun vs F1 H1 sat1 q _ h1 => ?_
  refine ⟨H1, ds, Same.refl _, q, hn ds env ed, ?_⟩
  have back : ∀ {F' H' : Hp}, Ext H1 H1 F' H' → Ext F1 H1 F1 H' := fun x => ⟨Same.refl _, x.hh, fun b o e => .inl e, sat1.fh.trans x.hh⟩
  cases em : m ds with
  | no => rw [em] at h1; exact h1
  | ex c =>
    rw [em] at h1
    have h1 : ∀ C F' H', X.mg c = some (.ref C) → Ext F1 H1 F' H' → W (.ref C) none σ H' := h1
    exact fun C F' H' mc x => h1 C F1 H' mc (back x)
  | ok r =>
    rw [em] at h1
    cases r with
    | l os => exact h1.elim
    | d y =>
      by_cases c : flatD y = true
      · have e1 : flatR (.ok (.d y)) = .ok y := if_pos c
        rw [e1] at h1
        have h1 : ∀ v F' H', Ext F1 H1 F' H' → Dp X.K F' v y → Q v H' := h1
        intro v F' H' x ⟨fo, ow, _⟩
        cases ow with
        | d q => exact h1 v F1 H' (back x) (flat_dp q c)
      · have e1 : flatR (.ok (.d y)) = .no := if_neg c
        rw [e1] at h1
        exact h1.elim
end
/-- what a def that changes the list handed first tells -/
def finK : SR → R Ow
  | .rt (.d r) env => match lstAt 0 env with
    | some dk' => .ok (.d (.tuple [r, .list dk']))
    | none => .no
  | _ => .no
theorem runK_fin (k : Nat) (f : Ev → SR) (dk ds : List D) : runK k f (.list dk :: ds) = finK (f (some (.l (dk.map Ow.d)) :: envOf k ds)) := by
  unfold runK finK
  rfl
/-! rows for simp -/
section
variable (env : Ev)
theorem lstAt_of {i : Nat} {env : Ev} {dk : List D} (h : env[i]? = some (some (.l (dk.map Ow.d)))) : lstAt i env = some dk := by unfold lstAt; rw [h]; exact unDs_map dk
@[simp] theorem lstAt_0 (dk : List D) : lstAt 0 (some (.l (dk.map Ow.d)) :: env) = some dk := lstAt_of rfl
@[simp] theorem lstAt_0n : lstAt 0 (some (.l []) :: env) = some [] := rfl
@[simp] theorem lstAt_s (i : Nat) (x : Option Ow) : lstAt (i + 1) (x :: env) = lstAt i env := by unfold lstAt; rw [List.getElem?_cons_succ]
theorem finK_rt (r : D) (dk : List D) : finK (.rt (.d r) (some (.l (dk.map Ow.d)) :: env)) = .ok (.d (.tuple [r, .list dk]))  := by
  show (match lstAt 0 (some (.l (dk.map Ow.d)) :: env) with
    | some dk' => (.ok (.d (.tuple [r, .list dk'])) : R Ow)
    | none => .no) = _
  rw [lstAt_0]
@[simp] theorem xP_eq (f : Ev → R D) : xP f env = match f env with
  | .ok d => .ok (d, env)
  | _ => .no := rfl
@[simp] theorem xBin_eq (g : D → D → Option D) (f h : Ev → R (D × Ev)) : xBin g f h env = (f env).bind fun p => (h p.2).bind fun q => (R.of (g p.1 q.1)).bind fun d => .ok (d, q.2) := rfl
@[simp] theorem xNil_eq : xNil env = .ok ([], env) := rfl
@[simp] theorem xCons_eq (f : Ev → R (D × Ev)) (g : Ev → R (List D × Ev)) : xCons f g env = (f env).bind fun p => (g p.2).bind fun q => .ok (p.1 :: q.1, q.2) := rfl
@[simp] theorem xCall_eq (m : List D → R Ow) (fa : Ev → R (List D × Ev)) : xCall m fa env = (fa env).bind fun p => match m p.1 with
  | .ok r => .ok (viewD r, p.2)
  | _ => .no := rfl
@[simp] theorem xCa_eq (g : List D → Option Ow) (fa : Ev → R (List D × Ev)) : xCa g fa env = (fa env).bind fun p => match g p.1 with
  | some r => .ok (viewD r, p.2)
  | none => .no := rfl
@[simp] theorem sXSet_eq (i : Nat) (f : Ev → R (D × Ev)) : sXSet i f env = match f env with
  | .ok (d, env1) => if i < env1.length then .nx (env1.set i (some (.d d))) else .no
  | _ => .no := by unfold sXSet xSet; rfl
@[simp] theorem sXRet_eq (f : Ev → R (D × Ev)) : sXRet f env = match f env with
  | .ok (d, env1) => .rt (.d d) env1
  | _ => .no := rfl
@[simp] theorem sXAsg_eq (g : D → Ev → Option Ev) (f : Ev → R (D × Ev)) : sXAsg g f env = match f env with
  | .ok (d, env1) => match g d env1 with
    | some env2 => .nx env2
    | none => .no
  | _ => .no := rfl
/-- a deck's def called: what it tells, and the deck behind it -/
theorem xCallK_of {m : List D → R Ow} {i : Nat} {fa : Ev → R (List D × Ev)} {env env1 : Ev} {ds dk0 dk dk' : List D} {r : D} (h0 : env[i]? = some (some (.l (dk0.map Ow.d)))) (h1 : fa env = .ok (ds, env1)) (h2 : env1[i]? = some (some (.l (dk.map Ow.d)))) (h3 : m (.list dk :: ds) = .ok (.d (.tuple [r, .list dk']))) :
    xCallK m i fa env = .ok (r, env1.set i (some (.l (dk'.map Ow.d)))) := by
  unfold xCallK
  rw [lstAt_of h0]
  simp only [h1, R.bind_ok, lstAt_of h2, h3]
theorem xPop_of {i : Nat} {env : Ev} {dk : List D} {d : D} (h : env[i]? = some (some (.l ((dk ++ [d]).map Ow.d)))) : xPop i env = .ok (d, env.set i (some (.l (dk.map Ow.d)))) := by
  unfold xPop
  rw [lstAt_of h]
  simp
end
end Mir
end
set_option Elab.async false
set_option linter.all false
set_option maxRecDepth 100000
set_option maxHeartbeats 4000000
noncomputable section
namespace Mir
open PySem PySem.Spec PyProof.Rows L2
/-! ### sep.join(texts) -/
def strsD : List D → Option (List Str)
  | [] => some []
  | .str z :: ds => (strsD ds).map fun zs => z :: zs
  | _ :: _ => none
theorem strsD_map : ∀ zs : List Str, strsD (zs.map PyData.str) = some zs
  | [] => rfl
  | z :: zs => by rw [List.map_cons, strsD, strsD_map zs]; rfl
theorem strsD_dp {K : PySem.W.Frag} {F : Hp} : ∀ {ds : List D} {vs : List V} {zs : List Str}, DpAll K F vs ds → strsD ds = some zs → vs = zs.map V.str
  | [], vs, zs, h, e => by cases h; cases e; rfl
  | d :: ds, vs, zs, h, e => by
    cases h with
    | cons h1 h2 =>
      unfold strsD at e
      split at e
      · rename_i he; cases he
      · rename_i z ds' he
        cases he
        obtain ⟨ws, w1, rfl⟩ := Option.map_eq_some_iff.mp e
        rw [strsD_dp h2 w1, List.map_cons]
        cases dp_str h1
        rfl
      · cases e
def joinS (a : Str) (ys : List Str) : Option D := open Classical in if (ys.map (·.length)).sum + ys.length * a.length ≤ 16777216 then some (.str (Txt.join a ys)) else none
def gJoin : D → D → Option D
  | .str a, .list ds => (strsD ds).bind (joinS a)
  | .str a, .tuple ds => (strsD ds).bind (joinS a)
  | _, _ => none
theorem joinS_ok {a : Str} {ys : List Str} (h : (ys.map (·.length)).sum + ys.length * a.length ≤ 16777216) : joinS a ys = some (.str (Txt.join a ys)) := by
  unfold joinS
  rw [if_pos h]
theorem gJoin_list {a : Str} {ys : List Str} (h : (ys.map (·.length)).sum + ys.length * a.length ≤ 16777216) : gJoin (.str a) (.list (ys.map PyData.str)) = some (.str (Txt.join a ys)) := by
  show (strsD _).bind _ = _
  rw [strsD_map]
  exact joinS_ok h
theorem gJoin_tup {a : Str} {ys : List Str} (h : (ys.map (·.length)).sum + ys.length * a.length ≤ 16777216) : gJoin (.str a) (.tuple (ys.map PyData.str)) = some (.str (Txt.join a ys)) := by
  show (strsD _).bind _ = _
  rw [strsD_map]
  exact joinS_ok h
def eJoin (f g : Ev → R D) (env : Ev) : R D := (f env).bind fun d => match d with
  | .str z => (g env).bind fun d' => R.of (gJoin (.str z) d')
  | _ => .no
theorem eJoin_eq {f g : Ev → R D} {env : Ev} {a : Str} {d : D} (h : f env = .ok (.str a)) (h2 : g env = .ok d) : eJoin f g env = R.of (gJoin (.str a) d) := by
  unfold eJoin
  rw [h, R.bind_ok]
  simp only [h2, R.bind_ok]
section
variable {X : Cx} {W : WX} {o e : Expr} {apos pos : Pos} {f g : Ev → R D}
theorem joinS_some {a : Str} {ys : List Str} {d : D} (h : joinS a ys = some d) : (ys.map (·.length)).sum + ys.length * a.length ≤ 16777216 ∧ d = .str (Txt.join a ys) := by
  unfold joinS at h
  split at h
  · rename_i c
    exact ⟨c, (Option.some.inj h).symm⟩
  · cases h
theorem df_join (ho : DV X W o f) (he : DL X W e g)
    (hs : starEach [e] X.env = [(false, eval e X.env)] := by rfl)
    (hb : attributeBase o (Str.ofString "join") X.env (eval o X.env) = eval o X.env := by rfl)
    (hp : (apos.endLine == pos.line) = true := by rfl) : DF X W (.Call (.Attribute o "join" apos) [e] [] pos) (eJoin f g) := by
  obtain ⟨ta, pa, sa⟩ := ho
  obtain ⟨tb, pb, sb⟩ := he
  refine ⟨_, pe_join pa pb hs hb hp, fun F H σ env fp Q sat hp => ?_⟩
  refine sa.go sat hp fun d v F1 H1 sat1 q _ h1 => ?_
  have key : ∀ z, d = .str z → (∃ a, v = V.str a) := fun z hz => by subst hz; cases dp_str q; exact ⟨_, rfl⟩
  cases d with
  | str z =>
    refine ⟨key z rfl, ?_⟩
    cases dp_str q
    refine sb.go sat1 h1 fun d' v' F2 H2 sat2 q' x2 h2 => ?_
    obtain ⟨r, hr, h3⟩ := post_of h2
    cases d' with
    | list ds =>
      obtain ⟨ys, y1, y2⟩ := Option.bind_eq_some_iff.mp hr
      obtain ⟨c, rfl⟩ := joinS_some y2
      obtain ⟨p, vs, rfl, p1, p2⟩ := q'
      have ev := strsD_dp p2 y1
      subst ev
      exact ⟨z, p, ys, rfl, rfl, .inl p1, c, h3 _ _ _ (.refl sat2.fh) (.str _)⟩
    | tuple ds =>
      obtain ⟨ys, y1, y2⟩ := Option.bind_eq_some_iff.mp hr
      obtain ⟨c, rfl⟩ := joinS_some y2
      obtain ⟨p, vs, rfl, p1, p2⟩ := dp_tup q'
      have ev := strsD_dp p2 y1
      subst ev
      exact ⟨z, p, ys, rfl, rfl, .inr (SqT_mono sat2.fh p1), c, h3 _ _ _ (.refl sat2.fh) (.str _)⟩
    | _ => cases hr
  | _ => exact h1.elim
end
end Mir
end
set_option Elab.async false
set_option linter.all false
set_option maxRecDepth 100000
set_option maxHeartbeats 4000000
namespace Mir
open PySem PySem.Spec L2

/-! ### trees: a name, a mark, branches -/
inductive Tr where
  | mk (nm : Str) (mk : Int) (bs : List Tr)
mutual
def encT : Tr → D
  | .mk nm k bs => .tuple [.str nm, .int k, .tuple (encTs bs)]
def encTs : List Tr → List D
  | [] => []
  | b :: bs => encT b :: encTs bs
end
mutual
def sizeT : Tr → Nat
  | .mk _ _ bs => 1 + sizeTs bs
def sizeTs : List Tr → Nat
  | [] => 0
  | b :: bs => sizeT b + sizeTs bs
end
mutual
def levT : Tr → Nat
  | .mk _ _ bs => levTs bs + 1
def levTs : List Tr → Nat
  | [] => 0
  | b :: bs => max (levT b) (levTs bs)
end
mutual
def plT : Tr → List (List Nat)
  | .mk _ _ bs => [] :: plTs 0 bs
def plTs : Nat → List Tr → List (List Nat)
  | _, [] => []
  | o, b :: bs => (plT b).map (fun p => o :: p) ++ plTs (o + 1) bs
end
def brs : Tr → List Tr
  | .mk _ _ bs => bs
theorem encTs_map : ∀ bs : List Tr, encTs bs = bs.map encT
  | [] => by rw [encTs]; rfl
  | b :: bs => by rw [encTs, encTs_map bs]; rfl
theorem encT_mk (nm : Str) (k : Int) (bs : List Tr) : encT (.mk nm k bs) = .tuple [.str nm, .int k, .tuple (bs.map encT)] := by rw [encT, encTs_map]
theorem sizeTs_sum : ∀ bs : List Tr, sizeTs bs = (bs.map sizeT).sum
  | [] => by rw [sizeTs]; rfl
  | b :: bs => by rw [sizeTs, sizeTs_sum bs]; rfl
theorem levTs_le {n : Nat} : ∀ {bs : List Tr}, levTs bs ≤ n → ∀ b ∈ bs, levT b ≤ n
  | [], _, b, h => by simp at h
  | c :: bs, h, b, hb => by
    rw [levTs] at h
    rcases List.mem_cons.mp hb with e | e
    · subst e; omega
    · exact levTs_le (by omega) b e
mutual
theorem plT_len : ∀ t : Tr, (plT t).length = sizeT t
  | .mk nm k bs => by rw [plT, sizeT, List.length_cons, plTs_len 0 bs]; omega
theorem plTs_len : ∀ (o : Nat) (bs : List Tr), (plTs o bs).length = sizeTs bs
  | o, [] => by rw [plTs, sizeTs]; rfl
  | o, b :: bs => by rw [plTs, sizeTs, List.length_append, List.length_map, plT_len b, plTs_len (o + 1) bs]
end
theorem plTs_head : ∀ (o : Nat) (bs : List Tr) (p : List Nat), p ∈ plTs o bs → ∃ k q, p = k :: q ∧ o ≤ k
  | o, [], p, h => by rw [plTs] at h; simp at h
  | o, b :: bs, p, h => by
    rw [plTs] at h
    rcases List.mem_append.mp h with h | h
    · obtain ⟨q, _, rfl⟩ := List.mem_map.mp h
      exact ⟨o, q, rfl, Nat.le_refl _⟩
    · obtain ⟨k, q, e, hk⟩ := plTs_head (o + 1) bs p h
      exact ⟨k, q, e, by omega⟩
mutual
theorem plT_sorted : ∀ t : Tr, (plT t).Pairwise (fun p q => p < q)
  | .mk nm k bs => by
    rw [plT]
    refine List.pairwise_cons.mpr ⟨fun p hp => ?_, plTs_sorted 0 bs⟩
    obtain ⟨k, q, rfl, _⟩ := plTs_head 0 bs p hp
    exact List.nil_lt_cons _ _
theorem plTs_sorted : ∀ (o : Nat) (bs : List Tr), (plTs o bs).Pairwise (fun p q => p < q)
  | o, [] => by rw [plTs]; exact List.Pairwise.nil
  | o, b :: bs => by
    rw [plTs]
    refine List.pairwise_append.mpr ⟨?_, plTs_sorted (o + 1) bs, fun p hp q hq => ?_⟩
    · rw [List.pairwise_map]
      exact (plT_sorted b).imp fun h => List.cons_lt_cons_iff.mpr (.inr ⟨rfl, h⟩)
    · obtain ⟨p', _, rfl⟩ := List.mem_map.mp hp
      obtain ⟨k, q', rfl, hk⟩ := plTs_head (o + 1) bs q hq
      exact List.cons_lt_cons_iff.mpr (.inl (by omega))
end
mutual
theorem plT_lev : ∀ (t : Tr) (p : List Nat), p ∈ plT t → p.length + 1 ≤ levT t
  | .mk nm k bs, p, h => by
    rw [plT] at h
    rw [levT]
    rcases List.mem_cons.mp h with e | e
    · subst e; simp
    · have := plTs_lev 0 bs p e; omega
theorem plTs_lev : ∀ (o : Nat) (bs : List Tr) (p : List Nat), p ∈ plTs o bs → p.length ≤ levTs bs
  | o, [], p, h => by rw [plTs] at h; simp at h
  | o, b :: bs, p, h => by
    rw [plTs] at h
    rw [levTs]
    rcases List.mem_append.mp h with h | h
    · obtain ⟨q, hq, rfl⟩ := List.mem_map.mp h
      have := plT_lev b q hq
      simp only [List.length_cons]; omega
    · have := plTs_lev (o + 1) bs p h; omega
end
mutual
theorem plT_deep : ∀ (t : Tr), ∃ p, p ∈ plT t ∧ p.length + 1 = levT t
  | .mk nm k bs => by
    rw [plT, levT]
    rcases plTs_deep 0 bs with e | ⟨p, h1, h2⟩
    · rw [e, levTs]; exact ⟨[], List.mem_cons_self, rfl⟩
    · exact ⟨p, List.mem_cons_of_mem _ h1, by omega⟩
theorem plTs_deep : ∀ (o : Nat) (bs : List Tr), bs = [] ∨ ∃ p, p ∈ plTs o bs ∧ p.length = levTs bs
  | o, [] => .inl rfl
  | o, b :: bs => by
    right
    rw [plTs, levTs]
    obtain ⟨p, h1, h2⟩ := plT_deep b
    rcases plTs_deep (o + 1) bs with e | ⟨q, g1, g2⟩
    · refine ⟨o :: p, List.mem_append_left _ (List.mem_map_of_mem h1), ?_⟩
      rw [e, levTs, List.length_cons]; omega
    · by_cases hle : levTs bs ≤ levT b
      · exact ⟨o :: p, List.mem_append_left _ (List.mem_map_of_mem h1), by rw [List.length_cons]; omega⟩
      · exact ⟨q, List.mem_append_right _ g1, by omega⟩
end

/-! ### building a tree from the last row back, and the places forward -/
/-- the forests that hang below the first rows, and all places that they make -/
def pz : List (List Nat) → List Nat → List (List Tr) → List (List Nat)
  | p :: ps, l :: ls, b :: bs => ([] :: plTs l b).map (fun q => p ++ q) ++ pz ps ls bs
  | _, _, _ => []
theorem pz_snoc : ∀ (ps : List (List Nat)) (ls : List Nat) (bs : List (List Tr)) (p : List Nat) (l : Nat) (b : List Tr), ls[ps.length]? = some l → bs[ps.length]? = some b → pz (ps ++ [p]) ls bs = pz ps ls bs ++ ([] :: plTs l b).map (fun q => p ++ q)
  | [], l' :: ls, b' :: bs, p, l, b, h1, h2 => by
    simp at h1 h2
    subst h1 h2
    show pz (p :: []) (l' :: ls) (b' :: bs) = _
    simp [pz]
  | [], [], _, p, l, b, h1, _ => by simp at h1
  | [], _ :: _, [], p, l, b, _, h2 => by simp at h2
  | p0 :: ps, [], _, p, l, b, h1, _ => by simp at h1
  | p0 :: ps, _ :: _, [], p, l, b, _, h2 => by simp at h2
  | p0 :: ps, l0 :: ls, b0 :: bs, p, l, b, h1, h2 => by
    have ih := pz_snoc ps ls bs p l b (by simpa using h1) (by simpa using h2)
    show ([] :: plTs l0 b0).map (fun q => p0 ++ q) ++ pz (ps ++ [p]) ls bs = ([] :: plTs l0 b0).map (fun q => p0 ++ q) ++ pz ps ls bs ++ _
    rw [ih, List.append_assoc]
theorem pz_hang : ∀ (ps : List (List Nat)) (ls : List Nat) (bs : List (List Tr)) (u l : Nat) (p : List Nat) (b : List Tr) (t : Tr), ps[u]? = some p → ls[u]? = some l → bs[u]? = some b →
    (pz ps (ls.set u (l + 1)) bs ++ (plT t).map (fun q => (p ++ [l]) ++ q)).Perm (pz ps ls (bs.set u (t :: b)))
  | [], _, _, u, l, p, b, t, h, _, _ => by simp at h
  | _ :: _, [], _, u, l, p, b, t, _, h, _ => by simp at h
  | _ :: _, _ :: _, [], u, l, p, b, t, _, _, h => by simp at h
  | p0 :: ps, l0 :: ls, b0 :: bs, 0, l, p, b, t, h1, h2, h3 => by
    simp at h1 h2 h3
    subst h1 h2 h3
    show ((([] :: plTs (l0 + 1) b0).map (fun q => p0 ++ q) ++ pz ps ls bs) ++ (plT t).map (fun q => (p0 ++ [l0]) ++ q)).Perm (([] :: plTs l0 (t :: b0)).map (fun q => p0 ++ q) ++ pz ps ls bs)
    rw [plTs]
    have e : (plT t).map (fun q => (p0 ++ [l0]) ++ q) = ((plT t).map (fun p => l0 :: p)).map (fun q => p0 ++ q) := by
      rw [List.map_map]
      refine List.map_congr_left fun q _ => ?_
      simp
    rw [e]
    simp only [List.map_cons, List.map_append, List.cons_append]
    refine List.Perm.cons _ ?_
    rw [List.append_assoc, List.append_assoc]
    refine (List.perm_append_comm_assoc _ _ _).trans ?_
    refine (List.perm_append_comm_assoc _ _ _).trans ?_
    refine List.perm_append_comm.trans ?_
    rw [List.append_assoc]
    refine (List.perm_append_comm_assoc _ _ _).trans ?_
    refine List.Perm.append_left _ ?_
    exact List.perm_append_comm
  | p0 :: ps, l0 :: ls, b0 :: bs, u + 1, l, p, b, t, h1, h2, h3 => by
    have ih := pz_hang ps ls bs u l p b t (by simpa using h1) (by simpa using h2) (by simpa using h3)
    show ((([] :: plTs l0 b0).map (fun q => p0 ++ q) ++ pz ps (ls.set u (l + 1)) bs) ++ _).Perm (([] :: plTs l0 b0).map (fun q => p0 ++ q) ++ pz ps ls (bs.set u (t :: b)))
    rw [List.append_assoc]
    exact List.Perm.append_left _ ih
theorem pz_bare : ∀ (ps : List (List Nat)) (ls : List Nat) (n : Nat), ps.length ≤ ls.length → ps.length ≤ n → pz ps ls (List.replicate n []) = ps
  | [], _, _, _, _ => rfl
  | p :: ps, [], n, h, _ => by simp at h
  | p :: ps, l :: ls, 0, _, h => by simp at h
  | p :: ps, l :: ls, n + 1, h, h' => by
    rw [List.replicate_succ]
    show ([] :: plTs l []).map (fun q => p ++ q) ++ pz ps ls (List.replicate n []) = _
    rw [pz_bare ps ls n (by simpa using h) (by simpa using h'), plTs]
    simp

structure TRow where
  nm : Str
  mar : Int
  up : Nat
/-- each row hangs below one ahead of it -/
def Below (rs : List TRow) : Prop := ∀ k r, rs[k]? = some r → 0 < k → r.up < k
/-- one row, by its number k: its tree put below -/
def hang (rs : List TRow) (k : Nat) (bl : List (List Tr)) : List (List Tr) := match rs[k]?, bl[k]? with
  | some r, some b => match bl[r.up]? with
    | some b' => bl.set r.up (.mk r.nm r.mar b :: b')
    | none => bl
  | _, _ => bl
/-- the last s rows -/
def hangs (rs : List TRow) : Nat → List (List Tr)
  | 0 => List.replicate rs.length []
  | s + 1 => hang rs (rs.length - 1 - s) (hangs rs s)
/-- the place of row k -/
def plc (rs : List TRow) (k : Nat) (x : List (List Nat) × List Nat) : List (List Nat) × List Nat := match rs[k]? with
  | some r => match x.1[r.up]?, x.2[r.up]? with
    | some p, some l => (x.1 ++ [p ++ [l]], x.2.set r.up (l + 1))
    | _, _ => x
  | none => x
def plcs (rs : List TRow) : Nat → List (List Nat) × List Nat
  | 0 => ([[]], List.replicate rs.length 0)
  | s + 1 => plc rs (s + 1) (plcs rs s)
theorem hang_len (rs : List TRow) (k : Nat) (bl : List (List Tr)) : (hang rs k bl).length = bl.length := by
  unfold hang
  split
  · split
    · simp
    · rfl
  · rfl
theorem hangs_len (rs : List TRow) : ∀ s, (hangs rs s).length = rs.length
  | 0 => by simp [hangs]
  | s + 1 => by rw [hangs, hang_len, hangs_len rs s]
theorem plcs_len {rs : List TRow} (hb : Below rs) : ∀ s, s + 1 ≤ rs.length → (plcs rs s).1.length = s + 1 ∧ (plcs rs s).2.length = rs.length ∧ ∀ j, s < j → j < rs.length → (plcs rs s).2[j]? = some 0
  | 0, h => by
    refine ⟨rfl, by simp [plcs], fun j _ hj => ?_⟩
    show (List.replicate rs.length 0)[j]? = some 0
    simp [hj]
  | s + 1, h => by
    obtain ⟨h1, h2, h3⟩ := plcs_len hb s (by omega)
    have hr : rs[s + 1]? = some rs[s + 1] := List.getElem?_eq_getElem (by omega)
    have hu := hb (s + 1) _ hr (by omega)
    have e1 : (plcs rs s).1[(rs[s + 1]).up]? = some ((plcs rs s).1[(rs[s + 1]).up]'(by omega)) := List.getElem?_eq_getElem _
    have e2 : (plcs rs s).2[(rs[s + 1]).up]? = some ((plcs rs s).2[(rs[s + 1]).up]'(by omega)) := List.getElem?_eq_getElem _
    unfold plcs plc
    rw [hr]
    simp only [e1, e2]
    refine ⟨by simp [h1], by simp [h2], fun j hj hl => ?_⟩
    rw [List.getElem?_set_ne (by omega)]
    exact h3 j (by omega) hl
/-- the step's own facts -/
theorem plc_step {rs : List TRow} (hb : Below rs) {s : Nat} (h : s + 2 ≤ rs.length) : ∃ r p l, rs[s + 1]? = some r ∧ r.up ≤ s ∧ (plcs rs s).1[r.up]? = some p ∧ (plcs rs s).2[r.up]? = some l ∧ plcs rs (s + 1) = ((plcs rs s).1 ++ [p ++ [l]], (plcs rs s).2.set r.up (l + 1)) := by
  obtain ⟨h1, h2, h3⟩ := plcs_len hb s (by omega)
  have hr : rs[s + 1]? = some rs[s + 1] := List.getElem?_eq_getElem (by omega)
  have hu := hb (s + 1) _ hr (by omega)
  have e1 : (plcs rs s).1[(rs[s + 1]).up]? = some ((plcs rs s).1[(rs[s + 1]).up]'(by omega)) := List.getElem?_eq_getElem _
  have e2 : (plcs rs s).2[(rs[s + 1]).up]? = some ((plcs rs s).2[(rs[s + 1]).up]'(by omega)) := List.getElem?_eq_getElem _
  refine ⟨_, _, _, hr, by omega, e1, e2, ?_⟩
  show plc rs (s + 1) (plcs rs s) = _
  unfold plc
  rw [hr]
  simp only [e1, e2]
theorem hang_step {rs : List TRow} (hb : Below rs) {k : Nat} (hk : k < rs.length) (h0 : 0 < k) {bl : List (List Tr)} (hl : bl.length = rs.length) : ∃ r b b', rs[k]? = some r ∧ r.up < k ∧ bl[k]? = some b ∧ bl[r.up]? = some b' ∧ hang rs k bl = bl.set r.up (.mk r.nm r.mar b :: b') := by
  have hr : rs[k]? = some rs[k] := List.getElem?_eq_getElem hk
  have hu := hb k _ hr h0
  have e1 : bl[k]? = some (bl[k]'(by omega)) := List.getElem?_eq_getElem _
  have e2 : bl[(rs[k]).up]? = some (bl[(rs[k]).up]'(by omega)) := List.getElem?_eq_getElem _
  refine ⟨_, _, _, hr, hu, e1, e2, ?_⟩
  unfold hang
  rw [hr]
  simp only [e1, e2]
theorem pz_all {rs : List TRow} (hb : Below rs) : ∀ s, s + 1 ≤ rs.length → (pz (plcs rs (rs.length - 1 - s)).1 (plcs rs (rs.length - 1 - s)).2 (hangs rs s)).Perm (plcs rs (rs.length - 1)).1
  | 0, h => by
    obtain ⟨h1, h2, _⟩ := plcs_len hb (rs.length - 1) (by omega)
    rw [Nat.sub_zero, hangs, pz_bare _ _ _ (by omega) (by omega)]
  | s + 1, h => by
    have ih := pz_all hb s (by omega)
    refine List.Perm.trans ?_ ih
    obtain ⟨j, hj⟩ : ∃ j, rs.length - 1 - s = j + 1 := ⟨rs.length - 2 - s, by omega⟩
    have hj' : rs.length - 1 - (s + 1) = j := by omega
    rw [hj', hj, hangs, hj]
    obtain ⟨l1, l2, l3⟩ := plcs_len hb j (by omega)
    obtain ⟨r, p, l, e1, e2, e3, e4, e5⟩ := plc_step hb (s := j) (by omega)
    obtain ⟨r', b, b', f1, f2, f3, f4, f5⟩ := hang_step hb (k := j + 1) (by omega) (by omega) (hangs_len rs s)
    rw [e1] at f1
    cases f1
    rw [f5, e5]
    simp only
    have l4 : ((plcs rs j).2.set r.up (l + 1))[(plcs rs j).1.length]? = some 0 := by
      rw [l1, List.getElem?_set_ne (by omega)]
      exact l3 (j + 1) (by omega) (by omega)
    rw [pz_snoc _ _ _ _ 0 b l4 (by rw [l1]; exact f3)]
    have := pz_hang (plcs rs j).1 (plcs rs j).2 (hangs rs s) r.up l p b' (.mk r.nm r.mar b) e3 e4 f4
    rw [plT] at this
    exact this.symm
/-- the tree that is built -/
def treeOf (rs : List TRow) : Option Tr := match rs[0]?, (hangs rs (rs.length - 1))[0]? with
  | some r, some b => some (.mk r.nm r.mar b)
  | _, _ => none
theorem tree_places {rs : List TRow} (hb : Below rs) (h : 0 < rs.length) : ∃ t, treeOf rs = some t ∧ (plT t).Perm (plcs rs (rs.length - 1)).1 := by
  have z := pz_all hb (rs.length - 1) (by omega)
  rw [Nat.sub_self] at z
  have hl := hangs_len rs (rs.length - 1)
  have hr : rs[0]? = some rs[0] := List.getElem?_eq_getElem h
  cases q : hangs rs (rs.length - 1) with
  | nil => rw [q] at hl; simp at hl; omega
  | cons b bl =>
    refine ⟨.mk (rs[0]).nm (rs[0]).mar b, ?_, ?_⟩
    · unfold treeOf
      rw [hr, q]
      rfl
    · rw [q] at z
      have e : pz (plcs rs 0).1 (plcs rs 0).2 (b :: bl) = [] :: plTs 0 b := by
        show pz [[]] (List.replicate rs.length 0) (b :: bl) = _
        obtain ⟨n, hn⟩ : ∃ n, rs.length = n + 1 := ⟨rs.length - 1, by omega⟩
        rw [hn, List.replicate_succ]
        simp [pz]
      rw [e] at z
      rw [plT]
      exact z
theorem hangs_small (rs : List TRow) : ∀ (s j : Nat) (b : List Tr), (hangs rs s)[j]? = some b → b.length ≤ s
  | 0, j, b, h => by
    have := List.mem_of_getElem? h
    unfold hangs at this
    rw [List.mem_replicate] at this
    rw [this.2]; simp
  | s + 1, j, b, h => by
    have ih := hangs_small rs s
    unfold hangs hang at h
    split at h
    · rename_i r b0 h1 h2
      split at h
      · rename_i b1 h3
        by_cases hj : r.up = j
        · subst hj
          rw [List.getElem?_set_self (List.getElem?_eq_some_iff.mp h3).1] at h
          cases h
          have := ih _ _ h3
          simp only [List.length_cons]; omega
        · rw [List.getElem?_set_ne hj] at h
          have := ih _ _ h
          omega
      · have := ih _ _ h; omega
    · have := ih _ _ h; omega
theorem rangeCD_at {lo c : Int} {n i : Nat} {d : D} (h : (rangeCD lo c n)[i]? = some d) : i < n ∧ d = .int (lo + (i : Nat) * c) := by
  have hl : i < n := by have := (List.getElem?_eq_some_iff.mp h).1; simpa [rangeCD] using this
  refine ⟨hl, ?_⟩
  unfold rangeCD at h
  rw [List.getElem?_map, List.getElem?_range hl] at h
  exact (Option.some.inj h).symm
theorem rangeD_at {lo : Int} {n i : Nat} {d : D} (h : (rangeD lo n)[i]? = some d) : i < n ∧ d = .int (lo + (i : Nat)) := by
  have hl : i < n := by have := (List.getElem?_eq_some_iff.mp h).1; simpa [rangeD] using this
  refine ⟨hl, ?_⟩
  unfold rangeD at h
  rw [List.getElem?_map, List.getElem?_range hl] at h
  exact (Option.some.inj h).symm
end Mir
set_option Elab.async false
set_option linter.all false
set_option maxRecDepth 100000
set_option maxHeartbeats 4000000
namespace Mir
open PySem PySem.Spec L2

/-! ### the rows below a row, among the last s; all of them -/
def kf (rs : List TRow) : Nat → Nat → List Nat
  | 0, _ => []
  | s + 1, j => if (rs[rs.length - 1 - s]?).map TRow.up = some j then (rs.length - 1 - s) :: kf rs s j else kf rs s j
def kids (rs : List TRow) (j : Nat) : List Nat := kf rs (rs.length - 1) j
theorem kf_mem {rs : List TRow} : ∀ {s j k : Nat}, s + 1 ≤ rs.length → k ∈ kf rs s j → rs.length - s ≤ k ∧ k < rs.length ∧ ∃ r, rs[k]? = some r ∧ r.up = j
  | 0, j, k, _, h => by simp [kf] at h
  | s + 1, j, k, hs, h => by
    unfold kf at h
    split at h
    · rename_i c
      rcases List.mem_cons.mp h with e | e
      · subst e
        refine ⟨by omega, by omega, ?_⟩
        rw [Option.map_eq_some_iff] at c
        exact c
      · obtain ⟨a, b, c⟩ := kf_mem (by omega) e
        exact ⟨by omega, b, c⟩
    · obtain ⟨a, b, c⟩ := kf_mem (by omega) h
      exact ⟨by omega, b, c⟩
theorem kf_up {rs : List TRow} : ∀ s, s + 1 ≤ rs.length → ∀ j, (kf rs s j).Pairwise (fun a b => a < b)
  | 0, _, _ => List.Pairwise.nil
  | s + 1, h, j => by
    unfold kf
    split
    · exact List.pairwise_cons.mpr ⟨fun k hk => by have := (kf_mem (by omega) hk).1; omega, kf_up s (by omega) j⟩
    · exact kf_up s (by omega) j
theorem kids_once {rs : List TRow} (h0 : 0 < rs.length) {j i c k : Nat} (h1 : (kids rs j)[i]? = some k) (h2 : (kids rs j)[c]? = some k) : i = c := by
  have := kf_up (rs := rs) (rs.length - 1) (by omega) j
  have p := List.pairwise_iff_getElem.mp this
  obtain ⟨a1, a2⟩ := List.getElem?_eq_some_iff.mp h1
  obtain ⟨b1, b2⟩ := List.getElem?_eq_some_iff.mp h2
  rcases Nat.lt_trichotomy i c with q | q | q
  · have := p i c a1 b1 q
    have e1 : (kf rs (rs.length - 1) j)[i] = k := a2
    have e2 : (kf rs (rs.length - 1) j)[c] = k := b2
    omega
  · exact q
  · have := p c i b1 a1 q
    have e1 : (kf rs (rs.length - 1) j)[i] = k := a2
    have e2 : (kf rs (rs.length - 1) j)[c] = k := b2
    omega
theorem kids_mem {rs : List TRow} (hb : Below rs) (h0 : 0 < rs.length) {j k : Nat} (h : k ∈ kids rs j) : 0 < k ∧ j < k ∧ k < rs.length ∧ ∃ r, rs[k]? = some r ∧ r.up = j := by
  obtain ⟨a, b, r, e1, e2⟩ := kf_mem (by omega) h
  have := hb k r e1 (by omega)
  exact ⟨by omega, by omega, b, r, e1, e2⟩
/-- the rows up to k have none below k -/
theorem kf_stop {rs : List TRow} (hb : Below rs) (k : Nat) (hk : k < rs.length) : ∀ d, rs.length - 1 - k + d + 1 ≤ rs.length → kf rs (rs.length - 1 - k + d) k = kf rs (rs.length - 1 - k) k
  | 0, _ => rfl
  | d + 1, h => by
    rw [← kf_stop hb k hk d (by omega)]
    show kf rs (rs.length - 1 - k + d + 1) k = _
    rw [kf]
    have e : rs.length - 1 - (rs.length - 1 - k + d) = k - d := by omega
    rw [e]
    split
    · rename_i c
      rw [Option.map_eq_some_iff] at c
      obtain ⟨r, c1, c2⟩ := c
      by_cases h0 : 0 < k - d
      · have := hb _ r c1 h0; omega
      · omega
    · rfl
theorem kids_at {rs : List TRow} (hb : Below rs) {k : Nat} (hk : k < rs.length) : kids rs k = kf rs (rs.length - 1 - k) k := by
  have := kf_stop hb k hk k (by omega)
  have e : rs.length - 1 - k + k = rs.length - 1 := by omega
  rw [e] at this
  exact this

/-! ### each row's tree; at row sp another one -/
def subT (rs : List TRow) (sp : Int) (o : Tr) : Nat → Nat → Tr
  | 0, _ => o
  | f + 1, j => if (j : Int) = sp then o else match rs[j]? with
    | some r => .mk r.nm r.mar ((kids rs j).map (subT rs sp o f))
    | none => o
theorem subT_fix {rs : List TRow} (hb : Below rs) (h0 : 0 < rs.length) {sp : Int} {o : Tr} : ∀ (f g j : Nat), j < rs.length → rs.length - j ≤ f → rs.length - j ≤ g → subT rs sp o f j = subT rs sp o g j
  | 0, _, j, hj, h, _ => by omega
  | f + 1, 0, j, hj, _, h => by omega
  | f + 1, g + 1, j, hj, h1, h2 => by
    unfold subT
    split
    · rfl
    · split
      · congr 1
        refine List.map_congr_left fun k hk => ?_
        obtain ⟨_, a, b, _⟩ := kids_mem hb h0 hk
        exact subT_fix hb h0 f g k b (by omega) (by omega)
      · rfl
def rowT (rs : List TRow) (sp : Int) (o : Tr) (j : Nat) : Tr := subT rs sp o rs.length j
theorem rowT_eq {rs : List TRow} (hb : Below rs) (h0 : 0 < rs.length) {sp : Int} {o : Tr} {j : Nat} {r : TRow} (hr : rs[j]? = some r) : rowT rs sp o j = if (j : Int) = sp then o else .mk r.nm r.mar ((kids rs j).map (rowT rs sp o)) := by
  have hj := (List.getElem?_eq_some_iff.mp hr).1
  unfold rowT
  obtain ⟨n, hn⟩ : ∃ n, rs.length = n + 1 := ⟨rs.length - 1, by omega⟩
  rw [hn]
  conv => lhs; unfold subT
  rw [hr]
  simp only
  split
  · rfl
  · congr 1
    refine List.map_congr_left fun k hk => ?_
    obtain ⟨_, a, b, _⟩ := kids_mem hb h0 hk
    exact subT_fix hb h0 n (n + 1) k b (by omega) (by omega)

/-! ### places by any whole numbers -/
def nth (bs : List Tr) (z : Int) : Option Tr := if z < 0 then none else bs[z.toNat]?
def atZ : Tr → List Int → Option Tr
  | t, [] => some t
  | .mk _ _ bs, z :: zs => match nth bs z with
    | some b => atZ b zs
    | none => none
def putZ : Tr → List Int → Tr → Option Tr
  | _, [], o => some o
  | .mk nm k bs, z :: zs, o => match nth bs z with
    | some b => match putZ b zs o with
      | some b' => some (.mk nm k (bs.set z.toNat b'))
      | none => none
    | none => none
theorem atZ_app : ∀ (p q : List Int) (t : Tr), atZ t (p ++ q) = (atZ t p).bind fun u => atZ u q
  | [], q, t => rfl
  | z :: p, q, .mk nm k bs => by
    rw [List.cons_append, atZ, atZ]
    cases nth bs z with
    | none => rfl
    | some b => exact atZ_app p q b
theorem putZ_none : ∀ (p q : List Int) (t u o : Tr), atZ t p = some u → putZ u q o = none → putZ t (p ++ q) o = none
  | [], q, t, u, o, h, g => by cases h; exact g
  | z :: p, q, .mk nm k bs, u, o, h, g => by
    show putZ (.mk nm k bs) (z :: (p ++ q)) o = _
    unfold atZ at h
    unfold putZ
    cases e : nth bs z with
    | none => rfl
    | some b =>
      rw [e] at h
      simp only at h ⊢
      rw [putZ_none p q b u o h g]
theorem nth_nat (bs : List Tr) (k : Nat) : nth bs (k : Int) = bs[k]? := by
  unfold nth
  rw [if_neg (by omega), Int.toNat_natCast]
abbrev zs (p : List Nat) : List Int := p.map fun k : Nat => (k : Int)

/-! ### the places that the law tells -/
theorem plcs_pre {rs : List TRow} (hb : Below rs) (s : Nat) : ∀ d, s + d + 1 ≤ rs.length → ∀ j, j ≤ s → (plcs rs (s + d)).1[j]? = (plcs rs s).1[j]?
  | 0, _, j, _ => rfl
  | d + 1, h, j, hj => by
    rw [← plcs_pre hb s d (by omega) j hj]
    obtain ⟨r, p, l, _, _, _, _, e⟩ := plc_step hb (s := s + d) (by omega)
    obtain ⟨l1, _, _⟩ := plcs_len hb (s + d) (by omega)
    show (plcs rs (s + d + 1)).1[j]? = _
    rw [e]
    simp only
    rw [List.getElem?_append_left (by omega)]
theorem plcs_lots {rs : List TRow} (hb : Below rs) : ∀ s, s + 1 ≤ rs.length → ∀ j l, (plcs rs s).2[j]? = some l → (kids rs j).drop l = kf rs (rs.length - 1 - s) j
  | 0, h, j, l, e => by
    have e : (List.replicate rs.length 0)[j]? = some l := e
    rw [List.getElem?_replicate] at e
    split at e
    · cases e; rfl
    · cases e
  | s + 1, h, j, l, e => by
    have ih := plcs_lots hb s (by omega)
    obtain ⟨r, p, l0, e1, e2, e3, e4, e5⟩ := plc_step hb (s := s) (by omega)
    rw [e5] at e
    simp only at e
    have ek : rs.length - 1 - s = rs.length - 1 - (s + 1) + 1 := by omega
    have en : rs.length - 1 - (rs.length - 1 - (s + 1)) = s + 1 := by omega
    by_cases hj : r.up = j
    · subst hj
      rw [List.getElem?_set_self (List.getElem?_eq_some_iff.mp e4).1] at e
      cases e
      have z := ih r.up l0 e4
      rw [ek, kf, en, e1] at z
      simp only [Option.map_some, if_true] at z
      rw [← List.drop_drop, z]
      rfl
    · rw [List.getElem?_set_ne hj] at e
      have z := ih j l e
      rw [ek, kf, en, e1] at z
      simp only [Option.map_some, Option.some.injEq, hj, if_false] at z
      exact z
/-- row k's place: that of the row above it, and its number among the rows there -/
theorem place_step {rs : List TRow} (hb : Below rs) {k : Nat} (h0 : 0 < k) (hk : k < rs.length) : ∃ r p l, rs[k]? = some r ∧ r.up < k ∧ (plcs rs (rs.length - 1)).1[r.up]? = some p ∧ (plcs rs (rs.length - 1)).1[k]? = some (p ++ [l]) ∧ (kids rs r.up)[l]? = some k := by
  obtain ⟨s, rfl⟩ : ∃ s, k = s + 1 := ⟨k - 1, by omega⟩
  obtain ⟨r, p, l, e1, e2, e3, e4, e5⟩ := plc_step hb (s := s) (by omega)
  obtain ⟨l1, _, _⟩ := plcs_len hb s (by omega)
  have d := plcs_lots hb s (by omega) r.up l e4
  have ek : rs.length - 1 - s = rs.length - 1 - (s + 1) + 1 := by omega
  have en : rs.length - 1 - (rs.length - 1 - (s + 1)) = s + 1 := by omega
  rw [ek, kf, en, e1] at d
  simp only [Option.map_some, if_true] at d
  refine ⟨r, p, l, e1, by omega, ?_, ?_, ?_⟩
  · have := plcs_pre hb s (rs.length - 1 - s) (by omega) r.up e2
    rw [show s + (rs.length - 1 - s) = rs.length - 1 by omega] at this
    rw [this, e3]
  · have := plcs_pre hb (s + 1) (rs.length - 1 - (s + 1)) (by omega) (s + 1) (Nat.le_refl _)
    rw [show s + 1 + (rs.length - 1 - (s + 1)) = rs.length - 1 by omega] at this
    rw [this, e5]
    simp only
    rw [List.getElem?_append_right (by omega)]
    have : s + 1 - (plcs rs s).1.length = 0 := by omega
    rw [this]; rfl
  · have := congrArg (fun xs : List Nat => xs[0]?) d
    simpa [List.getElem?_drop] using this
theorem place_zero {rs : List TRow} (hb : Below rs) (h0 : 0 < rs.length) : (plcs rs (rs.length - 1)).1[0]? = some [] := by
  have := plcs_pre hb 0 (rs.length - 1) (by omega) 0 (Nat.le_refl _)
  rw [Nat.zero_add] at this
  rw [this]; rfl
/-- at row k's place stands row k's tree -/
theorem at_place {rs : List TRow} (hb : Below rs) (h0 : 0 < rs.length) {o : Tr} : ∀ (n k : Nat) (p : List Nat), k < n → k < rs.length → (plcs rs (rs.length - 1)).1[k]? = some p → atZ (rowT rs (-1) o 0) (zs p) = some (rowT rs (-1) o k)
  | 0, k, p, h, _, _ => by omega
  | n + 1, 0, p, _, hk, hp => by
    rw [place_zero hb h0] at hp
    cases hp
    rw [show zs [] = [] from rfl, atZ]
  | n + 1, k + 1, p, hn, hk, hp => by
    obtain ⟨r, q, l, e1, e2, e3, e4, e5⟩ := place_step hb (k := k + 1) (by omega) hk
    rw [e4] at hp
    cases hp
    have ih := at_place hb h0 (o := o) n r.up q (by omega) (by omega) e3
    rw [show zs (q ++ [l]) = zs q ++ [(l : Int)] by simp, atZ_app, ih]
    have hr : rs[r.up]? = some (rs[r.up]'(by omega)) := List.getElem?_eq_getElem _
    show atZ (rowT rs (-1) o r.up) [(l : Int)] = _
    rw [rowT_eq hb h0 hr, if_neg (by omega), atZ, nth_nat, List.getElem?_map, e5]
    simp only [Option.map_some]
    rw [atZ]
theorem place_inj {rs : List TRow} (hb : Below rs) (h0 : 0 < rs.length) : ∀ (n i j : Nat) (p : List Nat), i < n → i < rs.length → j < rs.length → (plcs rs (rs.length - 1)).1[i]? = some p → (plcs rs (rs.length - 1)).1[j]? = some p → i = j
  | 0, i, _, _, h, _, _, _, _ => by omega
  | n + 1, 0, 0, _, _, _, _, _, _ => rfl
  | n + 1, 0, j + 1, p, _, _, hj, h1, h2 => by
    rw [place_zero hb h0] at h1
    cases h1
    obtain ⟨r, q, l, _, _, _, e4, _⟩ := place_step hb (k := j + 1) (by omega) hj
    rw [e4] at h2
    simp at h2
  | n + 1, i + 1, 0, p, _, hi, _, h1, h2 => by
    rw [place_zero hb h0] at h2
    cases h2
    obtain ⟨r, q, l, _, _, _, e4, _⟩ := place_step hb (k := i + 1) (by omega) hi
    rw [e4] at h1
    simp at h1
  | n + 1, i + 1, j + 1, p, hn, hi, hj, h1, h2 => by
    obtain ⟨r, q, l, a1, a2, a3, a4, a5⟩ := place_step hb (k := i + 1) (by omega) hi
    obtain ⟨r', q', l', b1, b2, b3, b4, b5⟩ := place_step hb (k := j + 1) (by omega) hj
    rw [a4] at h1
    rw [b4] at h2
    cases h1
    have h2 := Option.some.inj h2
    obtain ⟨e1, e2⟩ := List.append_inj' h2 rfl
    subst e1
    have := place_inj hb h0 n r.up r'.up q' (by omega) (by omega) (by omega) a3 b3
    cases e2
    rw [this, b5] at a5
    exact (Option.some.inj a5).symm
/-- on the way to a place -/
theorem place_way {rs : List TRow} (hb : Below rs) (h0 : 0 < rs.length) : ∀ (n s k : Nat) (p q : List Nat) (c : Nat), s < n → s < rs.length → k < rs.length → (plcs rs (rs.length - 1)).1[k]? = some p → (plcs rs (rs.length - 1)).1[s]? = some (p ++ c :: q) → ∃ k', (kids rs k)[c]? = some k' ∧ k' < rs.length ∧ (plcs rs (rs.length - 1)).1[k']? = some (p ++ [c])
  | 0, s, _, _, _, _, h, _, _, _, _ => by omega
  | n + 1, 0, k, p, q, c, _, _, _, _, h2 => by
    rw [place_zero hb h0] at h2
    simp at h2
  | n + 1, s + 1, k, p, q, c, hn, hs, hk, h1, h2 => by
    obtain ⟨r, p', l, a1, a2, a3, a4, a5⟩ := place_step hb (k := s + 1) (by omega) hs
    have a4' := a4
    rw [h2] at a4
    have a4 := Option.some.inj a4
    rcases List.eq_nil_or_concat q with e | ⟨q', x, e⟩
    · subst e
      obtain ⟨e1, e2⟩ := List.append_inj' a4 rfl
      subst e1
      cases e2
      have := place_inj hb h0 _ k r.up p (Nat.lt_succ_self _) hk (by omega) h1 a3
      subst this
      exact ⟨s + 1, a5, hs, a4'⟩
    · subst e
      rw [List.concat_eq_append] at a4
      rw [show p ++ c :: (q' ++ [x]) = (p ++ c :: q') ++ [x] by simp] at a4
      obtain ⟨e1, e2⟩ := List.append_inj' a4 rfl
      rw [← e1] at a3
      exact place_way hb h0 n r.up k p q' c (by omega) (by omega) hk h1 a3
/-- apart from the changed row's way nothing is changed -/
theorem rowT_same {rs : List TRow} (hb : Below rs) (h0 : 0 < rs.length) {o o' : Tr} {s : Nat} {ps : List Nat} (hs : s < rs.length) (hps : (plcs rs (rs.length - 1)).1[s]? = some ps) : ∀ (f i : Nat) (p : List Nat), rs.length - i ≤ f → i < rs.length → (plcs rs (rs.length - 1)).1[i]? = some p → (∀ q, ps ≠ p ++ q) → rowT rs s o i = rowT rs (-1) o' i
  | 0, i, p, h, hi, _, _ => by omega
  | f + 1, i, p, h, hi, hp, hn => by
    have hr : rs[i]? = some rs[i] := List.getElem?_eq_getElem hi
    have ne : (i : Int) ≠ (s : Int) := fun e => by
      have : i = s := by omega
      subst this
      rw [hp] at hps
      exact hn [] (by simp [Option.some.inj hps])
    rw [rowT_eq hb h0 hr, rowT_eq hb h0 hr, if_neg ne, if_neg (by omega)]
    congr 1
    refine List.map_congr_left fun k hk => ?_
    obtain ⟨k0, a, b, r, e1, e2⟩ := kids_mem hb h0 hk
    obtain ⟨r', q, l, c1, c2, c3, c4, c5⟩ := place_step hb (k := k) k0 b
    rw [e1] at c1
    cases c1
    rw [e2, hp] at c3
    cases c3
    exact rowT_same hb h0 hs hps f k _ (by omega) b c4 fun q' e => hn ([l] ++ q') (by rw [e]; simp)
/-- put at row s's place: the tree with row s changed -/
theorem put_place {rs : List TRow} (hb : Below rs) (h0 : 0 < rs.length) {o o' : Tr} {s : Nat} {ps : List Nat} (hs : s < rs.length) (hps : (plcs rs (rs.length - 1)).1[s]? = some ps) : ∀ (q : List Nat) (k : Nat) (p : List Nat), k < rs.length → (plcs rs (rs.length - 1)).1[k]? = some p → ps = p ++ q → putZ (rowT rs (-1) o' k) (zs q) o = some (rowT rs s o k)
  | [], k, p, hk, hp, e => by
    rw [List.append_nil] at e
    subst e
    have := place_inj hb h0 _ k s ps (Nat.lt_succ_self _) hk hs hp hps
    subst this
    rw [rowT_eq (sp := (k : Int)) hb h0 (List.getElem?_eq_getElem hk), if_pos rfl, show zs [] = [] from rfl, putZ]
  | c :: q, k, p, hk, hp, e => by
    subst e
    obtain ⟨k', a1, a2, a3⟩ := place_way hb h0 _ s k p q c (Nat.lt_succ_self _) hs hk hp hps
    have hr : rs[k]? = some rs[k] := List.getElem?_eq_getElem hk
    have ne : (k : Int) ≠ (s : Int) := fun e => by
      have : k = s := by omega
      subst this
      rw [hp] at hps
      have := congrArg List.length (Option.some.inj hps)
      simp at this
    have ih := put_place (o := o) (o' := o') hb h0 hs hps q k' (p ++ [c]) a2 a3 (by simp)
    rw [rowT_eq (sp := -1) hb h0 hr, rowT_eq (sp := (s : Int)) hb h0 hr, if_neg ne, if_neg (by omega), show zs (c :: q) = (c : Int) :: zs q from rfl, putZ, nth_nat, List.getElem?_map, a1]
    simp only [Option.map_some, ih, Int.toNat_natCast]
    congr 2
    refine List.ext_getElem? fun i => ?_
    by_cases hi : c = i
    · subst hi
      have hl := (List.getElem?_eq_some_iff.mp a1).1
      rw [List.getElem?_set_self (by rw [List.length_map]; exact hl), List.getElem?_map, a1]
      rfl
    · rw [List.getElem?_set_ne hi, List.getElem?_map, List.getElem?_map]
      cases ei : (kids rs k)[i]? with
      | none => rfl
      | some j =>
        simp only [Option.map_some]
        congr 1
        obtain ⟨j0, b1, b2, r, b3, b4⟩ := kids_mem hb h0 (List.mem_of_getElem? ei)
        obtain ⟨r', p', l, c1, c2, c3, c4, c5⟩ := place_step hb (k := j) j0 b2
        rw [b3] at c1
        cases c1
        rw [b4, hp] at c3
        cases c3
        rw [b4] at c5
        refine (rowT_same hb h0 hs hps _ j _ (Nat.le_refl _) b2 c4 fun q' e => ?_).symm
        rw [List.append_assoc] at e
        have e := List.append_cancel_left e
        have : c = l := by
          have := congrArg (fun xs : List Nat => xs[0]?) e
          simpa using this
        subst this
        have a1' := a1
        rw [c5] at a1'
        have : j = k' := Option.some.inj a1'
        subst this
        exact hi (kids_once h0 ei a1).symm
theorem plcs_short {rs : List TRow} : ∀ (s : Nat) (p : List Nat), p ∈ (plcs rs s).1 → p.length ≤ s
  | 0, p, h => by
    have : p ∈ ([[]] : List (List Nat)) := h
    simp at this
    simp [this]
  | s + 1, p, h => by
    have ih := plcs_short (rs := rs) s
    unfold plcs plc at h
    split at h
    · split at h
      · rename_i q l h1 h2
        rcases List.mem_append.mp h with h | h
        · have := ih p h; omega
        · simp at h
          subst h
          have := ih q (List.mem_of_getElem? h1)
          simp; omega
      · have := ih p h; omega
    · have := ih p h; omega
end Mir
set_option Elab.async false
set_option linter.all false
set_option maxRecDepth 100000
set_option maxHeartbeats 4000000
namespace Mir
open PySem PySem.Spec L2

/-! ### small rows for reckoning -/
def encP (p : List Nat) : D := .tuple (p.map fun k => .int (k : Nat))
theorem map_at {α β : Type} {f : α → β} {xs : List α} {i : Nat} {y : β} (h : (xs.map f)[i]? = some y) : ∃ x, xs[i]? = some x ∧ y = f x := by
  rw [List.getElem?_map] at h
  cases e : xs[i]? with
  | none => rw [e] at h; simp at h
  | some x => rw [e] at h; simp at h; exact ⟨x, rfl, h.symm⟩
theorem enumD_at : ∀ (n i : Nat) (ds : List D) (x : D), (enumD n ds)[i]? = some x → ∃ d, ds[i]? = some d ∧ x = .tuple [.int ((n + i : Nat) : Int), d]
  | n, i, [], x, h => by simp [enumD] at h
  | n, 0, d :: ds, x, h => by simp [enumD] at h; exact ⟨d, rfl, by simp [h]⟩
  | n, i + 1, d :: ds, x, h => by
    obtain ⟨e, h1, h2⟩ := enumD_at (n + 1) i ds x (by simpa [enumD] using h)
    exact ⟨e, by simpa using h1, by rw [h2]; congr 3; congr 1; omega⟩
theorem zipD_at : ∀ (i : Nat) (xs ys : List D) (z : D), (zipD xs ys)[i]? = some z → ∃ x y, xs[i]? = some x ∧ ys[i]? = some y ∧ z = .tuple [x, y]
  | i, [], ys, z, h => by simp at h
  | i, x :: xs, [], z, h => by simp at h
  | 0, x :: xs, y :: ys, z, h => by simp at h; exact ⟨x, y, rfl, rfl, h.symm⟩
  | i + 1, x :: xs, y :: ys, z, h => by
    obtain ⟨a, b, c, d, e⟩ := zipD_at i xs ys z (by simpa using h)
    exact ⟨a, b, by simpa using c, by simpa using d, e⟩
theorem unDs_fun {α : Type} (f : α → D) (xs : List α) : unDs (xs.map fun x => Ow.d (f x)) = some (xs.map f) := by
  have : (xs.map fun x => Ow.d (f x)) = (xs.map f).map Ow.d := by rw [List.map_map]; rfl
  rw [this, unDs_map]
theorem unDs_of {α : Type} (f : α → D) (xs : List α) : shD (.l (xs.map fun x => Ow.d (f x))) = .ok (.list (xs.map f)) := by
  have : (xs.map fun x => Ow.d (f x)) = (xs.map f).map Ow.d := by rw [List.map_map]; rfl
  rw [this, shD_l]
theorem viewAll_of {α : Type} (f : α → D) (xs : List α) : viewAll (xs.map fun x => Ow.d (f x)) = xs.map f := by
  rw [viewAll_map, List.map_map]
  rfl
theorem viewD_of {α : Type} (f : α → D) (xs : List α) : viewD (.l (xs.map fun x => Ow.d (f x))) = .list (xs.map f) := by
  rw [viewD_l, viewAll_of]
theorem rg3_down (n : Nat) (h : n ≤ 1000) : rg3 [.int ((n : Int) - 1), .int 0, .int (-1)] = .ok (rangeCD ((n : Int) - 1) (-1) (n - 1)) := by
  have e : ((n : Int) - 1).toNat = n - 1 := by omega
  rw [← e]
  show guard _ (.ok (rangeCD ((n : Int) - 1) (-1) ((n : Int) - 1 - 0).toNat)) = _
  rw [Int.sub_zero]
  exact guard_ok ⟨rfl, by omega, by omega, by decide, by decide⟩
theorem rg3_all (n : Nat) (h : n ≤ 1000) : rg3 [.int ((n : Int) - 1), .int (-1), .int (-1)] = .ok (rangeCD ((n : Int) - 1) (-1) n) := by
  have e : ((n : Int) - 1 - -1).toNat = n := by omega
  have z : rg3 [.int ((n : Int) - 1), .int (-1), .int (-1)] = guard ((-1 : Int) = -1 ∧ -(2 ^ 62) ≤ (n : Int) - 1 ∧ (n : Int) - 1 < 2 ^ 62 ∧ -(2 ^ 62) ≤ (-1 : Int) ∧ (-1 : Int) < 2 ^ 62) (.ok (rangeCD ((n : Int) - 1) (-1) ((n : Int) - 1 - -1).toNat)) := rfl
  rw [z, guard_ok ⟨rfl, by omega, by omega, by decide, by decide⟩, e]
theorem rg2_up (n : Nat) (h : n ≤ 1000) : rg2 [.int 1, .int (n : Nat)] = .ok (rangeD 1 (n - 1)) := by
  have e : ((n : Int) - 1).toNat = n - 1 := by omega
  rw [← e]
  exact guard_ok ⟨by decide, by decide, by omega, by omega⟩
theorem rep_one (d : D) (n : Nat) (hl : n ≤ 1000) : repO (.l [.d d]) (.int (n : Nat)) = .ok (.l (List.replicate n (.d d))) := by
  rw [repO_of (ds := [d]) rfl ⟨by omega, by omega, by rw [Int.toNat_natCast, sizeLine_eq, List.length_singleton]; omega⟩, Int.toNat_natCast]
  have z : (List.replicate n [d]).flatten.map Ow.d = List.replicate n (.d d) := by simp
  rw [z]
theorem str_len (z : Str) : z.length = z.cps.toList.length := by first | rfl | simp [Str.length]
theorem gMul_small {i j : Int} (h1 : i.natAbs < 2 ^ 250) (h2 : j.natAbs < 2 ^ 250) : gMul (.int i) (.int j) = some (.int (i * j)) := by
  refine gMul_int ?_
  have : ∀ n : Nat, n < 2 ^ 250 → n.log2 < 250 := fun n h => by
    by_cases e : n = 0
    · subst e; decide
    · exact (Nat.log2_lt e).mpr h
  unfold CMulW
  have a := this _ h1
  have b := this _ h2
  omega
theorem gDiv_small {i j : Int} (h1 : 0 < j) (h2 : j.natAbs < 2 ^ 250) : gDiv (.int i) (.int j) = some (.int (i / j)) := by
  refine gDiv_int ⟨h1, ?_⟩
  have := (Nat.log2_lt (n := j.natAbs) (k := 250) (by omega)).mpr h2
  omega
theorem gPow10 (k : Nat) (h : k ≤ 1000) : gPow (.int 10) (.int k) = some (.int (10 ^ k)) := by
  rw [gPow_int ⟨by omega, by omega, by decide⟩]
  simp
theorem cutL_take {α : Type} (xs : List α) (k : Nat) : cutL xs none (some (k : Int)) = xs.take k := by
  unfold cutL
  rw [HT.sIx_none, HT.sIx_nat, List.drop_zero, Nat.sub_zero]
  by_cases h : k ≤ xs.length
  · rw [Nat.min_eq_left h]
  · rw [Nat.min_eq_right (by omega), List.take_of_length_le (Nat.le_refl _), List.take_of_length_le (by omega)]
theorem cutL_drop {α : Type} (xs : List α) (k : Nat) : cutL xs (some (k : Int)) none = xs.drop k := by
  unfold cutL
  rw [HT.sIx_none, HT.sIx_nat]
  by_cases h : k ≤ xs.length
  · rw [Nat.min_eq_left h, List.take_of_length_le (by rw [List.length_drop]; exact Nat.le_refl _)]
  · rw [Nat.min_eq_right (by omega), List.drop_of_length_le (by omega), List.drop_of_length_le (by omega)]
    simp
theorem canAll_of : ∀ ds : List D, (∀ d ∈ ds, d.canLay0 = true) → PyData.canLayAll0 ds = true
  | [], _ => by simp [PyData.canLayAll0]
  | d :: ds, h => by
    rw [PyData.canLayAll0, h d List.mem_cons_self, canAll_of ds fun d hd => h d (List.mem_cons_of_mem _ hd)]
    rfl
theorem depthAll_of {n : Nat} : ∀ ds : List D, (∀ d ∈ ds, d.depth ≤ n) → PyData.depthAll ds ≤ n
  | [], _ => by simp [PyData.depthAll]
  | d :: ds, h => by
    rw [PyData.depthAll]
    have := h d List.mem_cons_self
    have := depthAll_of ds fun d hd => h d (List.mem_cons_of_mem _ hd)
    omega
theorem can_encP (p : List Nat) : (encP p).canLay0 = true := by
  unfold encP
  rw [PyData.canLay0]
  exact canAll_of _ fun d hd => by
    obtain ⟨k, _, rfl⟩ := List.mem_map.mp hd
    rfl
theorem depth_encP (p : List Nat) : (encP p).depth ≤ 1 := by
  unfold encP
  rw [PyData.depth]
  have := depthAll_of (n := 0) (p.map fun k => PyData.int (k : Nat)) fun d hd => by
    obtain ⟨k, _, rfl⟩ := List.mem_map.mp hd
    simp [PyData.depth]
  omega
/-- data that == can be asked of -/
def Nice (d : D) : Prop := d.canLay0 = true ∧ d.depth ≤ 130
theorem gEq_nice {d e : D} (h : Nice d) (g : Nice e) : gEq d e = some (.bool (PyData.eqv d e)) := by
  have z : eqOk d e = true := by unfold eqOk; simp [h.1, h.2, g.1]
  unfold gEq; rw [if_pos (by rw [z, Bool.or_true])]
theorem gNe_nice {d e : D} (h : Nice d) (g : Nice e) : gNe d e = some (.bool (!PyData.eqv d e)) := by
  have z : eqOk d e = true := by unfold eqOk; simp [h.1, h.2, g.1]
  unfold gNe; rw [if_pos (by rw [z, Bool.or_true])]
theorem eqv_self {d : D} (h : Nice d) : PyData.eqv d d = true := SeqAt.eqv_refl d h.1
theorem gEq_self {d : D} (h : Nice d) : gEq d d = some (.bool true) := by rw [gEq_nice h h, eqv_self h]
theorem gNe_self {d : D} (h : Nice d) : gNe d d = some (.bool false) := by rw [gNe_nice h h, eqv_self h]; rfl
theorem nice_encP (p : List Nat) : Nice (encP p) := ⟨can_encP p, by have := depth_encP p; omega⟩

/-! ### trees as data -/
mutual
def okT : Tr → Prop
  | .mk nm _ bs => PyData.strOk nm = true ∧ bs.length ≤ 1000 ∧ okTs bs
def okTs : List Tr → Prop
  | [] => True
  | b :: bs => okT b ∧ okTs bs
end
theorem okTs_iff : ∀ bs : List Tr, okTs bs ↔ ∀ b ∈ bs, okT b
  | [] => by simp [okTs]
  | b :: bs => by rw [okTs, okTs_iff bs]; simp
mutual
theorem can_encT : ∀ t : Tr, okT t → (encT t).canLay0 = true
  | .mk nm k bs, h => by
    rw [okT] at h
    rw [encT, PyData.canLay0]
    simp [PyData.canLayAll0, PyData.canLay0, h.1, can_encTs bs h.2.2]
theorem can_encTs : ∀ bs : List Tr, okTs bs → PyData.canLayAll0 (encTs bs) = true
  | [], _ => by simp [encTs, PyData.canLayAll0]
  | b :: bs, h => by
    rw [okTs] at h
    rw [encTs, PyData.canLayAll0, can_encT b h.1, can_encTs bs h.2]
    rfl
end
mutual
theorem depth_encT : ∀ t : Tr, (encT t).depth ≤ 2 * levT t
  | .mk nm k bs => by
    rw [encT, levT]
    have := depth_encTs bs
    simp only [PyData.depth, PyData.depthAll]
    omega
theorem depth_encTs : ∀ bs : List Tr, PyData.depthAll (encTs bs) ≤ 2 * levTs bs
  | [] => by simp [encTs, PyData.depthAll]
  | b :: bs => by
    rw [encTs, PyData.depthAll, levTs]
    have := depth_encT b
    have := depth_encTs bs
    omega
end
theorem nice_encT {t : Tr} (h : okT t) (hl : levT t ≤ 65) : Nice (encT t) := ⟨can_encT t h, by have := depth_encT t; omega⟩
def encF (bs : List Tr) : Ow := .l (bs.map fun t => .d (encT t))
theorem shD_forest (bs : List Tr) : shD (encF bs) = .ok (.list (bs.map encT)) := unDs_of encT bs

/-! ### names by a number -/
abbrev abc : Str := "abcdefghijklmnopqrstuvwxyz"
theorem abc_len : abc.cps.toList.length = 26 := by decide +kernel
theorem abc_ok : abc.cps.toList.all (· < 0x110000) = true := by decide +kernel
theorem str_app_len (z u : Str) : (z ++ u).length = z.length + u.length := by
  show (z.cps ++ u.cps).size = z.cps.size + u.cps.size
  simp
theorem strOk_app {z u : Str} (h : PyData.strOk z = true) (g : PyData.strOk u = true) : PyData.strOk (z ++ u) = true := by
  unfold PyData.strOk at *
  show (z.cps ++ u.cps).all (· < 0x110000) = true
  rw [Array.all_append, h, g]
  rfl
theorem abc_at {k : Nat} (hk : k < 26) : ∃ u : Str, u.length = 1 ∧ PyData.strOk u = true ∧ gIx (.str abc) (.int (k : Int)) = some (.str u) := by
  have hm : abc.cps.toList[k]'(by rw [abc_len]; exact hk) ∈ abc.cps.toList := List.getElem_mem _
  refine ⟨⟨#[abc.cps.toList[k]'(by rw [abc_len]; exact hk)]⟩, rfl, ?_, ?_⟩
  · have := List.all_eq_true.mp abc_ok _ hm
    unfold PyData.strOk
    simpa using this
  · show (if abc.length ≤ sizeLine then _ else none) = _
    rw [if_pos (by rw [str_len, abc_len, sizeLine_eq]; decide), atI_natD (List.getElem?_eq_getElem _)]
    rfl
theorem name_by (c : Int) (h0 : 0 ≤ c) (h1 : c < 2147483648) : ∃ z : Str, finR ((sSeq (sSet 1 (eM (eC (.str "abcdefghijklmnopqrstuvwxyz")) Ow.d))
    (sSeq (sSet 2 (eM (eC (.str "")) Ow.d))
    (sSeq (sFor (eB (aCons (eM (eBinO gAdd (eC (.int 1)) (eBin gMod (eVar 0) (eC (.int 8)))) viewD) aNil) rg1) (gtName 3)
    (sSeq (sSet 0 (eM (eM (eBinO gAdd (eBin gDiv (eVar 0) (eC (.int 3))) (eBin gMul (eC (.int 7)) (eVar 3))) viewD) Ow.d))
    (sSet 2 (eM (eM (eBinO gAdd (eVar 2) (eBin gIx (eVar 1) (eBin gMod (eVar 0) (eC (.int 26))))) viewD) Ow.d))))
    (sRet (eM (eVar 2) Ow.d))))) (envOf 3 [.int c])) = .ok (.d (.str z)) ∧ z.length ≤ 8 ∧ PyData.strOk z = true := by
  have key := forL_ind (g := gtName 3) (f := (sSeq (sSet 0 (eM (eM (eBinO gAdd (eBin gDiv (eVar 0) (eC (.int 3))) (eBin gMul (eC (.int 7)) (eVar 3))) viewD) Ow.d))
    (sSet 2 (eM (eM (eBinO gAdd (eVar 2) (eBin gIx (eVar 1) (eBin gMod (eVar 0) (eC (.int 26))))) viewD) Ow.d)))) (rangeD 0 (1 + c % 8).toNat)
    (fun i env => ∃ (c' : Int) (z : Str) (x : Option Ow), env = [some (.d (.int c')), some (.d (.str "abcdefghijklmnopqrstuvwxyz")), some (.d (.str z)), x] ∧ 0 ≤ c' ∧ z.length ≤ i ∧ PyData.strOk z = true) (fun i d env hd ⟨c', z, x, he, hc, hz, ho⟩ => by
      obtain ⟨hi, ed⟩ := rangeD_at hd
      rw [Int.zero_add] at ed
      subst ed he
      have hmul : gMul (.int 7) (.int (i : Nat)) = some (.int (7 * (i : Nat))) := gMul_small (by decide) (by
        have : (10 : Nat) < 2 ^ 250 := by decide
        omega)
      have hdiv : gDiv (.int c') (.int 3) = some (.int (c' / 3)) := gDiv_small (by decide) (by decide)
      have hmod : gMod (.int (c' / 3 + 7 * (i : Nat))) (.int 26) = some (.int ((c' / 3 + 7 * (i : Nat)) % 26)) := gMod_int (by decide)
      obtain ⟨k, hk⟩ : ∃ k : Nat, (c' / 3 + 7 * (i : Nat)) % 26 = (k : Int) := ⟨((c' / 3 + 7 * (i : Nat)) % 26).toNat, by omega⟩
      have hk26 : k < 26 := by omega
      obtain ⟨u, hu, uo, hix⟩ := abc_at hk26
      rw [hk] at hmod
      have hadd : gAdd (.str z) (.str u) = some (.d (.str (z ++ u))) := gAdd_str (by rw [hu, sizeLine_eq]; omega)
      refine ⟨_, rfl, _, .inl ?_, c' / 3 + 7 * (i : Nat), z ++ u, some (.d (.int (i : Nat))), rfl, by omega, ?_, strOk_app ho uo⟩
      · simp [hmul, hdiv, hmod, hix, hadd]
      · rw [str_app_len, hu]
        omega) [some (.d (.int c)), some (.d (.str "abcdefghijklmnopqrstuvwxyz")), some (.d (.str "")), none] ⟨c, "", none, rfl, h0, by decide, by first | rfl | decide +kernel⟩
  obtain ⟨env', e1, c', z, x, e2, h2, h3, h4⟩ := key
  subst e2
  refine ⟨z, ?_, ?_, h4⟩
  · have hmod : gMod (.int c) (.int 8) = some (.int (c % 8)) := gMod_int (by decide)
    have hr : rg1 [.int (1 + c % 8)] = .ok (rangeD 0 (1 + c % 8).toNat) := guard_ok (by omega)
    simp [hmod, hr, e1]
  · have : (rangeD 0 (1 + c % 8).toNat).length = (1 + c % 8).toNat := by simp [rangeD]
    rw [this] at h3
    omega
theorem okT_at : ∀ (p : List Int) (t u : Tr), okT t → atZ t p = some u → okT u
  | [], t, u, h, e => by rw [atZ] at e; cases e; exact h
  | z :: p, .mk nm k bs, u, h, e => by
    rw [atZ] at e
    rw [okT] at h
    cases hn : nth bs z with
    | none => rw [hn] at e; cases e
    | some b =>
      rw [hn] at e
      refine okT_at p b u ((okTs_iff bs).mp h.2.2 b ?_) e
      unfold nth at hn
      split at hn
      · cases hn
      · exact List.mem_of_getElem? hn
theorem lcR_filter {g : D → Ev → Option Ev} {c : Ev → R Bool} {e : Ev → R Ow} {env : Ev} (P : D → Bool) (h : D → Ow) : ∀ ds : List D, (∀ d ∈ ds, ∃ env1, g d env = some env1 ∧ c env1 = .ok (P d) ∧ (P d = true → e env1 = .ok (h d))) → lcR g c e env ds = .ok ((ds.filter P).map h)
  | [], _ => rfl
  | d :: ds, q => by
    obtain ⟨env1, q1, q2, q3⟩ := q d List.mem_cons_self
    have ih := lcR_filter (g := g) (c := c) (e := e) (env := env) P h ds fun d hd => q d (List.mem_cons_of_mem _ hd)
    unfold lcR
    rw [q1]
    simp only [q2, noEx_ok, R.bind_ok]
    cases hp : P d with
    | true =>
      rw [List.filter_cons_of_pos hp]
      simp only [if_true, q3 hp, noEx_ok, R.bind_ok, ih]
      rfl
    | false =>
      rw [List.filter_cons_of_neg (by rw [hp]; exact Bool.false_ne_true)]
      simp only [Bool.false_eq_true, if_false, ih]
/-- the rows that hang below a row, counted -/
theorem kf_count {rs : List TRow} (j : Nat) : ∀ s, s + 1 ≤ rs.length → (kf rs s j).length = ((rs.drop (rs.length - s)).filter fun r => decide (r.up = j)).length
  | 0, h => by simp [kf]
  | s + 1, h => by
    have ih := kf_count (rs := rs) j s (by omega)
    have hl : rs.length - (s + 1) < rs.length := by omega
    have ek : rs.length - 1 - s = rs.length - (s + 1) := by omega
    rw [List.drop_eq_getElem_cons hl, kf, ek, List.getElem?_eq_getElem hl]
    have en : rs.length - (s + 1) + 1 = rs.length - s := by omega
    rw [en]
    by_cases c : (rs[rs.length - (s + 1)]).up = j
    · rw [Option.map_some, if_pos (by rw [c]), List.filter_cons_of_pos (by simpa using c), List.length_cons, List.length_cons, ih]
    · rw [Option.map_some, if_neg (fun z => c (Option.some.inj z)), List.filter_cons_of_neg (by simpa using c), ih]
theorem kf_few {rs : List TRow} : ∀ s j, (kf rs s j).length ≤ s
  | 0, _ => by simp [kf]
  | s + 1, j => by
    unfold kf
    have := kf_few (rs := rs) s j
    split
    · simp; omega
    · omega
theorem rowT_facts {rs : List TRow} (hb : Below rs) (h0 : 0 < rs.length) (hl : rs.length ≤ 1000) {sp : Int} {o : Tr} (ho : okT o) (hn : ∀ r ∈ rs, PyData.strOk r.nm = true) : ∀ (f j : Nat), rs.length - j ≤ f → j < rs.length → levT (rowT rs sp o j) ≤ rs.length - j + levT o ∧ okT (rowT rs sp o j)
  | 0, j, h, hj => by omega
  | f + 1, j, h, hj => by
    have hr : rs[j]? = some rs[j] := List.getElem?_eq_getElem hj
    have ih : ∀ k ∈ kids rs j, levT (rowT rs sp o k) ≤ rs.length - j - 1 + levT o ∧ okT (rowT rs sp o k) := fun k hk => by
      obtain ⟨a, b, c, _⟩ := kids_mem hb h0 hk
      have := rowT_facts hb h0 hl (sp := sp) ho hn f k (by omega) c
      exact ⟨by omega, this.2⟩
    rw [rowT_eq hb h0 hr]
    split
    · exact ⟨by omega, ho⟩
    · have lv : ∀ ks : List Nat, (∀ k ∈ ks, levT (rowT rs sp o k) ≤ rs.length - j - 1 + levT o ∧ okT (rowT rs sp o k)) → levTs (ks.map (rowT rs sp o)) ≤ rs.length - j - 1 + levT o ∧ okTs (ks.map (rowT rs sp o)) := by
        intro ks
        induction ks with
        | nil => intro _; simp [levTs, okTs]
        | cons k ks ihk =>
          intro q
          obtain ⟨a, b⟩ := ihk fun k hk => q k (List.mem_cons_of_mem _ hk)
          obtain ⟨c, d⟩ := q k List.mem_cons_self
          rw [List.map_cons, levTs, okTs]
          exact ⟨by omega, d, b⟩
      obtain ⟨a, b⟩ := lv _ ih
      rw [levT, okT]
      refine ⟨by omega, hn _ (List.getElem_mem _), ?_, b⟩
      rw [List.length_map]
      have := kf_few (rs := rs) (rs.length - 1) j
      show (kf rs (rs.length - 1) j).length ≤ 1000
      omega
end Mir
set_option Elab.async false
set_option linter.all false
set_option maxRecDepth 100000
set_option maxHeartbeats 4000000
namespace Mir
open PySem PySem.Spec L2

/-! ### texts by their signs' numbers -/
def tx (l : List Nat) : Str := ⟨l.toArray⟩
@[simp] theorem tx_cps (l : List Nat) : (tx l).cps.toList = l := by simp [tx]
@[simp] theorem tx_len (l : List Nat) : (tx l).length = l.length := by rw [str_len, tx_cps]
theorem tx_of (z : Str) : z = tx z.cps.toList := by
  cases z with
  | mk a => simp [tx]
theorem tx_app (a b : List Nat) : tx a ++ tx b = tx (a ++ b) := by
  show (⟨(tx a).cps ++ (tx b).cps⟩ : Str) = _
  simp [tx]
theorem tx_inj {a b : List Nat} (h : tx a = tx b) : a = b := by
  have := congrArg (fun z : Str => z.cps.toList) h
  simpa using this
theorem gLen_tx (l : List Nat) (h : l.length ≤ 16777216) : gLen [.str (tx l)] = some (.d (.int l.length)) := by
  show (if (tx l).length ≤ sizeLine then some (Ow.d (.int (tx l).length)) else none) = _
  rw [tx_len, if_pos (by rw [sizeLine_eq]; exact h)]
theorem gIx_tx {l : List Nat} {i c : Nat} (h : l[i]? = some c) (hl : l.length ≤ 16777216) : gIx (.str (tx l)) (.int (i : Nat)) = some (.str (tx [c])) := by
  show (if (tx l).length ≤ sizeLine then (atI (tx l).cps.toList (i : Int)).map fun c => PyData.str ⟨#[c]⟩ else none) = _
  rw [tx_len, tx_cps, if_pos (by rw [sizeLine_eq]; exact hl), atI_natD h]
  rfl
theorem atI_last {α : Type} {xs : List α} {x : α} : atI (xs ++ [x]) (-1) = some x := by
  unfold atI ixN
  rw [if_neg (by decide)]
  have : -((xs ++ [x]).length : Int) ≤ -1 := by rw [List.length_append, List.length_singleton]; omega
  rw [if_pos this]
  have e : (-1 + ((xs ++ [x]).length : Int)).toNat = xs.length := by rw [List.length_append, List.length_singleton]; omega
  show (xs ++ [x])[(-1 + ((xs ++ [x]).length : Int)).toNat]? = _
  rw [e, List.getElem?_append_right (Nat.le_refl _)]
  simp
theorem gIx_last {l : List Nat} {c : Nat} (hl : l.length < 16777216) : gIx (.str (tx (l ++ [c]))) (.int (-1)) = some (.str (tx [c])) := by
  show (if (tx (l ++ [c])).length ≤ sizeLine then (atI (tx (l ++ [c])).cps.toList (-1)).map fun c => PyData.str ⟨#[c]⟩ else none) = _
  rw [tx_len, tx_cps, if_pos (by rw [sizeLine_eq]; simp; omega), atI_last]
  rfl
def inS (c : Nat) (z : Str) : Bool := decide (c ∈ z.cps.toList)
theorem gIn_tx (c : Nat) (z : Str) : gIn (.str (tx [c])) (.str z) = some (.bool (inS c z)) := gIn_sign c z
theorem gEq_tx (a b : List Nat) : gEq (.str (tx a)) (.str (tx b)) = some (.bool (decide (a = b))) := by
  have : PyData.eqv (.str (tx a)) (.str (tx b)) = decide (a = b) := by
    show (tx a == tx b) = _
    by_cases h : a = b
    · subst h; simp
    · rw [decide_eq_false h]
      exact beq_eq_false_iff_ne.mpr fun e => h (tx_inj e)
  show some (PyData.bool (PyData.eqv (.str (tx a)) (.str (tx b)))) = _
  rw [this]
theorem gSl_tx {l : List Nat} {i j : Nat} (h : j ≤ l.length) (hi : i ≤ j) (hl : l.length ≤ 16777216) : gSl (.str (tx l)) (some (i : Int)) (some (j : Int)) = some (.d (.str (tx ((l.drop i).take (j - i))))) := by
  show (if (tx l).length ≤ sizeLine then some (Ow.d (.str (cutS (tx l) (some (i : Int)) (some (j : Int))))) else none) = _
  rw [tx_len, if_pos (by rw [sizeLine_eq]; exact hl)]
  unfold cutS
  rw [tx_len, tx_cps, HT.sIx_nat, HT.sIx_nat, Nat.min_eq_left h, Nat.min_eq_left (by omega)]
  rfl
theorem gSl_to {l : List Nat} {k : Nat} (hl : l.length ≤ 16777216) : gSl (.str (tx l)) none (some (k : Int)) = some (.d (.str (tx (l.take k)))) := by
  show (if (tx l).length ≤ sizeLine then some (Ow.d (.str (cutS (tx l) none (some (k : Int))))) else none) = _
  rw [tx_len, if_pos (by rw [sizeLine_eq]; exact hl)]
  unfold cutS
  rw [tx_len, tx_cps, HT.sIx_nat, HT.sIx_none, List.drop_zero, Nat.sub_zero]
  by_cases h : k ≤ l.length
  · rw [Nat.min_eq_left h]; rfl
  · rw [Nat.min_eq_right (by omega), List.take_of_length_le (Nat.le_refl _), List.take_of_length_le (by omega)]; rfl
theorem gAdd_tx {a b : List Nat} (h : a.length + b.length ≤ 16777216) : gAdd (.str (tx a)) (.str (tx b)) = some (.d (.str (tx (a ++ b)))) := by
  rw [gAdd_str (by rw [tx_len, tx_len, sizeLine_eq]; exact h), tx_app]
/-! letters, figures, signs -/
def isL (c : Nat) : Bool := decide (97 ≤ c) && decide (c ≤ 122)
def isF (c : Nat) : Bool := decide (48 ≤ c) && decide (c ≤ 57)
def sigs : List Nat := [40, 41, 59, 58, 61, 124, 42]
theorem abc_is : abc.cps.toList = (List.range 26).map (fun k => 97 + k) := by decide +kernel
theorem mem_abc (c : Nat) : decide (c ∈ abc.cps.toList) = isL c := by
  rw [abc_is]
  unfold isL
  by_cases h : 97 ≤ c ∧ c ≤ 122
  · rw [decide_eq_true (List.mem_map.mpr ⟨c - 97, List.mem_range.mpr (by omega), by omega⟩)]
    simp [h]
  · rw [decide_eq_false fun z => ?_]
    · by_cases h1 : 97 ≤ c
      · have : ¬ c ≤ 122 := fun q => h ⟨h1, q⟩
        simp [h1, this]
      · simp [h1]
    · obtain ⟨k, hk, e⟩ := List.mem_map.mp z
      rw [List.mem_range] at hk
      exact h ⟨by omega, by omega⟩
abbrev figs : Str := "0123456789"
theorem figs_is : figs.cps.toList = (List.range 10).map (fun k => 48 + k) := by decide +kernel
theorem mem_figs (c : Nat) : decide (c ∈ figs.cps.toList) = isF c := by
  rw [figs_is]
  unfold isF
  by_cases h : 48 ≤ c ∧ c ≤ 57
  · rw [decide_eq_true (List.mem_map.mpr ⟨c - 48, List.mem_range.mpr (by omega), by omega⟩)]
    simp [h]
  · rw [decide_eq_false fun z => ?_]
    · by_cases h1 : 48 ≤ c
      · have : ¬ c ≤ 57 := fun q => h ⟨h1, q⟩
        simp [h1, this]
      · simp [h1]
    · obtain ⟨k, hk, e⟩ := List.mem_map.mp z
      rw [List.mem_range] at hk
      exact h ⟨by omega, by omega⟩
theorem sigs_is : (Str.ofString "();:=|*").cps.toList = sigs := by decide +kernel
theorem sp_is : (Str.ofString " ") = tx [32] := by rw [tx_of (Str.ofString " ")]; congr 1
theorem sp4_is : (Str.ofString "    ") = tx [32, 32, 32, 32] := by rw [tx_of (Str.ofString "    ")]; congr 1
theorem minus_is : (Str.ofString "-") = tx [45] := by rw [tx_of (Str.ofString "-")]; congr 1
theorem nought_is : (Str.ofString "0") = tx [48] := by rw [tx_of (Str.ofString "0")]; congr 1
theorem empty_is : (Str.ofString "") = tx [] := by rw [tx_of (Str.ofString "")]; congr 1

/-! ### whole numbers told -/
theorem numL_head : ∀ n : Nat, 1 ≤ n → ∃ c r, TL.numL n = c :: r ∧ c ≠ 48 := by
  intro n
  induction n using Nat.strongRecOn with
  | _ n ih =>
    intro h
    by_cases h1 : n < 10
    · rw [TL.numL_lt h1]
      exact ⟨48 + n, [], rfl, by omega⟩
    · rw [TL.numL_step (by omega)]
      obtain ⟨c, r, e, ne⟩ := ih (n / 10) (by omega) (by omega)
      rw [e]
      exact ⟨c, r ++ [48 + n % 10], rfl, ne⟩
theorem numL_zero : TL.numL 0 = [48] := TL.numL_lt (by decide)
theorem numL_isF (n : Nat) : ∀ c ∈ TL.numL n, isF c = true := fun c hc => by
  have := TL.numL_digits n c hc
  unfold isF
  simp [this.1, this.2]
theorem num_tx (n : Nat) : Str.ofString (toString ((n : Nat) : Int)) = tx (TL.numL n) := by
  rw [tx_of (Str.ofString (toString ((n : Nat) : Int)))]
  congr 1
  exact TL.tl_num n
theorem neg_tx (n : Nat) : Str.ofString (toString (Int.negSucc n)) = tx (45 :: TL.numL (n + 1)) := by
  have e : toString (Int.negSucc n) = "-" ++ toString ((n + 1 : Nat) : Int) := rfl
  have h : (toString ((n + 1 : Nat) : Int)).toList.map Char.toNat = TL.numL (n + 1) := by
    have := TL.tl_num (n + 1)
    rw [Str.ofString_eq_toList] at this
    simpa [TL.tl] using this
  rw [e, Str.ofString_eq_toList, String.toList_append, List.map_append, h]
  rfl
theorem inS_abc (c : Nat) : inS c abc = isL c := mem_abc c
theorem inS_figs (c : Nat) : inS c figs = isF c := mem_figs c
theorem inS_sigs (c : Nat) : inS c (Str.ofString "();:=|*") = decide (c ∈ sigs) := by unfold inS; rw [sigs_is]
end Mir
set_option Elab.async false
set_option linter.all false
set_option maxRecDepth 100000
set_option maxHeartbeats 4000000
namespace Mir
open PySem PySem.Spec L2
theorem abc_ix {k : Nat} (hk : k < 26) : gIx (.str abc) (.int (k : Int)) = some (.str (tx [97 + k])) := by
  rw [tx_of abc, abc_is]
  refine gIx_tx ?_ (by simp)
  rw [List.getElem?_map, List.getElem?_range hk]
  rfl
theorem strOk_tx {l : List Nat} (h : ∀ c ∈ l, c < 1000) : PyData.strOk (tx l) = true := by
  unfold PyData.strOk
  simp only [tx, List.all_toArray, List.all_eq_true, decide_eq_true_eq]
  intro c hc
  have := h c hc
  omega
theorem isL_small {c : Nat} (h : isL c = true) : c < 1000 := by
  unfold isL at h
  simp only [Bool.and_eq_true, decide_eq_true_eq] at h
  omega
theorem isF_small {c : Nat} (h : isF c = true) : c < 1000 := by
  unfold isF at h
  simp only [Bool.and_eq_true, decide_eq_true_eq] at h
  omega
theorem name_tx (c : Int) (h0 : 0 ≤ c) (h1 : c < 2147483648) : ∃ w : List Nat, finR ((sSeq (sSet 1 (eM (eC (.str "abcdefghijklmnopqrstuvwxyz")) Ow.d))
    (sSeq (sSet 2 (eM (eC (.str "")) Ow.d))
    (sSeq (sFor (eB (aCons (eM (eBinO gAdd (eC (.int 1)) (eBin gMod (eVar 0) (eC (.int 8)))) viewD) aNil) rg1) (gtName 3)
    (sSeq (sSet 0 (eM (eM (eBinO gAdd (eBin gDiv (eVar 0) (eC (.int 3))) (eBin gMul (eC (.int 7)) (eVar 3))) viewD) Ow.d))
    (sSet 2 (eM (eM (eBinO gAdd (eVar 2) (eBin gIx (eVar 1) (eBin gMod (eVar 0) (eC (.int 26))))) viewD) Ow.d))))
    (sRet (eM (eVar 2) Ow.d))))) (envOf 3 [.int c])) = .ok (.d (.str (tx w))) ∧ w ≠ [] ∧ (∀ c ∈ w, isL c = true) ∧ w.length ≤ 8 := by
  have key := forL_ind (g := gtName 3) (f := (sSeq (sSet 0 (eM (eM (eBinO gAdd (eBin gDiv (eVar 0) (eC (.int 3))) (eBin gMul (eC (.int 7)) (eVar 3))) viewD) Ow.d))
    (sSet 2 (eM (eM (eBinO gAdd (eVar 2) (eBin gIx (eVar 1) (eBin gMod (eVar 0) (eC (.int 26))))) viewD) Ow.d)))) (rangeD 0 (1 + c % 8).toNat)
    (fun i env => ∃ (c' : Int) (w : List Nat) (x : Option Ow), env = [some (.d (.int c')), some (.d (.str "abcdefghijklmnopqrstuvwxyz")), some (.d (.str (tx w))), x] ∧ 0 ≤ c' ∧ w.length = i ∧ ∀ c ∈ w, isL c = true) (fun i d env hd ⟨c', w, x, he, hc, hz, ho⟩ => by
      obtain ⟨hi, ed⟩ := rangeD_at hd
      rw [Int.zero_add] at ed
      subst ed he
      have hmul : gMul (.int 7) (.int (i : Nat)) = some (.int (7 * (i : Nat))) := gMul_small (by decide) (by
        have : (10 : Nat) < 2 ^ 250 := by decide
        omega)
      have hdiv : gDiv (.int c') (.int 3) = some (.int (c' / 3)) := gDiv_small (by decide) (by decide)
      have hmod : gMod (.int (c' / 3 + 7 * (i : Nat))) (.int 26) = some (.int ((c' / 3 + 7 * (i : Nat)) % 26)) := gMod_int (by decide)
      obtain ⟨k, hk⟩ : ∃ k : Nat, (c' / 3 + 7 * (i : Nat)) % 26 = (k : Int) := ⟨((c' / 3 + 7 * (i : Nat)) % 26).toNat, by omega⟩
      have hk26 : k < 26 := by omega
      have hix := abc_ix hk26
      rw [hk] at hmod
      have hadd : gAdd (.str (tx w)) (.str (tx [97 + k])) = some (.d (.str (tx (w ++ [97 + k])))) := gAdd_tx (by rw [List.length_singleton]; omega)
      refine ⟨_, rfl, _, .inl ?_, c' / 3 + 7 * (i : Nat), w ++ [97 + k], some (.d (.int (i : Nat))), rfl, by omega, by simp [hz], fun c hc => ?_⟩
      · simp [hmul, hdiv, hmod, hix, hadd]
      · rcases List.mem_append.mp hc with h | h
        · exact ho c h
        · rw [List.mem_singleton] at h
          subst h
          unfold isL
          have a : 97 ≤ 97 + k := by omega
          have b : 97 + k ≤ 122 := by omega
          simp [a, b]) [some (.d (.int c)), some (.d (.str "abcdefghijklmnopqrstuvwxyz")), some (.d (.str "")), none] ⟨c, [], none, by rw [← empty_is], h0, rfl, fun c hc => by cases hc⟩
  obtain ⟨env', e1, c', w, x, e2, h2, h3, h4⟩ := key
  subst e2
  have hlen : (rangeD 0 (1 + c % 8).toNat).length = (1 + c % 8).toNat := by simp [rangeD]
  rw [hlen] at h3
  refine ⟨w, ?_, ?_, h4, by omega⟩
  · have hmod : gMod (.int c) (.int 8) = some (.int (c % 8)) := gMod_int (by decide)
    have hr : rg1 [.int (1 + c % 8)] = .ok (rangeD 0 (1 + c % 8).toNat) := guard_ok (by omega)
    simp [hmod, hr, e1]
  · intro e
    rw [e] at h3
    simp at h3
    omega
theorem log2_lt_of {n k : Nat} (h : n < 2 ^ k) (hk : 0 < k) : n.log2 < k := by
  by_cases e : n = 0
  · subst e; rw [show Nat.log2 0 = 0 from by decide]; exact hk
  · exact (Nat.log2_lt e).mpr h
theorem gStr_nat {n : Nat} (h : n < 2 ^ 1000) : gStr [.int (n : Nat)] = some (.d (.str (tx (TL.numL n)))) := by
  have : (Int.natAbs (n : Int)).log2 < 1920 := by
    rw [Int.natAbs_natCast]
    have := log2_lt_of h (by decide)
    omega
  show (if (Int.natAbs (n : Int)).log2 < 1920 then some (Ow.d (PyData.str (Str.ofString (toString (n : Int))))) else none) = _
  rw [if_pos this, num_tx]
theorem gStr_neg {n : Nat} (h : n + 1 < 2 ^ 1000) : gStr [.int (Int.negSucc n)] = some (.d (.str (tx (45 :: TL.numL (n + 1))))) := by
  have : (Int.negSucc n).natAbs.log2 < 1920 := by
    show (n + 1).log2 < 1920
    have := log2_lt_of h (by decide)
    omega
  show (if (Int.negSucc n).natAbs.log2 < 1920 then some (Ow.d (PyData.str (Str.ofString (toString (Int.negSucc n))))) else none) = _
  rw [if_pos this, neg_tx]
end Mir
set_option Elab.async false
set_option linter.all false
set_option maxRecDepth 100000
set_option maxHeartbeats 4000000
namespace Mir
open PySem PySem.Spec L2

/-! ### terms: calls of a mode on a branch, puts -/
inductive Trm where
  | call (m b : Int)
  | put (nm : Str) (kp : Bool) (ad : Int) (ps : List Trm)
mutual
def encM : Trm → D
  | .call m b => .tuple [.str "call", .int m, .int b]
  | .put nm kp ad ps => .tuple [.str "put", .str nm, .bool kp, .int ad, .tuple (encMs ps)]
def encMs : List Trm → List D
  | [] => []
  | p :: ps => encM p :: encMs ps
end
mutual
def sizeM : Trm → Nat
  | .call _ _ => 1
  | .put _ _ _ ps => 1 + sizeMs ps
def sizeMs : List Trm → Nat
  | [] => 0
  | p :: ps => sizeM p + sizeMs ps
end
mutual
def levM : Trm → Nat
  | .call _ _ => 1
  | .put _ _ _ ps => levMs ps + 1
def levMs : List Trm → Nat
  | [] => 0
  | p :: ps => max (levM p) (levMs ps)
end
mutual
def callsM : Trm → List (Int × Int)
  | .call m b => [(m, b)]
  | .put _ _ _ ps => callsMs ps
def callsMs : List Trm → List (Int × Int)
  | [] => []
  | p :: ps => callsM p ++ callsMs ps
end
mutual
def subM (f : Int → Int → Trm) : Trm → Trm
  | .call m b => f m b
  | .put nm kp ad ps => .put nm kp ad (subMs f ps)
def subMs (f : Int → Int → Trm) : List Trm → List Trm
  | [] => []
  | p :: ps => subM f p :: subMs f ps
end
mutual
def okM : Trm → Prop
  | .call _ _ => True
  | .put nm _ _ ps => PyData.strOk nm = true ∧ ps.length ≤ 1000 ∧ okMs ps
def okMs : List Trm → Prop
  | [] => True
  | p :: ps => okM p ∧ okMs ps
end
theorem encMs_map : ∀ ps : List Trm, encMs ps = ps.map encM
  | [] => by rw [encMs]; rfl
  | p :: ps => by rw [encMs, encMs_map ps]; rfl
theorem subMs_map (f : Int → Int → Trm) : ∀ ps : List Trm, subMs f ps = ps.map (subM f)
  | [] => by rw [subMs]; rfl
  | p :: ps => by rw [subMs, subMs_map f ps]; rfl
theorem sizeMs_sum : ∀ ps : List Trm, sizeMs ps = (ps.map sizeM).sum
  | [] => by rw [sizeMs]; rfl
  | p :: ps => by rw [sizeMs, sizeMs_sum ps]; rfl
theorem callsMs_flat : ∀ ps : List Trm, callsMs ps = (ps.map callsM).flatten
  | [] => by rw [callsMs]; rfl
  | p :: ps => by rw [callsMs, callsMs_flat ps]; rfl
theorem okMs_iff : ∀ ps : List Trm, okMs ps ↔ ∀ p ∈ ps, okM p
  | [] => by simp [okMs]
  | p :: ps => by rw [okMs, okMs_iff ps]; simp
theorem encM_call (m b : Int) : encM (.call m b) = .tuple [.str "call", .int m, .int b] := by rw [encM]
theorem encM_put (nm : Str) (kp : Bool) (ad : Int) (ps : List Trm) : encM (.put nm kp ad ps) = .tuple [.str "put", .str nm, .bool kp, .int ad, .tuple (ps.map encM)] := by rw [encM, encMs_map]
theorem levMs_le {n : Nat} : ∀ {ps : List Trm}, levMs ps ≤ n → ∀ p ∈ ps, levM p ≤ n
  | [], _, b, h => by simp at h
  | c :: ps, h, b, hb => by
    rw [levMs] at h
    rcases List.mem_cons.mp hb with e | e
    · subst e; omega
    · exact levMs_le (by omega) b e
mutual
theorem can_encM : ∀ t : Trm, okM t → (encM t).canLay0 = true
  | .call m b, _ => by
    rw [encM, PyData.canLay0]
    have : PyData.strOk "call" = true := by decide +kernel
    simp [PyData.canLayAll0, PyData.canLay0, this]
  | .put nm kp ad ps, h => by
    rw [okM] at h
    rw [encM, PyData.canLay0]
    have : PyData.strOk "put" = true := by decide +kernel
    simp [PyData.canLayAll0, PyData.canLay0, this, h.1, can_encMs ps h.2.2]
theorem can_encMs : ∀ ps : List Trm, okMs ps → PyData.canLayAll0 (encMs ps) = true
  | [], _ => by simp [encMs, PyData.canLayAll0]
  | p :: ps, h => by
    rw [okMs] at h
    rw [encMs, PyData.canLayAll0, can_encM p h.1, can_encMs ps h.2]
    rfl
end
mutual
theorem depth_encM : ∀ t : Trm, (encM t).depth ≤ 2 * levM t
  | .call m b => by rw [encM, levM]; simp [PyData.depth, PyData.depthAll]
  | .put nm kp ad ps => by
    rw [encM, levM]
    have := depth_encMs ps
    simp only [PyData.depth, PyData.depthAll]
    omega
theorem depth_encMs : ∀ ps : List Trm, PyData.depthAll (encMs ps) ≤ 2 * levMs ps
  | [] => by simp [encMs, PyData.depthAll]
  | p :: ps => by
    rw [encMs, PyData.depthAll, levMs]
    have := depth_encM p
    have := depth_encMs ps
    omega
end
theorem nice_encM {t : Trm} (h : okM t) (hl : levM t ≤ 65) : Nice (encM t) := ⟨can_encM t h, by have := depth_encM t; omega⟩
theorem str_eqv (a b : Str) : PyData.eqv (.str a) (.str b) = (a == b) := rfl
theorem gEq_strs (a b : String) : gEq (.str (Str.ofString a)) (.str (Str.ofString b)) = some (.bool (PyData.eqv (.str (Str.ofString a)) (.str (Str.ofString b)))) := rfl
@[simp] theorem gEq_cc : gEq (.str (Str.ofString "call")) (.str (Str.ofString "call")) = some (.bool true) := by
  have h : (Str.ofString "call" == Str.ofString "call") = true := by decide +kernel
  rw [gEq_strs, str_eqv, h]
@[simp] theorem gEq_pc : gEq (.str (Str.ofString "put")) (.str (Str.ofString "call")) = some (.bool false) := by
  have h : (Str.ofString "put" == Str.ofString "call") = false := by decide +kernel
  rw [gEq_strs, str_eqv, h]
@[simp] theorem gEq_cp : gEq (.str (Str.ofString "call")) (.str (Str.ofString "put")) = some (.bool false) := by
  have h : (Str.ofString "call" == Str.ofString "put") = false := by decide +kernel
  rw [gEq_strs, str_eqv, h]
@[simp] theorem gEq_pp : gEq (.str (Str.ofString "put")) (.str (Str.ofString "put")) = some (.bool true) := by
  have h : (Str.ofString "put" == Str.ofString "put") = true := by decide +kernel
  rw [gEq_strs, str_eqv, h]
theorem intsD_nats (f : Trm → Nat) : ∀ ps : List Trm, intsD (ps.map fun p => PyData.int ((f p : Nat) : Int)) = some (ps.map fun p => ((f p : Nat) : Int))
  | [] => rfl
  | p :: ps => by
    have ih := intsD_nats f ps
    rw [List.map_cons, List.map_cons]
    unfold intsD
    rw [ih]
    rfl
theorem sum_nats (f : Trm → Nat) : ∀ ps : List Trm, (ps.map fun p => ((f p : Nat) : Int)).sum = (((ps.map f).sum : Nat) : Int)
  | [] => rfl
  | p :: ps => by simp [sum_nats f ps]

theorem lcR_map {α : Type} {g : D → Ev → Option Ev} {c : Ev → R Bool} {e : Ev → R Ow} {env : Ev} (enc : α → D) (out : α → Ow) : ∀ xs : List α, (∀ a ∈ xs, ∃ env1, g (enc a) env = some env1 ∧ c env1 = .ok true ∧ e env1 = .ok (out a)) → lcR g c e env (xs.map enc) = .ok (xs.map out)
  | [], _ => rfl
  | a :: xs, q => by
    obtain ⟨env1, q1, q2, q3⟩ := q a List.mem_cons_self
    rw [List.map_cons]
    unfold lcR
    rw [q1]
    simp only [q2, q3, noEx_ok, R.bind_ok, if_true]
    rw [lcR_map enc out xs fun d hd => q d (List.mem_cons_of_mem _ hd)]
    rfl
theorem forL_map {α : Type} {g : D → Ev → Option Ev} {f : Ev → SR} (enc : α → D) (xs : List α) (I : Nat → Ev → Prop) (step : ∀ i a env, xs[i]? = some a → I i env → ∃ env1, g (enc a) env = some env1 ∧ ∃ env2, (f env1 = .nx env2 ∨ f env1 = .ct env2) ∧ I (i + 1) env2) (env : Ev) (h : I 0 env) : ∃ env', forL g f (xs.map enc) env = .nx env' ∧ I xs.length env' := by
  have := forL_ind (g := g) (f := f) (xs.map enc) I (fun i d env hd hi => by
    obtain ⟨a, ha, rfl⟩ := map_at hd
    exact step i a env ha hi) env h
  rwa [List.length_map] at this
/-! ### the program's functions of terms, each once -/
noncomputable section
abbrev bSize (f : List D → R Ow) : Ev → SR :=
    (sSeq (sIf (eB (eBin gEq (eBin gIx (eVar 0) (eC (.int 0))) (eC (.str "call"))) asB)
    (sRet (eM (eC (.int 1)) Ow.d))
    sSkip)
    (sRet (eBinO gAdd (eC (.int 1)) (eB (eCa gSum (aCons (eB (eLc (eB (eBin gIx (eVar 0) (eC (.int 4))) itD) (gtName 1) cYes (eB (aCons (eVar 1) aNil) f) [1]) shD) aNil)) shD))))
abbrev bCalls (f : List D → R Ow) : Ev → SR :=
    (sSeq (sIf (eB (eBin gEq (eBin gIx (eVar 0) (eC (.int 0))) (eC (.str "call"))) asB)
    (sRet (eLst (aCons (eTup (aCons (eBin gIx (eVar 0) (eC (.int 1))) (aCons (eBin gIx (eVar 0) (eC (.int 2))) aNil))) aNil)))
    sSkip)
    (sSeq (sSet 1 (eLst aNil))
    (sSeq (sFor (eB (eBin gIx (eVar 0) (eC (.int 4))) itD) (gtName 2)
    (sExt 1 (eB (eB (aCons (eVar 2) aNil) f) shD)))
    (sRetV 1))))
abbrev ePut (f : List D → R Ow) : Ev → R Ow := (eM (eTup (aCons (eC (.str "put")) (aCons (eBin gIx (eVar 0) (eC (.int 1))) (aCons (eBin gIx (eVar 0) (eC (.int 2))) (aCons (eBin gIx (eVar 0) (eC (.int 3))) (aCons (eM (eCa gTuple (aCons (eB (eLc (eB (eBin gIx (eVar 0) (eC (.int 4))) itD) (gtName 2) cYes (eB (aCons (eVar 2) (aCons (eVar 1) aNil)) f) [2]) shD) aNil)) viewD) aNil)))))) Ow.d)
abbrev bOn (f : List D → R Ow) : Ev → SR :=
    (sSeq (sIf (eB (eBin gEq (eBin gIx (eVar 0) (eC (.int 0))) (eC (.str "call"))) asB)
    (sRet (eM (eTup (aCons (eC (.str "call")) (aCons (eBin gIx (eVar 0) (eC (.int 1))) (aCons (eVar 1) aNil)))) Ow.d))
    sSkip)
    (sRet (ePut f)))
abbrev bTin (fo f : List D → R Ow) : Ev → SR :=
    (sSeq (sIf (eB (eBin gEq (eBin gIx (eVar 0) (eC (.int 0))) (eC (.str "call"))) asB)
    (sRet (eB (aCons (eBin gIx (eVar 1) (eBin gIx (eVar 0) (eC (.int 1)))) (aCons (eBin gIx (eVar 0) (eC (.int 2))) aNil)) fo))
    sSkip)
    (sRet (ePut f)))
abbrev bRin (f : List D → R Ow) : Ev → SR :=
    (sSeq (sIf (eB (eBin gEq (eBin gIx (eVar 0) (eC (.int 0))) (eC (.str "call"))) asB)
    (sRet (eM (eBin gIx (eVar 1) (eBin gIx (eVar 0) (eC (.int 1)))) Ow.d))
    sSkip)
    (sRet (ePut f)))
theorem size_call (f : List D → R Ow) (m b : Int) : finR (bSize f (envOf 1 [encM (.call m b)])) = .ok (.d (.int (sizeM (.call m b) : Nat))) := by
  rw [encM_call, sizeM]
  simp
theorem size_put (f : List D → R Ow) {nm : Str} {kp : Bool} {ad : Int} {ps : List Trm} (hl : ps.length ≤ 1000) (h : ∀ p ∈ ps, f [encM p] = .ok (.d (.int (sizeM p : Nat)))) : finR (bSize f (envOf 1 [encM (.put nm kp ad ps)])) = .ok (.d (.int (sizeM (.put nm kp ad ps) : Nat))) := by
  have lc : eLc (eB (eBin gIx (eVar 0) (eC (.int 4))) itD) (gtName 1) cYes (eB (aCons (eVar 1) aNil) f) [1] [some (.d (encM (.put nm kp ad ps))), none] = .ok (.l (ps.map fun p => .d (.int (sizeM p : Nat)))) := by
    refine eLc_of (ds := ps.map encM) (by rw [encM_put]; simp) (by rw [List.length_map, sizeLine_eq]; omega) (lcR_map encM _ ps fun p hp => ⟨[some (.d (encM (.put nm kp ad ps))), some (.d (encM p))], by simp [wipeE], rfl, by simp [h p hp]⟩)
  have sm : gSum [.list (ps.map fun p => PyData.int ((sizeM p : Nat) : Int))] = some (.d (.int ((ps.map sizeM).sum : Nat))) := by
    show (intsD _).map _ = _
    rw [intsD_nats, Option.map_some, sum_nats]
  have sh := unDs_of (fun p : Trm => PyData.int ((sizeM p : Nat) : Int)) ps
  have e0 : gIx (encM (.put nm kp ad ps)) (.int 0) = some (.str "put") := by rw [encM_put]; simp
  rw [sizeM, sizeMs_sum]
  simp [e0, lc, sh, sm]
theorem calls_call (f : List D → R Ow) (m b : Int) : finR (bCalls f (envOf 2 [encM (.call m b)])) = .ok (.l [.d (.tuple [.int m, .int b])]) := by
  rw [encM_call]
  simp [sizeLine_eq]
def encC (c : Int × Int) : D := .tuple [.int c.1, .int c.2]
abbrev encCs (cs : List (Int × Int)) : Ow := .l (cs.map fun c => .d (encC c))
theorem callsMs_take {ps : List Trm} {i : Nat} {p : Trm} (h : ps[i]? = some p) : callsMs (ps.take (i + 1)) = callsMs (ps.take i) ++ callsM p := by
  rw [callsMs_flat, callsMs_flat, List.take_add_one, h]
  simp
theorem callsMs_len {ps : List Trm} (i : Nat) : (callsMs (ps.take i)).length ≤ (callsMs ps).length := by
  rw [callsMs_flat, callsMs_flat]
  conv => rhs; rw [← List.take_append_drop i ps, List.map_append, List.flatten_append, List.length_append]
  exact Nat.le_add_right _ _
theorem calls_put (f : List D → R Ow) {nm : Str} {kp : Bool} {ad : Int} {ps : List Trm} (hl : (callsMs ps).length ≤ 1000) (h : ∀ p ∈ ps, f [encM p] = .ok (encCs (callsM p))) : finR (bCalls f (envOf 2 [encM (.put nm kp ad ps)])) = .ok (encCs (callsM (.put nm kp ad ps))) := by
  have key := forL_map (g := gtName 2) (f := sExt 1 (eB (eB (aCons (eVar 2) aNil) f) shD)) encM ps
    (fun i env => ∃ x, env = [some (.d (encM (.put nm kp ad ps))), some (encCs (callsMs (ps.take i))), x]) (fun i p env hp ⟨x, he⟩ => by
      subst he
      refine ⟨_, rfl, [some (.d (encM (.put nm kp ad ps))), some (encCs (callsMs (ps.take (i + 1)))), some (.d (encM p))], .inl ?_, _, rfl⟩
      have hm := h p (List.mem_of_getElem? hp)
      have l1 := callsMs_len (ps := ps) (i + 1)
      rw [callsMs_take hp] at l1 ⊢
      have sh := unDs_of encC (callsM p)
      rw [List.length_append] at l1
      have l2 : (callsMs (ps.take i)).length + (callsM p).length ≤ 16777216 := by omega
      simp [hm, sh, l2, sizeLine_eq, asL]) [some (.d (encM (.put nm kp ad ps))), some (.l []), none] ⟨none, by simp [callsMs]⟩
  obtain ⟨env', e1, x, e2⟩ := key
  subst e2
  rw [List.take_length] at e1
  have e0 : gIx (encM (.put nm kp ad ps)) (.int 0) = some (.str "put") := by rw [encM_put]; simp
  have e4 : gIx (encM (.put nm kp ad ps)) (.int 4) = some (.tuple (ps.map encM)) := by rw [encM_put]; simp
  rw [callsM]
  simp [e0, e4, sizeLine_eq, e1, sRetV]
theorem ePut_ok (f : List D → R Ow) {nm : Str} {kp : Bool} {ad : Int} {ps : List Trm} {y : D} (g : Trm → Trm) (hl : ps.length ≤ 1000) (h : ∀ p ∈ ps, f [encM p, y] = .ok (.d (encM (g p)))) : ePut f [some (.d (encM (.put nm kp ad ps))), some (.d y), none] = .ok (.d (encM (.put nm kp ad (ps.map g)))) := by
  have lc : eLc (eB (eBin gIx (eVar 0) (eC (.int 4))) itD) (gtName 2) cYes (eB (aCons (eVar 2) (aCons (eVar 1) aNil)) f) [2] [some (.d (encM (.put nm kp ad ps))), some (.d y), none] = .ok (.l (ps.map fun p => .d (encM (g p)))) := by
    refine eLc_of (ds := ps.map encM) (by rw [encM_put]; simp) (by rw [List.length_map, sizeLine_eq]; omega) (lcR_map encM _ ps fun p hp => ⟨[some (.d (encM (.put nm kp ad ps))), some (.d y), some (.d (encM p))], by simp [wipeE], rfl, by simp [h p hp]⟩)
  have sh := unDs_of (fun p : Trm => encM (g p)) ps
  have e1 : gIx (encM (.put nm kp ad ps)) (.int 1) = some (.str nm) := by rw [encM_put]; simp
  have e2 : gIx (encM (.put nm kp ad ps)) (.int 2) = some (.bool kp) := by rw [encM_put]; simp
  have e3 : gIx (encM (.put nm kp ad ps)) (.int 3) = some (.int ad) := by rw [encM_put]; simp
  rw [encM_put nm kp ad (ps.map g), List.map_map]
  simp [e1, e2, e3, lc, sh, sizeLine_eq]
theorem sub_put (c : Ev → SR) (f : List D → R Ow) {nm : Str} {kp : Bool} {ad : Int} {ps : List Trm} {y : D} (g : Int → Int → Trm) (hl : ps.length ≤ 1000) (h : ∀ p ∈ ps, f [encM p, y] = .ok (.d (encM (subM g p)))) :
    finR ((sSeq (sIf (eB (eBin gEq (eBin gIx (eVar 0) (eC (.int 0))) (eC (.str "call"))) asB) c sSkip) (sRet (ePut f))) (envOf 1 [encM (.put nm kp ad ps), y])) = .ok (.d (encM (subM g (.put nm kp ad ps)))) := by
  have e0 : gIx (encM (.put nm kp ad ps)) (.int 0) = some (.str "put") := by rw [encM_put]; simp
  have := ePut_ok f (kp := kp) (ad := ad) (nm := nm) (y := y) (subM g) hl h
  have c1 : (eB (eBin gEq (eBin gIx (eVar 0) (eC (.int 0))) (eC (.str "call"))) asB) [some (.d (encM (.put nm kp ad ps))), some (.d y), none] = .ok false := by simp [e0]
  have he : envOf 1 [encM (.put nm kp ad ps), y] = [some (.d (encM (.put nm kp ad ps))), some (.d y), none] := rfl
  rw [he, sSeq_eq, sIf_eq, c1, subM, subMs_map]
  simp only [R.st_ok, Bool.false_eq_true, if_false, sSkip_eq, SR.andThen, sRet_eq, this]
  rfl
theorem on_call (f : List D → R Ow) (m b c : Int) : finR (bOn f (envOf 1 [encM (.call m b), .int c])) = .ok (.d (encM (.call m c))) := by
  rw [encM_call, encM_call]
  simp [sizeLine_eq]
theorem tin_call (fo f : List D → R Ow) (m b : Int) {ts : List D} {t u : D} (h : atI ts m = some t) (ho : fo [t, .int b] = .ok (.d u)) : finR (bTin fo f (envOf 1 [encM (.call m b), .list ts])) = .ok (.d u) := by
  rw [encM_call]
  simp [h, ho]
theorem rin_call (f : List D → R Ow) (m b : Int) {ts : List D} {t : D} (h : atI ts m = some t) : finR (bRin f (envOf 1 [encM (.call m b), .list ts])) = .ok (.d t) := by
  rw [encM_call]
  simp [h]
end
end Mir
set_option Elab.async false
set_option linter.all false
set_option maxRecDepth 100000
set_option maxHeartbeats 4000000
namespace Mir
open PySem PySem.Spec L2

/-! ### what hangs below each row, by the rows' trees -/
theorem hangs_at {rs : List TRow} (hb : Below rs) (h0 : 0 < rs.length) {o : Tr} : ∀ s, s + 1 ≤ rs.length → ∀ j, j < rs.length → (hangs rs s)[j]? = some ((kf rs s j).map (rowT rs (-1) o))
  | 0, _, j, hj => by
    unfold hangs kf
    simp [hj]
  | s + 1, h, j, hj => by
    have ih := hangs_at hb h0 (o := o) s (by omega)
    obtain ⟨r, b, b', f1, f2, f3, f4, f5⟩ := hang_step hb (k := rs.length - 1 - s) (by omega) (by omega) (hangs_len rs s)
    rw [ih _ (by omega)] at f3
    rw [ih _ (by omega)] at f4
    have hk : kids rs (rs.length - 1 - s) = kf rs s (rs.length - 1 - s) := by
      rw [kids_at hb (by omega)]
      congr 1
      omega
    have e : Tr.mk r.nm r.mar b = rowT rs (-1) o (rs.length - 1 - s) := by
      rw [rowT_eq hb h0 f1, if_neg (by omega), hk, Option.some.inj f3]
    rw [hangs, f5, e, kf, f1, Option.map_some]
    by_cases c : r.up = j
    · subst c
      rw [List.getElem?_set_self (by rw [hangs_len]; exact hj), if_pos rfl, List.map_cons, ← Option.some.inj f4]
    · rw [List.getElem?_set_ne c, if_neg (fun z => c (Option.some.inj z)), ih j hj]
theorem tree_row {rs : List TRow} (hb : Below rs) (h0 : 0 < rs.length) {o : Tr} : treeOf rs = some (rowT rs (-1) o 0) := by
  have hr : rs[0]? = some rs[0] := List.getElem?_eq_getElem h0
  have := hangs_at hb h0 (o := o) (rs.length - 1) (by omega) 0 h0
  unfold treeOf
  rw [hr, this]
  simp only
  rw [rowT_eq hb h0 hr, if_neg (by omega)]
  rfl

/-! ### the marks in the order of the places -/
def mar : Tr → Int
  | .mk _ k _ => k
mutual
def mkT : Tr → List Int
  | .mk _ k bs => k :: mkTs bs
def mkTs : List Tr → List Int
  | [] => []
  | b :: bs => mkT b ++ mkTs bs
end
def marAt (t : Tr) (p : List Nat) : Int := ((atZ t (zs p)).map mar).getD 0
mutual
theorem mkT_at : ∀ t : Tr, mkT t = (plT t).map (marAt t)
  | .mk nm k bs => by
    rw [mkT, plT, List.map_cons]
    congr 1
    exact mkTs_at nm k [] bs
theorem mkTs_at (nm : Str) (k : Int) : ∀ (pre bs : List Tr), mkTs bs = (plTs pre.length bs).map (marAt (.mk nm k (pre ++ bs)))
  | pre, [] => by rw [mkTs, plTs]; rfl
  | pre, b :: bs => by
    have ih := mkTs_at nm k (pre ++ [b]) bs
    rw [mkTs, plTs, List.map_append, mkT_at b]
    rw [List.length_append, List.length_singleton, List.append_assoc] at ih
    rw [ih]
    congr 1
    rw [List.map_map]
    refine List.map_congr_left fun p _ => ?_
    show marAt b p = marAt _ (pre.length :: p)
    unfold marAt
    rw [show zs (pre.length :: p) = (pre.length : Int) :: zs p from rfl, atZ, nth_nat, List.getElem?_append_right (Nat.le_refl _), Nat.sub_self]
    rfl
end
/-- row k stands at its place -/
theorem marAt_row {rs : List TRow} (hb : Below rs) (h0 : 0 < rs.length) {o : Tr} (hm : ∀ (k : Nat) (r : TRow), rs[k]? = some r → r.mar = (k : Int)) {k : Nat} {p : List Nat} (hk : k < rs.length) (hp : (plcs rs (rs.length - 1)).1[k]? = some p) : marAt (rowT rs (-1) o 0) p = (k : Nat) := by
  have hr : rs[k]? = some rs[k] := List.getElem?_eq_getElem hk
  unfold marAt
  rw [at_place hb h0 (o := o) _ k p (Nat.lt_succ_self _) hk hp, rowT_eq hb h0 hr, if_neg (by omega), hm k _ hr]
  rfl
/-- the pairs of place and row, in the rows' order and in the places' -/
theorem pairs_perm {rs : List TRow} (hb : Below rs) (h0 : 0 < rs.length) {o : Tr} (hm : ∀ (k : Nat) (r : TRow), rs[k]? = some r → r.mar = (k : Int)) :
    ((plT (rowT rs (-1) o 0)).map fun p => (p, marAt (rowT rs (-1) o 0) p)).Perm ((plcs rs (rs.length - 1)).1.zipIdx.map fun x => (x.1, (x.2 : Int))) := by
  obtain ⟨t, e, hp⟩ := tree_places hb h0
  rw [tree_row hb h0 (o := o)] at e
  cases e
  have := hp.map fun p => (p, marAt (rowT rs (-1) o 0) p)
  refine this.trans (List.Perm.of_eq ?_)
  refine List.ext_getElem? fun i => ?_
  rw [List.getElem?_map, List.getElem?_map, List.getElem?_zipIdx]
  cases hi : (plcs rs (rs.length - 1)).1[i]? with
  | none => rfl
  | some p =>
    obtain ⟨l1, _, _⟩ := plcs_len hb (rs.length - 1) (by omega)
    have il := (List.getElem?_eq_some_iff.mp hi).1
    simp only [Option.map_some, Nat.zero_add]
    rw [marAt_row hb h0 hm (by omega) hi]

/-! ### a tree read as a term: by each mark, of what the branches are read as -/
mutual
def tmOf (g : Int → List Trm → Trm) : Tr → Trm
  | .mk _ k bs => g k (tmOfs g bs)
def tmOfs (g : Int → List Trm → Trm) : List Tr → List Trm
  | [] => []
  | b :: bs => tmOf g b :: tmOfs g bs
end
theorem tmOfs_map (g : Int → List Trm → Trm) : ∀ bs : List Tr, tmOfs g bs = bs.map (tmOf g)
  | [] => by rw [tmOfs]; rfl
  | b :: bs => by rw [tmOfs, tmOfs_map g bs]; rfl
mutual
/-- a row of which q says so has nothing below -/
def Flat (q : Int → Prop) : Tr → Prop
  | .mk _ k bs => (q k → bs = []) ∧ Flats q bs
def Flats (q : Int → Prop) : List Tr → Prop
  | [] => True
  | b :: bs => Flat q b ∧ Flats q bs
end
theorem flats_of {q : Int → Prop} : ∀ bs : List Tr, (∀ b ∈ bs, Flat q b) → Flats q bs
  | [], _ => by rw [Flats]; trivial
  | b :: bs, h => by rw [Flats]; exact ⟨h b List.mem_cons_self, flats_of bs fun c hc => h c (List.mem_cons_of_mem _ hc)⟩
theorem flat_row {rs : List TRow} (hb : Below rs) (h0 : 0 < rs.length) {o : Tr} {q : Int → Prop} (hq : ∀ k r, rs[k]? = some r → q r.mar → kids rs k = []) : ∀ (f k : Nat), rs.length - k ≤ f → k < rs.length → Flat q (rowT rs (-1) o k)
  | 0, k, h, hk => by omega
  | f + 1, k, h, hk => by
    have hr : rs[k]? = some rs[k] := List.getElem?_eq_getElem hk
    rw [rowT_eq hb h0 hr, if_neg (by omega), Flat]
    refine ⟨fun z => by rw [hq k _ hr z]; rfl, flats_of _ fun b hbm => ?_⟩
    obtain ⟨j, hj, rfl⟩ := List.mem_map.mp hbm
    obtain ⟨_, a, c, _⟩ := kids_mem hb h0 hj
    exact flat_row hb h0 hq f j (by omega) c
mutual
theorem size_tm {q : Int → Prop} {g : Int → List Trm → Trm} (hg : ∀ k ps, (q k → ps = []) → sizeM (g k ps) = 1 + sizeMs ps) : ∀ t : Tr, Flat q t → sizeM (tmOf g t) = sizeT t
  | .mk nm k bs, h => by
    rw [Flat] at h
    rw [tmOf, sizeT, hg, size_tms hg bs h.2]
    intro z
    rw [h.1 z, tmOfs]
theorem size_tms {q : Int → Prop} {g : Int → List Trm → Trm} (hg : ∀ k ps, (q k → ps = []) → sizeM (g k ps) = 1 + sizeMs ps) : ∀ bs : List Tr, Flats q bs → sizeMs (tmOfs g bs) = sizeTs bs
  | [], _ => by rw [tmOfs, sizeMs, sizeTs]
  | b :: bs, h => by
    rw [Flats] at h
    rw [tmOfs, sizeMs, sizeTs, size_tm hg b h.1, size_tms hg bs h.2]
end
mutual
theorem calls_tm {q : Int → Prop} {g : Int → List Trm → Trm} {c : Int → List (Int × Int)} (hg : ∀ k ps, (q k → ps = []) → callsM (g k ps) = c k ++ callsMs ps) : ∀ t : Tr, Flat q t → callsM (tmOf g t) = (mkT t).flatMap c
  | .mk nm k bs, h => by
    rw [Flat] at h
    rw [tmOf, mkT, hg, calls_tms hg bs h.2, List.flatMap_cons]
    intro z
    rw [h.1 z, tmOfs]
theorem calls_tms {q : Int → Prop} {g : Int → List Trm → Trm} {c : Int → List (Int × Int)} (hg : ∀ k ps, (q k → ps = []) → callsM (g k ps) = c k ++ callsMs ps) : ∀ bs : List Tr, Flats q bs → callsMs (tmOfs g bs) = (mkTs bs).flatMap c
  | [], _ => by rw [tmOfs, callsMs, mkTs]; rfl
  | b :: bs, h => by
    rw [Flats] at h
    rw [tmOfs, callsMs, mkTs, calls_tm hg b h.1, calls_tms hg bs h.2, List.flatMap_append]
end
mutual
theorem lev_tm {g : Int → List Trm → Trm} {d : Nat} (hg : ∀ k ps, levM (g k ps) ≤ levMs ps + 1 + d) (hg' : ∀ k ps n, d ≤ n → levMs ps ≤ n → levM (g k ps) ≤ n + 1) : ∀ t : Tr, levM (tmOf g t) ≤ levT t + d
  | .mk nm k bs => by
    have := lev_tms hg hg' bs
    rw [tmOf, levT]
    have := hg' k (tmOfs g bs) (levTs bs + d) (by omega) this
    omega
theorem lev_tms {g : Int → List Trm → Trm} {d : Nat} (hg : ∀ k ps, levM (g k ps) ≤ levMs ps + 1 + d) (hg' : ∀ k ps n, d ≤ n → levMs ps ≤ n → levM (g k ps) ≤ n + 1) : ∀ bs : List Tr, levMs (tmOfs g bs) ≤ levTs bs + d
  | [] => by rw [tmOfs, levMs]; omega
  | b :: bs => by
    have := lev_tm hg hg' b
    have := lev_tms hg hg' bs
    rw [tmOfs, levMs, levTs]
    omega
end
mutual
theorem sub_tm {f : Int → Int → Trm} {g g' : Int → List Trm → Trm} (hg : ∀ k ps, subM f (g k ps) = g' k (subMs f ps)) : ∀ t : Tr, subM f (tmOf g t) = tmOf g' t
  | .mk nm k bs => by rw [tmOf, tmOf, hg, sub_tms hg bs]
theorem sub_tms {f : Int → Int → Trm} {g g' : Int → List Trm → Trm} (hg : ∀ k ps, subM f (g k ps) = g' k (subMs f ps)) : ∀ bs : List Tr, subMs f (tmOfs g bs) = tmOfs g' bs
  | [] => by rw [tmOfs, tmOfs, subMs]
  | b :: bs => by rw [tmOfs, tmOfs, subMs, sub_tm hg b, sub_tms hg bs]
end
mutual
theorem ok_tm {g : Int → List Trm → Trm} (hg : ∀ k ps, ps.length ≤ 1000 → (∀ p ∈ ps, okM p) → okM (g k ps)) : ∀ t : Tr, okT t → okM (tmOf g t)
  | .mk nm k bs, h => by
    rw [okT] at h
    rw [tmOf]
    have := ok_tms hg bs h.2.2
    refine hg k _ ?_ this
    rw [tmOfs_map, List.length_map]
    exact h.2.1
theorem ok_tms {g : Int → List Trm → Trm} (hg : ∀ k ps, ps.length ≤ 1000 → (∀ p ∈ ps, okM p) → okM (g k ps)) : ∀ bs : List Tr, okTs bs → ∀ p ∈ tmOfs g bs, okM p
  | [], _ => by rw [tmOfs]; intro p hp; cases hp
  | b :: bs, h => by
    rw [okTs] at h
    rw [tmOfs]
    intro p hp
    rcases List.mem_cons.mp hp with rfl | hp
    · exact ok_tm hg b h.1
    · exact ok_tms hg bs h.2 p hp
end

/-! ### pairs of place and number, sorted -/
def encPN (x : List Nat × Int) : D := .tuple [encP x.1, .int x.2]
theorem le_encP' (p q : List Nat) : PySem.W.dataLe false id (encP p) (encP q) = decide (p ≤ q) := by
  show (!PySem.W.dataLt (encP q) (encP p)) = _
  unfold encP
  rw [PySem.W.dataLt_tuple]
  have := PySem.W.dataLt_ints (q.map fun k : Nat => (k : Int)) (p.map fun k : Nat => (k : Int))
  rw [List.map_map, List.map_map] at this
  have t : PyProof.Rows.lexLt PyProof.Rows.itemOrd (PySem.W.keyToksAll (q.map fun k => PyData.int (k : Nat))) (PySem.W.keyToksAll (p.map fun k => PyData.int (k : Nat))) = decide ((q.map fun k : Nat => (k : Int)) < (p.map fun k : Nat => (k : Int))) := this
  rw [t]
  have cast : ∀ (a b : List Nat), (a.map fun k : Nat => (k : Int)) < (b.map fun k : Nat => (k : Int)) ↔ a < b := by
    intro a
    induction a with
    | nil =>
      intro b
      cases b with
      | nil => simp
      | cons y b => simp
    | cons x a ih =>
      intro b
      cases b with
      | nil => simp
      | cons y b =>
        simp only [List.map_cons, List.cons_lt_cons_iff, ih b]
        constructor
        · rintro (h | ⟨h, g⟩)
          · exact .inl (by omega)
          · exact .inr ⟨by omega, g⟩
        · rintro (h | ⟨h, g⟩)
          · exact .inl (by omega)
          · exact .inr ⟨by omega, g⟩
  by_cases h : q < p
  · have h' : ¬ p ≤ q := fun r => List.not_lt.mpr r h
    simp [cast, h, h']
  · have h' : p ≤ q := List.not_lt.mp h
    simp [cast, h, h']
theorem lt_encP (p q : List Nat) : PySem.W.dataLt (encP p) (encP q) = decide (p < q) := by
  have := le_encP' q p
  have e : PySem.W.dataLe false id (encP q) (encP p) = !PySem.W.dataLt (encP p) (encP q) := rfl
  rw [e] at this
  by_cases h : p < q
  · have h' : ¬ q ≤ p := fun r => List.not_lt.mpr r h
    rw [decide_eq_false h'] at this
    rw [decide_eq_true h]
    simpa using this
  · have h' : q ≤ p := List.not_lt.mp h
    rw [decide_eq_true h'] at this
    rw [decide_eq_false h]
    simpa using this
theorem alike_encP' (p q : List Nat) : PySem.W.alike (encP p) (encP q) = true := by
  unfold encP
  rw [PySem.W.alike]
  have := PySem.W.alike_ints (p.map fun k : Nat => (k : Int)) (q.map fun k : Nat => (k : Int))
  rw [List.map_map, List.map_map] at this
  exact this
theorem encP_eqv {p q : List Nat} (h : p ≠ q) : PyData.eqv (encP p) (encP q) = false := by
  cases e : PyData.eqv (encP p) (encP q) with
  | false => rfl
  | true =>
    have k := (PySem.W.toks_eqv _ _ (alike_encP' p q)).1 e
    have a : PySem.W.dataLt (encP p) (encP q) = PySem.W.dataLt (encP p) (encP p) := by unfold PySem.W.dataLt; rw [k]
    have b : PySem.W.dataLt (encP q) (encP p) = PySem.W.dataLt (encP p) (encP p) := by unfold PySem.W.dataLt; rw [k]
    rw [lt_encP, lt_encP, decide_eq_false (List.lt_irrefl p)] at a b
    have a := of_decide_eq_false a
    have b := of_decide_eq_false b
    exact absurd (List.le_antisymm (List.not_lt.mp b) (List.not_lt.mp a)) h
theorem lt_encPN {p q : List Nat} (h : p ≠ q) (i j : Int) : PySem.W.dataLt (encPN (p, i)) (encPN (q, j)) = decide (p < q) := by
  rw [← lt_encP]
  show PySem.W.dataLt (.tuple [encP p, .int i]) (.tuple [encP q, .int j]) = _
  rw [PySem.W.dataLt_tuple, PySem.W.toks_all_cons, PySem.W.toks_all_cons]
  have := PySem.W.lex_pre [Sum.inl 1] (PySem.W.keyToks (encP p) ++ PySem.W.keyToksAll [.int i]) (PySem.W.keyToks (encP q) ++ PySem.W.keyToksAll [.int j])
  refine this.trans ?_
  exact (PySem.W.toks_eqv _ _ (alike_encP' p q)).2 (encP_eqv h) _ _
theorem sorted_pairs {ps : List (List Nat)} {f : List Nat → Int} {ds : List (List Nat × Int)} (hp : (ps.map fun p => (p, f p)).Perm ds) (hs : ps.Pairwise (fun p q => p < q)) : sortedD (ds.map encPN) = ps.map fun p => encPN (p, f p) := by
  have T := PySem.W.sortLe_total (PyProof.Rows.listOrd PyProof.Rows.itemOrd) false fun d : PyData => PySem.W.keyToks (id d)
  have hp' := hp.map encPN
  rw [List.map_map] at hp'
  have le : ∀ {p q : List Nat}, p ≠ q → PySem.W.dataLe false id (encPN (p, f p)) (encPN (q, f q)) = decide (p ≤ q) := fun {p q} h => by
    show (!PySem.W.dataLt (encPN (q, f q)) (encPN (p, f p))) = _
    rw [lt_encPN (Ne.symm h)]
    by_cases g : q < p
    · have h' : ¬ p ≤ q := fun r => List.not_lt.mpr r g
      simp [g, h']
    · have h' : p ≤ q := List.not_lt.mp g
      simp [g, h']
  refine List.Perm.eq_of_pairwise (le := fun a b => PySem.W.dataLe false id a b = true) (fun a b ha hb h1 h2 => ?_) (List.pairwise_mergeSort T.trans (fun a b => by rw [Bool.or_eq_true]; exact T.total a b) _) ?_ ((List.mergeSort_perm _ _).trans hp'.symm)
  · have ha := hp'.symm.mem_iff.mp ((List.mergeSort_perm _ _).mem_iff.mp ha)
    obtain ⟨p, _, rfl⟩ := List.mem_map.mp ha
    obtain ⟨q, _, rfl⟩ := List.mem_map.mp hb
    by_cases g : p = q
    · subst g; rfl
    · have h1 : PySem.W.dataLe false id (encPN (p, f p)) (encPN (q, f q)) = true := h1
      have h2 : PySem.W.dataLe false id (encPN (q, f q)) (encPN (p, f p)) = true := h2
      rw [le g, decide_eq_true_eq] at h1
      rw [le (Ne.symm g), decide_eq_true_eq] at h2
      exact absurd (List.le_antisymm h1 h2) g
  · rw [List.pairwise_map]
    refine hs.imp fun {p q} h => ?_
    have ne : p ≠ q := fun e => List.lt_irrefl q (e ▸ h)
    rw [le ne]
    exact decide_eq_true (List.le_of_lt h)
theorem sortOk_pairs (ds : List (List Nat × Int)) : sortOk (ds.map encPN) = true := by
  unfold sortOk
  simp only [Bool.and_eq_true, Bool.or_eq_true, List.all_eq_true, decide_eq_true_eq, List.mem_map]
  refine ⟨⟨?_, .inl ?_⟩, ?_⟩
  · rintro d ⟨⟨p, i⟩, _, rfl⟩ e ⟨⟨q, j⟩, _, rfl⟩
    have := alike_encP' p q
    simp [encPN, PySem.W.alike, PySem.W.alikeAll, this]
  · rintro d ⟨p, _, rfl⟩
    rfl
  · rintro d ⟨p, _, rfl⟩
    have := depth_encP p.1
    simp only [encPN, PyData.depth, PyData.depthAll]
    omega
theorem gSorted_pairs {ps : List (List Nat)} {f : List Nat → Int} {ds : List (List Nat × Int)} (hp : (ps.map fun p => (p, f p)).Perm ds) (hs : ps.Pairwise (fun p q => p < q)) : gSorted [.list (ds.map encPN)] = some (.l ((ps.map fun p => encPN (p, f p)).map Ow.d)) := by
  rw [← sorted_pairs hp hs]
  unfold gSorted
  exact if_pos (sortOk_pairs ds)
end Mir
set_option Elab.async false
set_option linter.all false
set_option maxRecDepth 100000
set_option maxHeartbeats 4000000
namespace Mir
open PySem PySem.Spec L2

/-! ### a deck: a def's own list of whole numbers -/
def dkO (dk : List Int) : Ow := .l ((dk.map PyData.int).map Ow.d)
abbrev dkD (dk : List Int) : D := .list (dk.map PyData.int)
theorem lstAt_dk {i : Nat} {env : Ev} {dk : List Int} (h : env[i]? = some (some (dkO dk))) : lstAt i env = some (dk.map PyData.int) := lstAt_of h
theorem viewD_dk (dk : List Int) : viewD (dkO dk) = dkD dk := by unfold dkO; rw [viewD_l, viewAll_mapd]
theorem shD_dk (dk : List Int) : shD (dkO dk) = .ok (dkD dk) := shD_l _
theorem dkO_nil : dkO [] = .l [] := rfl
/-- what a deck's def tells: r, and the deck behind it -/
abbrev tells (r : D) (dk : List Int) : R Ow := .ok (.d (.tuple [r, dkD dk]))
theorem xCallK_dk {m : List D → R Ow} {i : Nat} {fa : Ev → R (List D × Ev)} {env env1 : Ev} {ds : List D} {dk0 dk dk' : List Int} {r : D} (h0 : env[i]? = some (some (dkO dk0))) (h1 : fa env = .ok (ds, env1)) (h2 : env1[i]? = some (some (dkO dk))) (h3 : m (dkD dk :: ds) = tells r dk') :
    xCallK m i fa env = .ok (r, env1.set i (some (dkO dk'))) := xCallK_of h0 h1 h2 h3
theorem finK_dk (r : D) (dk : List Int) (env : Ev) : finK (.rt (.d r) (some (dkO dk) :: env)) = tells r dk := finK_rt env r _
theorem finK_step {f g : Ev → SR} {env env1 : Ev} {o : R Ow} (h1 : f env = .nx env1) (h2 : finK (g env1) = o) : finK (sSeq f g env) = o := by
  rw [sSeq_eq, h1]
  exact h2
theorem sXSet_of {i : Nat} {f : Ev → R (D × Ev)} {env env1 : Ev} {d : D} (h : f env = .ok (d, env1)) (hi : i < env1.length) : sXSet i f env = .nx (env1.set i (some (.d d))) := by
  rw [sXSet_eq, h]
  exact if_pos hi
theorem nice_ints' (dk : List Int) : Nice (dkD dk) := by
  constructor
  · rw [PyData.canLay0]
    exact canAll_of _ fun d hd => by
      obtain ⟨k, _, rfl⟩ := List.mem_map.mp hd
      rfl
  · rw [PyData.depth]
    have := depthAll_of (n := 0) (dk.map PyData.int) fun d hd => by
      obtain ⟨k, _, rfl⟩ := List.mem_map.mp hd
      simp [PyData.depth]
    omega
theorem gEq_dk_nil (dk : List Int) : gEq (dkD dk) (.list []) = some (.bool dk.isEmpty) := by
  have z := gEq_nice (nice_ints' dk) (nice_ints' [])
  rw [show dkD [] = .list [] from rfl] at z
  rw [z]
  cases dk with
  | nil => exact congrArg (fun b => some (PyData.bool b)) (eqv_self (nice_ints' []))
  | cons d ds => simp [PyData.eqv, PyData.eqvAll]
noncomputable section
abbrev bDraw : Ev → SR := (sSeq (sIf (eB (eBin gEq (eM (eVarO 0) viewD) (eM (eLst aNil) viewD)) asB)
    (sRet (eM (eC (.int 0)) Ow.d))
    sSkip)
    (sXRet (xBin gMod (xPop 0) (xP (eVar 1)))))
theorem draw_fin (dk : List Int) (most : Int) (h : 0 < most) : ∃ r dk', 0 ≤ r ∧ r < most ∧ finK (bDraw (some (dkO dk) :: envOf 0 [.int most])) = tells (.int r) dk' := by
  have eq := gEq_dk_nil dk
  have vw := viewD_dk dk
  have nl : viewD (.l []) = .list [] := by simp
  rcases List.eq_nil_or_concat dk with e | ⟨p, x, e⟩
  · subst e
    refine ⟨0, [], by omega, h, ?_⟩
    rw [← finK_dk (.int 0) [] [some (.d (.int most))]]
    have e1 : bDraw (some (dkO []) :: envOf 0 [.int most]) = .rt (.d (.int 0)) [some (dkO []), some (.d (.int most))] := by
      simp [vw, nl, eq]
    rw [e1]
  · rw [List.concat_eq_append] at e
    subst e
    have md : gMod (.int x) (.int most) = some (.int (x % most)) := gMod_int h
    refine ⟨x % most, p, Int.emod_nonneg _ (Int.ne_of_gt h), Int.emod_lt_of_pos _ h, ?_⟩
    rw [← finK_dk (.int (x % most)) p [some (.d (.int most))]]
    have pop : xPop 0 [some (dkO (p ++ [x])), some (.d (.int most))] = .ok (.int x, [some (dkO p), some (.d (.int most))]) := by
      refine xPop_of (dk := p.map PyData.int) (d := .int x) ?_
      unfold dkO
      rw [List.map_append]
      rfl
    have emp : (p ++ [x]).isEmpty = false := by simp
    rw [emp] at eq
    have e1 : bDraw (some (dkO (p ++ [x])) :: envOf 0 [.int most]) = .rt (.d (.int (x % most))) [some (dkO p), some (.d (.int most))] := by
      simp [vw, nl, eq, pop, md]
    rw [e1]
abbrev bName : Ev → SR := (sSeq (sSet 2 (eM (eC (.str "abcdefghijklmnopqrstuvwxyz")) Ow.d))
    (sSeq (sSet 3 (eM (eBin gMod (eBin gDiv (eVar 0) (eC (.int 64))) (eC (.int 26))) Ow.d))
    (sSeq (sIf (eB (eBin gEq (eBin gMod (eBin gDiv (eVar 0) (eC (.int 1664))) (eC (.int 3))) (eC (.int 2))) asB)
    (sRet (eM (eBin gMulS (eBin gIx (eVar 2) (eBin gMod (eM (eBinO gAdd (eVar 3) (eBin gDiv (eVar 1) (eC (.int 8)))) viewD) (eC (.int 26)))) (eM (eBinO gAdd (eC (.int 1)) (eBin gMod (eVar 1) (eC (.int 8)))) viewD)) Ow.d))
    sSkip)
    (sSeq (sSet 4 (eM (eM (eBinO gAdd (eC (.int 1)) (eBin gMod (eVar 0) (eC (.int 8)))) viewD) Ow.d))
    (sSeq (sSet 5 (eM (eBin gMod (eBin gDiv (eVar 0) (eC (.int 8))) (eVar 4)) Ow.d))
    (sSeq (sSet 6 (eM (eC (.str "")) Ow.d))
    (sSeq (sFor (eB (aCons (eVar 4) aNil) rg1) (gtName 7)
    (sSeq (sSet 8 (eM (eBin gMul (eBin gMod (eBin gDiv (eVar 0) (eC (.int 1664))) (eC (.int 3))) (eVar 7)) Ow.d))
    (sSeq (sIf (eB (eBin gEq (eVar 7) (eVar 5)) asB)
    (sSet 8 (eM (eM (eBinO gAdd (eVar 8) (eVar 1)) viewD) Ow.d))
    sSkip)
    (sSet 6 (eM (eM (eBinO gAdd (eVar 6) (eBin gIx (eVar 2) (eBin gMod (eM (eBinO gAdd (eVar 3) (eVar 8)) viewD) (eC (.int 26))))) viewD) Ow.d)))))
    (sRet (eM (eVar 6) Ow.d)))))))))
theorem repS_one (c n : Nat) : repS (tx [c]) n = tx (List.replicate n c) := by
  unfold repS
  rw [tx_cps]
  show _ = (⟨(List.replicate n c).toArray⟩ : Str)
  congr 1
  simp
theorem name_fin (code k : Int) (c0 : 0 ≤ code) (c1 : code < 10000000) (k0 : 0 ≤ k) (k1 : k < 1000) : ∃ w : List Nat, finR (bName (envOf 7 [.int code, .int k])) = .ok (.d (.str (tx w))) ∧ (∀ c ∈ w, isL c = true) := by
  have d64 : gDiv (.int code) (.int 64) = some (.int (code / 64)) := gDiv_small (by decide) (by decide)
  have m26 : gMod (.int (code / 64)) (.int 26) = some (.int (code / 64 % 26)) := gMod_int (by decide)
  have d16 : gDiv (.int code) (.int 1664) = some (.int (code / 1664)) := gDiv_small (by decide) (by decide)
  have m3 : gMod (.int (code / 1664)) (.int 3) = some (.int (code / 1664 % 3)) := gMod_int (by decide)
  have d8 : gDiv (.int code) (.int 8) = some (.int (code / 8)) := gDiv_small (by decide) (by decide)
  have m8 : gMod (.int code) (.int 8) = some (.int (code % 8)) := gMod_int (by decide)
  have kd8 : gDiv (.int k) (.int 8) = some (.int (k / 8)) := gDiv_small (by decide) (by decide)
  have km8 : gMod (.int k) (.int 8) = some (.int (k % 8)) := gMod_int (by decide)
  obtain ⟨F, hF⟩ : ∃ F : Int, F = code / 64 % 26 := ⟨_, rfl⟩
  have f0 : 0 ≤ F ∧ F < 26 := by omega
  have letter : ∀ i : Int, 0 ≤ i → ∃ c : Nat, isL c = true ∧ gMod (.int i) (.int 26) = some (.int (i % 26)) ∧ gIx (.str abc) (.int (i % 26)) = some (.str (tx [c])) := fun i h => by
    obtain ⟨k, hk⟩ : ∃ k : Nat, i % 26 = (k : Int) := ⟨(i % 26).toNat, by omega⟩
    have hk26 : k < 26 := by omega
    refine ⟨97 + k, ?_, gMod_int (by decide), by rw [hk]; exact abc_ix hk26⟩
    unfold isL
    have a : 97 ≤ 97 + k := by omega
    have b : 97 + k ≤ 122 := by omega
    simp [a, b]
  rw [← hF] at m26
  by_cases w2 : code / 1664 % 3 = 2
  · obtain ⟨c, hc, g1, g2⟩ := letter (F + k / 8) (by omega)
    obtain ⟨n, hn⟩ : ∃ n : Nat, 1 + k % 8 = (n : Int) := ⟨(1 + k % 8).toNat, by omega⟩
    have gs := gMulS_str (z := tx [c]) (n := n) (by omega) (by omega) (by rw [tx_len, sizeLine_eq, List.length_singleton]; omega)
    rw [repS_one] at gs
    refine ⟨List.replicate n c, ?_, fun d hd => by rw [List.eq_of_mem_replicate hd]; exact hc⟩
    simp [d64, m26, d16, m3, w2, kd8, km8, g1, g2, hn, gs]
  · obtain ⟨lg, hlg⟩ : ∃ n : Nat, 1 + code % 8 = (n : Int) := ⟨(1 + code % 8).toNat, by omega⟩
    have lb : 1 ≤ lg ∧ lg ≤ 8 := by omega
    have ml : gMod (.int (code / 8)) (.int (lg : Nat)) = some (.int (code / 8 % (lg : Nat))) := gMod_int (by omega)
    obtain ⟨told, ht⟩ : ∃ t : Int, t = code / 8 % (lg : Nat) := ⟨_, rfl⟩
    rw [← ht] at ml
    obtain ⟨q, hq⟩ : ∃ q : Int, q = code / 1664 % 3 := ⟨_, rfl⟩
    have q0 : 0 ≤ q ∧ q < 3 := by omega
    rw [← hq] at m3 w2
    have rg : rg1 [.int (lg : Nat)] = .ok (rangeD 0 lg) := by
      have : rg1 [.int (lg : Nat)] = .ok (rangeD 0 ((lg : Nat) : Int).toNat) := guard_ok (by omega)
      rw [this, Int.toNat_natCast]
    obtain ⟨env', e1, w, x7, x8, e2, h3, h4⟩ := forL_ind (g := gtName 7) (f := (sSeq (sSet 8 (eM (eBin gMul (eBin gMod (eBin gDiv (eVar 0) (eC (.int 1664))) (eC (.int 3))) (eVar 7)) Ow.d))
    (sSeq (sIf (eB (eBin gEq (eVar 7) (eVar 5)) asB)
    (sSet 8 (eM (eM (eBinO gAdd (eVar 8) (eVar 1)) viewD) Ow.d))
    sSkip)
    (sSet 6 (eM (eM (eBinO gAdd (eVar 6) (eBin gIx (eVar 2) (eBin gMod (eM (eBinO gAdd (eVar 3) (eVar 8)) viewD) (eC (.int 26))))) viewD) Ow.d))))) (rangeD 0 lg)
      (fun i env => ∃ (w : List Nat) (x7 x8 : Option Ow), env = [some (.d (.int code)), some (.d (.int k)), some (.d (.str abc)), some (.d (.int F)), some (.d (.int (lg : Nat))), some (.d (.int told)), some (.d (.str (tx w))), x7, x8] ∧ w.length = i ∧ ∀ c ∈ w, isL c = true) (fun i d env hd ⟨w, x7, x8, he, hw, hl⟩ => by
        obtain ⟨hi, ed⟩ := rangeD_at hd
        rw [Int.zero_add] at ed
        subst ed he
        have hmul : gMul (.int q) (.int (i : Nat)) = some (.int (q * (i : Nat))) := gMul_by (by omega) (by omega)
        have qi : 0 ≤ q * (i : Nat) := Int.mul_nonneg q0.1 (by omega)
        obtain ⟨Z, hZ⟩ : ∃ Z : Int, Z = q * (i : Nat) := ⟨_, rfl⟩
        rw [← hZ] at hmul qi
        by_cases c : (i : Int) = told
        · subst c
          obtain ⟨ch, hc, g1, g2⟩ := letter (F + (Z + k)) (by omega)
          have hadd : gAdd (.str (tx w)) (.str (tx [ch])) = some (.d (.str (tx (w ++ [ch])))) := gAdd_tx (by rw [List.length_singleton]; omega)
          refine ⟨[some (.d (.int code)), some (.d (.int k)), some (.d (.str abc)), some (.d (.int F)), some (.d (.int (lg : Nat))), some (.d (.int (i : Int))), some (.d (.str (tx w))), some (.d (.int (i : Nat))), x8], rfl, [some (.d (.int code)), some (.d (.int k)), some (.d (.str abc)), some (.d (.int F)), some (.d (.int (lg : Nat))), some (.d (.int (i : Int))), some (.d (.str (tx (w ++ [ch])))), some (.d (.int (i : Nat))), some (.d (.int (Z + k)))], .inl ?_, w ++ [ch], _, _, rfl, by simp [hw], fun d hd => ?_⟩
          · simp [d16, m3, hmul, hadd, g1, g2]
          · rcases List.mem_append.mp hd with h | h
            · exact hl d h
            · rw [List.mem_singleton] at h; subst h; exact hc
        · obtain ⟨ch, hc, g1, g2⟩ := letter (F + Z) (by omega)
          have hadd : gAdd (.str (tx w)) (.str (tx [ch])) = some (.d (.str (tx (w ++ [ch])))) := gAdd_tx (by rw [List.length_singleton]; omega)
          refine ⟨[some (.d (.int code)), some (.d (.int k)), some (.d (.str abc)), some (.d (.int F)), some (.d (.int (lg : Nat))), some (.d (.int told)), some (.d (.str (tx w))), some (.d (.int (i : Nat))), x8], rfl, [some (.d (.int code)), some (.d (.int k)), some (.d (.str abc)), some (.d (.int F)), some (.d (.int (lg : Nat))), some (.d (.int told)), some (.d (.str (tx (w ++ [ch])))), some (.d (.int (i : Nat))), some (.d (.int Z))], .inl ?_, w ++ [ch], _, _, rfl, by simp [hw], fun d hd => ?_⟩
          · simp [d16, m3, hmul, c, hadd, g1, g2]
          · rcases List.mem_append.mp hd with h | h
            · exact hl d h
            · rw [List.mem_singleton] at h; subst h; exact hc) [some (.d (.int code)), some (.d (.int k)), some (.d (.str abc)), some (.d (.int F)), some (.d (.int (lg : Nat))), some (.d (.int told)), some (.d (.str (tx []))), none, none] ⟨[], none, none, rfl, rfl, fun c h => by cases h⟩
    subst e2
    refine ⟨w, ?_, h4⟩
    have em := empty_is
    simp [d64, m26, d16, m3, w2, d8, m8, hlg, ml, em, rg, e1]
abbrev bMark (fd : List D → R Ow) : Ev → SR := (sSeq (sXSet 1 (xCallK fd 0 (xCons (xP (eBin gPow (eC (.int 10)) (eC (.int 59)))) xNil)))
    (sSeq (sIf (eB (eBin gEq (eBin gMod (eVar 1) (eC (.int 4))) (eC (.int 3))) asB)
    (sRet (eM (eBin gSub (eBin gMod (eBin gDiv (eVar 1) (eC (.int 4))) (eM (eBinO gAdd (eBin gMul (eC (.int 2)) (eBin gPow (eC (.int 10)) (eC (.int 57)))) (eC (.int 1))) viewD)) (eBin gPow (eC (.int 10)) (eC (.int 57)))) Ow.d))
    sSkip)
    (sRet (eM (eBin gSub (eBin gMod (eBin gDiv (eVar 1) (eC (.int 4))) (eC (.int 3))) (eC (.int 1))) Ow.d))))
/-- a def that draws a number below most -/
def Draws (fd : List D → R Ow) : Prop := ∀ (dk : List Int) (most : Int), 0 < most → ∃ r dk', 0 ≤ r ∧ r < most ∧ fd (dkD dk :: [.int most]) = tells (.int r) dk'
theorem mark_fin {fd : List D → R Ow} (h : Draws fd) (dk : List Int) : ∃ z dk', finK (bMark fd (some (dkO dk) :: envOf 1 [])) = tells (.int z) dk' := by
  have p59 : gPow (.int 10) (.int 59) = some (.int (10 ^ 59)) := gPow10 59 (by decide)
  have p57 : gPow (.int 10) (.int 57) = some (.int (10 ^ 57)) := gPow10 57 (by decide)
  obtain ⟨T, hT⟩ : ∃ T : Int, T = 10 ^ 59 := ⟨_, rfl⟩
  obtain ⟨S, hS⟩ : ∃ S : Int, S = 10 ^ 57 := ⟨_, rfl⟩
  have hTp : 0 < T := by rw [hT]; decide
  have hSp : 0 < S := by rw [hS]; decide
  have hSb : S.natAbs < 2 ^ 250 := by rw [hS]; decide
  rw [← hT] at p59
  rw [← hS] at p57
  obtain ⟨r, dk', r0, r1, e⟩ := h dk T hTp
  have st : sXSet 1 (xCallK fd 0 (xCons (xP (eBin gPow (eC (.int 10)) (eC (.int 59)))) xNil)) (some (dkO dk) :: envOf 1 []) = .nx [some (dkO dk'), some (.d (.int r))] :=
    sXSet_of (env1 := [some (dkO dk'), none]) (xCallK_dk (env1 := [some (dkO dk), none]) (ds := [.int T]) (dk0 := dk) (dk := dk) rfl (by simp [p59]) rfl e) (by show 1 < 2; decide)
  have d4 : gDiv (.int r) (.int 4) = some (.int (r / 4)) := gDiv_small (by decide) (by decide)
  have m4 : gMod (.int r) (.int 4) = some (.int (r % 4)) := gMod_int (by decide)
  have m3 : gMod (.int (r / 4)) (.int 3) = some (.int (r / 4 % 3)) := gMod_int (by decide)
  have g2 : gMul (.int 2) (.int S) = some (.int (2 * S)) := gMul_small (by decide) hSb
  have mS : gMod (.int (r / 4)) (.int (2 * S + 1)) = some (.int (r / 4 % (2 * S + 1))) := gMod_int (by omega)
  by_cases c : r % 4 = 3
  · refine ⟨r / 4 % (2 * S + 1) - S, dk', finK_step st ?_⟩
    rw [← finK_dk _ dk' [some (.d (.int r))]]
    simp [m4, c, d4, g2, p57, mS]
  · refine ⟨r / 4 % 3 - 1, dk', finK_step st ?_⟩
    rw [← finK_dk _ dk' [some (.d (.int r))]]
    simp [m4, c, d4, m3]
abbrev bNumbers (c0 : Int) : Ev → SR := (sSeq (sSet 2 (eLc (eB (eM (eSl (eVar 0) oNone (eB (eVar 1) asI)) viewD) itD) (gtName 3) cYes (eM (eBin gMod (eVar 3) (eBin gPow (eC (.int 10)) (eC (.int 59)))) Ow.d) [3]))
    (sSeq (sSet 4 (eM (eM (eBinO gAdd (eC (.int c0)) (eBin gMod (eM (eCa gSum (aCons (eB (eVarO 2) shD) aNil)) viewD) (eC (.int 2147483647)))) viewD) Ow.d))
    (sSeq (whileN (eB (eBin gLt (eM (eCa gLen (aCons (eB (eVarO 2) shD) aNil)) viewD) (eVar 1)) asB)
    (sSeq (sSet 4 (eM (eBin gMod (eM (eBinO gAdd (eB (eBinO gAdd (eBin gMul (eVar 4) (eVar 4)) (eBin gMul (eC (.int 48271)) (eVar 4))) shD) (eB (eCa gLen (aCons (eB (eVarO 2) shD) aNil)) shD)) viewD) (eC (.int 2147483647))) Ow.d))
    (sApp 2 (eM (eVar 4) Ow.d))) 1000000)
    (sRet (eListRev (eB (eVarO 2) shD))))))
theorem numbers_loop (c : Option Ow) (x3 : Option Ow) (most : Nat) (hm : most ≤ 100000) : ∀ (r n : Nat) (dk : List Int) (z : Int), most - dk.length ≤ r → r < n → 0 ≤ z → z < 2 ^ 33 →
    ∃ dk' z', whileN (eB (eBin gLt (eM (eCa gLen (aCons (eB (eVarO 2) shD) aNil)) viewD) (eVar 1)) asB)
    (sSeq (sSet 4 (eM (eBin gMod (eM (eBinO gAdd (eB (eBinO gAdd (eBin gMul (eVar 4) (eVar 4)) (eBin gMul (eC (.int 48271)) (eVar 4))) shD) (eB (eCa gLen (aCons (eB (eVarO 2) shD) aNil)) shD)) viewD) (eC (.int 2147483647))) Ow.d))
    (sApp 2 (eM (eVar 4) Ow.d))) n [c, some (.d (.int (most : Nat))), some (dkO dk), x3, some (.d (.int z))] = .nx [c, some (.d (.int (most : Nat))), some (dkO dk'), x3, z']
  | r, 0, dk, z, _, h, _, _ => by omega
  | 0, n + 1, dk, z, h, _, _, _ => by
    have sh := shD_dk dk
    have gl : gLen [dkD dk] = some (.d (.int (dk.length : Nat))) := by rw [gLen_list, List.length_map]
    have nl : ¬ dk.length < most := by omega
    refine ⟨dk, some (.d (.int z)), ?_⟩
    unfold whileN
    simp only [eB_eq, eBin_eq, eM_eq, eCa_eq, aCons_eq, aNil_eq, eVarO_2, sh, R.bind_ok, R.map_ok, gl, R.of_some, viewD_d, eVar_1, gLt_int, asB_bool, R.st_ok]
    rw [if_neg (by simp; omega)]
  | r + 1, n + 1, dk, z, h, hn, z0, z1 => by
    have sh := shD_dk dk
    have gl : gLen [dkD dk] = some (.d (.int (dk.length : Nat))) := by rw [gLen_list, List.length_map]
    by_cases lt : dk.length < most
    · have m1 : gMul (.int z) (.int z) = some (.int (z * z)) := gMul_by (by omega) (by omega)
      have m2 : gMul (.int 48271) (.int z) = some (.int (48271 * z)) := gMul_by (by omega) (by omega)
      have m3 : gMod (.int (z * z + 48271 * z + (dk.length : Nat))) (.int 2147483647) = some (.int ((z * z + 48271 * z + (dk.length : Nat)) % 2147483647)) := gMod_int (by decide)
      obtain ⟨y, hy⟩ : ∃ y, y = (z * z + 48271 * z + (dk.length : Nat)) % 2147483647 := ⟨_, rfl⟩
      have y0 : 0 ≤ y := by rw [hy]; exact Int.emod_nonneg _ (by decide)
      have y1 : y < 2147483647 := by rw [hy]; exact Int.emod_lt_of_pos _ (by decide)
      rw [← hy] at m3
      clear hy
      obtain ⟨dk', z', ih⟩ := numbers_loop c x3 most hm r n (dk ++ [y]) y (by simp; omega) (by omega) y0 (by omega)
      refine ⟨dk', z', ?_⟩
      rw [← ih]
      conv => lhs; unfold whileN
      have ct : (eB (eBin gLt (eM (eCa gLen (aCons (eB (eVarO 2) shD) aNil)) viewD) (eVar 1)) asB) [c, some (.d (.int (most : Nat))), some (dkO dk), x3, some (.d (.int z))] = .ok true := by
        simp [sh, gl, lt]
      have bd : (sSeq (sSet 4 (eM (eBin gMod (eM (eBinO gAdd (eB (eBinO gAdd (eBin gMul (eVar 4) (eVar 4)) (eBin gMul (eC (.int 48271)) (eVar 4))) shD) (eB (eCa gLen (aCons (eB (eVarO 2) shD) aNil)) shD)) viewD) (eC (.int 2147483647))) Ow.d))
    (sApp 2 (eM (eVar 4) Ow.d))) [c, some (.d (.int (most : Nat))), some (dkO dk), x3, some (.d (.int z))] = .nx [c, some (.d (.int (most : Nat))), some (dkO (dk ++ [y])), x3, some (.d (.int y))] := by
        have st : sSet 4 (eM (eBin gMod (eM (eBinO gAdd (eB (eBinO gAdd (eBin gMul (eVar 4) (eVar 4)) (eBin gMul (eC (.int 48271)) (eVar 4))) shD) (eB (eCa gLen (aCons (eB (eVarO 2) shD) aNil)) shD)) viewD) (eC (.int 2147483647))) Ow.d) [c, some (.d (.int (most : Nat))), some (dkO dk), x3, some (.d (.int z))] = .nx [c, some (.d (.int (most : Nat))), some (dkO dk), x3, some (.d (.int y))] := by
          simp [sh, gl, m1, m2, m3]
        rw [sSeq_eq, st]
        unfold dkO
        have hl : ((dk.map PyData.int).map Ow.d).length < sizeLine := by rw [List.length_map, List.length_map, sizeLine_eq]; omega
        simp only [SR.andThen, sApp_eq, ownL_2, eM_eq, eVar_4, R.map_ok, R.st_ok]
        rw [if_pos hl, List.map_append, List.map_append]
        rfl
      rw [ct, R.st_ok, if_pos rfl, bd]
    · refine ⟨dk, some (.d (.int z)), ?_⟩
      unfold whileN
      simp only [eB_eq, eBin_eq, eM_eq, eCa_eq, aCons_eq, aNil_eq, eVarO_2, sh, R.bind_ok, R.map_ok, gl, R.of_some, viewD_d, eVar_1, gLt_int, asB_bool, R.st_ok]
      rw [if_neg (by simp; omega)]
theorem intsD_ints : ∀ ns : List Int, intsD (ns.map PyData.int) = some ns
  | [] => rfl
  | n :: ns => by rw [List.map_cons]; unfold intsD; rw [intsD_ints ns]; rfl
theorem numbers_fin (c0 : Int) (h0 : 0 ≤ c0) (h1 : c0 < 1000000) (ns : List Int) (most : Nat) (hm : most ≤ 100000) (hl : ns.length ≤ 1000) : ∃ dk, finR (bNumbers c0 (envOf 3 [.list (ns.map PyData.int), .int (most : Nat)])) = .ok (dkO dk) := by
  have p59 : gPow (.int 10) (.int 59) = some (.int (10 ^ 59)) := gPow10 59 (by decide)
  obtain ⟨T, hT⟩ : ∃ T : Int, T = 10 ^ 59 := ⟨_, rfl⟩
  have hTp : 0 < T := by rw [hT]; decide
  rw [← hT] at p59
  have lc : eLc (eB (eM (eSl (eVar 0) oNone (eB (eVar 1) asI)) viewD) itD) (gtName 3) cYes (eM (eBin gMod (eVar 3) (eBin gPow (eC (.int 10)) (eC (.int 59)))) Ow.d) [3] [some (.d (.list (ns.map PyData.int))), some (.d (.int (most : Nat))), none, none, none] = .ok (dkO ((ns.take most).map fun c => c % T)) := by
    have sl : gSl (.list (ns.map PyData.int)) none (some (most : Int)) = some (.l (((ns.take most).map PyData.int).map Ow.d)) := by
      rw [gSl_list, cutL_take, ← List.map_take]
    have vw : viewD (.l (((ns.take most).map PyData.int).map Ow.d)) = .list ((ns.take most).map PyData.int) := by rw [viewD_l, viewAll_mapd]
    unfold dkO
    refine eLc_of (ds := (ns.take most).map PyData.int) ?_ (by rw [List.length_map, List.length_take, sizeLine_eq]; omega) ?_
    · generalize ((ns.take most).map PyData.int) = ds at sl vw
      generalize ds.map Ow.d = os at sl vw
      simp [sl, vw]
    · rw [List.map_map, List.map_map]
      refine lcR_map PyData.int _ (ns.take most) fun c _ => ⟨[some (.d (.list (ns.map PyData.int))), some (.d (.int (most : Nat))), none, some (.d (.int c)), none], by simp [wipeE], rfl, ?_⟩
      have md : gMod (.int c) (.int T) = some (.int (c % T)) := gMod_int hTp
      simp [p59, md]
  generalize (ns.take most).map (fun c => c % T) = dk0 at lc
  have sm : gSum [dkD dk0] = some (.d (.int dk0.sum)) := by
    show (intsD _).map _ = _
    rw [intsD_ints]
    rfl
  have md : gMod (.int dk0.sum) (.int 2147483647) = some (.int (dk0.sum % 2147483647)) := gMod_int (by decide)
  obtain ⟨z, hz⟩ : ∃ z, z = c0 + dk0.sum % 2147483647 := ⟨_, rfl⟩
  have b0 := Int.emod_nonneg dk0.sum (b := 2147483647) (by decide)
  have b1 := Int.emod_lt_of_pos dk0.sum (b := 2147483647) (by decide)
  have sh := shD_dk dk0
  obtain ⟨dk', z', lp⟩ := numbers_loop (some (.d (.list (ns.map PyData.int)))) none most hm most 1000000 dk0 z (by omega) (by omega) (by omega) (by omega)
  have sh' := shD_dk dk'
  refine ⟨dk'.reverse, ?_⟩
  have he : envOf 3 [.list (ns.map PyData.int), .int (most : Nat)] = [some (.d (.list (ns.map PyData.int))), some (.d (.int (most : Nat))), none, none, none] := rfl
  rw [he]
  refine fin_step (env1 := [some (.d (.list (ns.map PyData.int))), some (.d (.int (most : Nat))), some (dkO dk0), none, none]) (by rw [sSet_eq, lc]; rfl) ?_
  refine fin_step (env1 := [some (.d (.list (ns.map PyData.int))), some (.d (.int (most : Nat))), some (dkO dk0), none, some (.d (.int z))]) (by rw [hz]; simp [sh, sm, md]) ?_
  refine fin_step lp ?_
  have gr : gListRev (dkD dk') = some (dkO dk'.reverse) := by
    unfold dkO
    rw [gListRev_list, ← List.map_reverse]
  simp [sh', gr]
end
end Mir
set_option Elab.async false
set_option linter.all false
set_option maxRecDepth 100000
set_option maxHeartbeats 4000000
namespace Mir
open PySem PySem.Spec L2
/-! ### a whole number's text; trees laid out -/
def ik : Int → List Nat
  | .ofNat n => TL.numL n
  | .negSucc n => 45 :: TL.numL (n + 1)
theorem ik_nat (n : Nat) : ik (n : Int) = TL.numL n := rfl
theorem gStr_ik {k : Int} (h : k.natAbs < 2 ^ 1000) : gStr [.int k] = some (.d (.str (tx (ik k)))) := by
  cases k with
  | ofNat n => exact gStr_nat h
  | negSucc n => exact gStr_neg h
theorem gInt_ik {k : Int} (h : (ik k).length ≤ 640) : gInt [.str (tx (ik k))] = some (.d (.int k)) := by
  show (if (tx (ik k)).length ≤ 640 then (intText? (tx (ik k))).map fun n => Ow.d (.int n) else none) = _
  rw [if_pos (by rw [tx_len]; exact h)]
  have e : intText? (tx (ik k)) = some k := by
    cases k with
    | ofNat n =>
      have := PySem.intText_digits (x := tx (ik (.ofNat n))) (by rw [tx_cps]; exact TL.numL_digits n) (by rw [tx_cps]; exact TL.numL_ne n) (by rw [tx_len]; omega)
      rw [this, tx_cps]
      show some ((NumText.digitsVal (TL.numL n) : Nat) : Int) = _
      rw [TL.numL_val]
      rfl
    | negSucc n =>
      have := PySem.intText_neg (x := tx (ik (.negSucc n))) (cs := TL.numL (n + 1)) (by rw [tx_cps]; rfl) (TL.numL_digits _) (TL.numL_ne _) (by rw [tx_len]; omega)
      rw [this, TL.numL_val]
      congr 1
  rw [e]
  rfl
theorem ik_len {k : Int} (h : k.natAbs < 10 ^ 60) : (ik k).length ≤ 61 := by
  cases k with
  | ofNat n => have := TL.numL_len (n := n) (k := 60) (by decide) h; show (TL.numL n).length ≤ 61; omega
  | negSucc n => have := TL.numL_len (n := n + 1) (k := 60) (by decide) h; show (45 :: TL.numL (n + 1)).length ≤ 61; simp; omega
/-- it ends with a figure, it begins with a figure or - -/
theorem ik_last (k : Int) : ∃ p x, ik k = p ++ [x] ∧ isF x = true := by
  have fl : ∀ n, ∃ p x, TL.numL n = p ++ [x] ∧ isF x = true := fun n => by
    rcases List.eq_nil_or_concat (TL.numL n) with e | ⟨p, x, e⟩
    · exact absurd e (TL.numL_ne n)
    · rw [List.concat_eq_append] at e
      exact ⟨p, x, e, numL_isF n x (by rw [e]; simp)⟩
  cases k with
  | ofNat n => exact fl n
  | negSucc n =>
    obtain ⟨p, x, e, h⟩ := fl (n + 1)
    exact ⟨45 :: p, x, by show 45 :: TL.numL (n + 1) = _; rw [e]; rfl, h⟩
theorem ik_head (k : Int) : ∃ c r, ik k = c :: r ∧ (isF c = true ∨ c = 45) := by
  cases k with
  | ofNat n =>
    cases e : TL.numL n with
    | nil => exact absurd e (TL.numL_ne n)
    | cons c r => exact ⟨c, r, e, .inl (numL_isF n c (by rw [e]; simp))⟩
  | negSucc n => exact ⟨45, TL.numL (n + 1), rfl, .inr rfl⟩
/-- a tree laid out: name, mark, blanks ahead of its mark (where it is told), ahead of (, behind it, between, ahead of ) -/
inductive LN where
  | mk (nm : List Nat) (k : Int) (mb : Option Nat) (o i g c : Nat) (bs : List LN)
mutual
def trN : LN → Tr
  | .mk nm k _ _ _ _ _ bs => .mk (tx nm) k (trNs bs)
def trNs : List LN → List Tr
  | [] => []
  | b :: bs => trN b :: trNs bs
end
def mkS (k : Int) : Option Nat → List (Nat × List Nat)
  | none => []
  | some b => [(b, ik k)]
def brk (o c : Nat) : List (Nat × List Nat) → List (Nat × List Nat)
  | [] => []
  | s :: ss => (o, [40]) :: (s :: ss ++ [(c, [41])])
mutual
def sgN : Nat → LN → List (Nat × List Nat)
  | b, .mk nm k mb o i g c bs => (b, nm) :: (mkS k mb ++ brk o c (sgNs i g bs))
def sgNs : Nat → Nat → List LN → List (Nat × List Nat)
  | _, _, [] => []
  | i, g, b :: bs => sgN i b ++ sgNs g g bs
end
def mkW (k : Int) : Option Nat → List (List Nat)
  | none => []
  | some _ => [ik k]
def brw : List (List Nat) → List (List Nat)
  | [] => []
  | s :: ss => [40] :: (s :: ss ++ [[41]])
mutual
def wN : LN → List (List Nat)
  | .mk nm k mb o i g c bs => nm :: (mkW k mb ++ brw (wNs bs))
def wNs : List LN → List (List Nat)
  | [] => []
  | b :: bs => wN b ++ wNs bs
end
mutual
def okN : LN → Prop
  | .mk nm k mb o i g c bs => (nm ≠ [] ∧ (∀ x ∈ nm, isL x = true) ∧ nm.length ≤ 8) ∧ (mb = none → k = 0) ∧ k.natAbs < 10 ^ 60 ∧ 1 ≤ g ∧ (∀ b, mb = some b → b ≤ 3) ∧ o ≤ 3 ∧ i ≤ 3 ∧ g ≤ 3 ∧ c ≤ 3 ∧ bs.length ≤ 1000 ∧ okNs bs
def okNs : List LN → Prop
  | [] => True
  | b :: bs => okN b ∧ okNs bs
end
theorem sgN_ne (b : Nat) (T : LN) : ∃ s ss, sgN b T = s :: ss := by
  cases T with
  | mk nm k mb o i g c bs => exact ⟨_, _, by rw [sgN]⟩
theorem wN_ne (T : LN) : ∃ s ss, wN T = s :: ss := by
  cases T with
  | mk nm k mb o i g c bs => exact ⟨_, _, by rw [wN]⟩
theorem brk_w (o c : Nat) : ∀ ss : List (Nat × List Nat), (brk o c ss).map (·.2) = brw (ss.map (·.2))
  | [] => rfl
  | s :: ss => by simp [brk, brw]
theorem mkS_w (k : Int) : ∀ mb, (mkS k mb).map (·.2) = mkW k mb
  | none => rfl
  | some b => rfl
mutual
theorem sgN_w : ∀ (b : Nat) (T : LN), (sgN b T).map (·.2) = wN T
  | b, .mk nm k mb o i g c bs => by rw [sgN, wN, List.map_cons, List.map_append, mkS_w, brk_w, sgNs_w i g bs]
theorem sgNs_w : ∀ (i g : Nat) (bs : List LN), (sgNs i g bs).map (·.2) = wNs bs
  | i, g, [] => by rw [sgNs, wNs]; rfl
  | i, g, b :: bs => by rw [sgNs, wNs, List.map_append, sgN_w i b, sgNs_w g g bs]
end
theorem trNs_map : ∀ bs : List LN, trNs bs = bs.map trN
  | [] => by rw [trNs]; rfl
  | b :: bs => by rw [trNs, trNs_map bs]; rfl
theorem okNs_iff : ∀ bs : List LN, okNs bs ↔ ∀ b ∈ bs, okN b
  | [] => by simp [okNs]
  | b :: bs => by rw [okNs, okNs_iff bs]; simp
mutual
theorem okTr : ∀ T : LN, okN T → okT (trN T)
  | .mk nm k mb o i g c bs, h => by
    rw [okN] at h
    obtain ⟨⟨_, n2, _⟩, _, _, _, _, _, _, _, _, hl, hb⟩ := h
    rw [trN, okT, trNs_map, List.length_map, ← trNs_map]
    exact ⟨strOk_tx fun c hc => isL_small (n2 c hc), hl, okTrs bs hb⟩
theorem okTrs : ∀ bs : List LN, okNs bs → okTs (trNs bs)
  | [], _ => by rw [trNs, okTs]; trivial
  | b :: bs, h => by
    rw [okNs] at h
    rw [trNs, okTs]
    exact ⟨okTr b h.1, okTrs bs h.2⟩
end
theorem op_is : (Str.ofString "(") = tx [40] := by rw [tx_of (Str.ofString "(")]; congr 1
theorem cl_is : (Str.ofString ")") = tx [41] := by rw [tx_of (Str.ofString ")")]; congr 1
end Mir
set_option Elab.async false
set_option linter.all false
set_option maxRecDepth 100000
set_option maxHeartbeats 4000000
namespace Mir
open PySem PySem.Spec L2
/-! ### texts joined -/
def glue (s : List Nat) : List (List Nat) → List Nat
  | [] => []
  | a :: r => a ++ (r.map fun b => s ++ b).flatten
theorem foldl_glue (s : List Nat) : ∀ (r : List (List Nat)) (a : Array Nat), (r.map tx).foldl (fun acc p => acc ++ (tx s).cps ++ p.cps) a = ⟨a.toList ++ (r.map fun b => s ++ b).flatten⟩
  | [], a => by simp
  | b :: r, a => by
    rw [List.map_cons, List.foldl_cons, foldl_glue s r]
    simp [tx]
theorem join_tx (s : List Nat) (l : List (List Nat)) : Txt.join (tx s) (l.map tx) = tx (glue s l) := by
  show Builtin.Str.glued _ _ = _
  rw [PySem.StrLaws.glued_eq_join]
  cases l with
  | nil => rfl
  | cons a r =>
    rw [List.map_cons, ← PySem.StrLaws.glued_cons, foldl_glue]
    simp [glue, tx]
theorem sum_len (l : List (List Nat)) : ((l.map tx).map fun x : Str => x.length).sum = (l.map List.length).sum := by
  rw [List.map_map]
  congr 1
theorem gJoin_tx (s : List Nat) (l : List (List Nat)) (h : (l.map List.length).sum + l.length * s.length ≤ 16777216) : gJoin (.str (tx s)) (.list (l.map fun w => .str (tx w))) = some (.str (tx (glue s l))) := by
  have e : (l.map fun w => PyData.str (tx w)) = (l.map tx).map PyData.str := by rw [List.map_map]; rfl
  rw [e, gJoin_list (by rw [sum_len, List.length_map, tx_len]; exact h), join_tx]
end Mir
set_option Elab.async false
set_option linter.all false
set_option maxRecDepth 100000
set_option maxHeartbeats 4000000
namespace G
open PySem PySem.Spec L2 Mir
def top (i : Nat) : Stmt := PySem.Challenge.pw_turnery_k05_trees_shown_and_read.main.body.getD i (.Pass ⟨0, 0, 0, 0⟩)
abbrev s_size : Stmt := top 4
abbrev s_run_end : Stmt := top 9
abbrev s_word_end : Stmt := top 10
abbrev s_words : Stmt := top 11
abbrev s_is_name : Stmt := top 12
abbrev s_is_number : Stmt := top 13
abbrev s_tree_at : Stmt := top 15
abbrev s_read_tree : Stmt := top 16
abbrev s_show_tree : Stmt := top 17
abbrev s__law_name_by : Stmt := top 19
abbrev s__law_rows : Stmt := top 20
abbrev s__law_texts : Stmt := top 21
abbrev s_law : Stmt := top 22
/-! mirrors -/
/-- size: 0 tree, 1 total, 2 branch -/
noncomputable def b_size (m : Nat → List PyData → R Ow) : Ev → SR :=
    (sSeq (sSet 1 (eM (eC (.int 1)) Ow.d))
    (sSeq (sFor (eB (eBin gIx (eVar 0) (eC (.int 2))) itD) (gtName 2)
    (sAug gAddA 1 (eM (eB (aCons (eVar 2) aNil) (m 0)) viewD)))
    (sRet (eM (eVar 1) Ow.d))))
/-- run_end: 0 text, 1 start, 2 signs, 3 end -/
noncomputable def b_run_end (m : Nat → List PyData → R Ow) : Ev → SR :=
    (sSeq (sSet 3 (eM (eVar 1) Ow.d))
    (sSeq (whileN (tAndE (eB (eBin gLt (eVar 3) (eM (eCa gLen (aCons (eVar 0) aNil)) viewD)) asB) (eB (eBin gIn (eBin gIx (eVar 0) (eVar 3)) (eVar 2)) asB))
    (sAug gAddA 3 (eC (.int 1))) 1000000)
    (sRet (eM (eVar 3) Ow.d))))
/-- word_end: 0 text, 1 start, 2 end, 3 first -/
noncomputable def b_word_end (m : Nat → List PyData → R Ow) : Ev → SR :=
    (sSeq (sIf (eB (eBin gIn (eBin gIx (eVar 0) (eVar 1)) (eC (.str "();:=|*"))) asB)
    (sRet (eBinO gAdd (eVar 1) (eC (.int 1))))
    sSkip)
    (sSeq (sSet 2 (eM (eM (eB (aCons (eVar 0) (aCons (eVar 1) (aCons (eC (.str "abcdefghijklmnopqrstuvwxyz")) aNil))) (m 1)) viewD) Ow.d))
    (sSeq (sIf (eB (eBin gGt (eVar 2) (eVar 1)) asB)
    (sSeq (sIf (eB (eBin gGt (eBin gSub (eVar 2) (eVar 1)) (eC (.int 8))) asB)
    sNo
    sSkip)
    (sRet (eM (eVar 2) Ow.d)))
    sSkip)
    (sSeq (sSet 3 (eM (eM (eBinO gAdd (eVar 1) (eB (eCa gInt (aCons (eBin gEq (eBin gIx (eVar 0) (eVar 1)) (eC (.str "-"))) aNil)) shD)) viewD) Ow.d))
    (sSeq (sSet 2 (eM (eM (eB (aCons (eVar 0) (aCons (eVar 3) (aCons (eC (.str "0123456789")) aNil))) (m 1)) viewD) Ow.d))
    (sSeq (sIf (tOrE (eB (eBin gEq (eVar 2) (eVar 3)) asB) (eB (eBin gGt (eBin gSub (eVar 2) (eVar 3)) (eC (.int 60))) asB))
    sNo
    sSkip)
    (sSeq (sIf (tAndE (eB (eBin gEq (eBin gIx (eVar 0) (eVar 3)) (eC (.str "0"))) asB) (tOrE (eB (eBin gGt (eBin gSub (eVar 2) (eVar 3)) (eC (.int 1))) asB) (eB (eBin gGt (eVar 3) (eVar 1)) asB)))
    sNo
    sSkip)
    (sRet (eM (eVar 2) Ow.d)))))))))
/-- words: 0 text, 1 found, 2 here, 3 end -/
noncomputable def b_words (m : Nat → List PyData → R Ow) : Ev → SR :=
    (sSeq (sIf (tNotE (eB (eB (eVar 0) (gIsi "str")) asB))
    sNo
    sSkip)
    (sSeq (sSet 1 (eLst aNil))
    (sSeq (sSet 2 (eM (eC (.int 0)) Ow.d))
    (sSeq (whileN (eB (eBin gLt (eVar 2) (eM (eCa gLen (aCons (eVar 0) aNil)) viewD)) asB)
    (sSeq (sIf (eB (eBin gEq (eBin gIx (eVar 0) (eVar 2)) (eC (.str " "))) asB)
    (sSeq (sAug gAddA 2 (eC (.int 1)))
    sCont)
    sSkip)
    (sSeq (sSet 3 (eM (eM (eB (aCons (eVar 0) (aCons (eVar 2) aNil)) (m 2)) viewD) Ow.d))
    (sSeq (sApp 1 (eSl (eVar 0) (eB (eVar 2) asI) (eB (eVar 3) asI)))
    (sSet 2 (eM (eVar 3) Ow.d))))) 1000000)
    (sRetV 1)))))
/-- is_name: 0 word -/
noncomputable def b_is_name (m : Nat → List PyData → R Ow) : Ev → SR :=
    (sRet (eM (eBin gIn (eBin gIx (eVar 0) (eC (.int 0))) (eC (.str "abcdefghijklmnopqrstuvwxyz"))) Ow.d))
/-- is_number: 0 word -/
noncomputable def b_is_number (m : Nat → List PyData → R Ow) : Ev → SR :=
    (sRet (eM (eBin gIn (eBin gIx (eVar 0) (eB (eC (.int 1)) gNeg)) (eC (.str "0123456789"))) Ow.d))
/-- tree_at: 0 row, 1 here, 2 level, 3 name, 4 mark, 5 branches, 6 branch -/
noncomputable def b_tree_at (m : Nat → List PyData → R Ow) : Ev → SR :=
    (sSeq (sIf (tOrE (eB (eBin gGt (eVar 2) (eC (.int 40))) asB) (tOrE (eB (eBin gGe (eVar 1) (eM (eCa gLen (aCons (eVar 0) aNil)) viewD)) asB) (tNotE (eB (eM (eB (aCons (eBin gIx (eVar 0) (eVar 1)) aNil) (m 4)) viewD) asB))))
    sNo
    sSkip)
    (sSeq (sSet 3 (eM (eBin gIx (eVar 0) (eVar 1)) Ow.d))
    (sSeq (sAug gAddA 1 (eC (.int 1)))
    (sSeq (sSet 4 (eM (eC (.int 0)) Ow.d))
    (sSeq (sIf (tAndE (eB (eBin gLt (eVar 1) (eM (eCa gLen (aCons (eVar 0) aNil)) viewD)) asB) (eB (eM (eB (aCons (eBin gIx (eVar 0) (eVar 1)) aNil) (m 5)) viewD) asB))
    (sSeq (sSet 4 (eM (eM (eCa gInt (aCons (eBin gIx (eVar 0) (eVar 1)) aNil)) viewD) Ow.d))
    (sAug gAddA 1 (eC (.int 1))))
    sSkip)
    (sSeq (sSet 5 (eLst aNil))
    (sSeq (sIf (tAndE (eB (eBin gLt (eVar 1) (eM (eCa gLen (aCons (eVar 0) aNil)) viewD)) asB) (eB (eBin gEq (eBin gIx (eVar 0) (eVar 1)) (eC (.str "("))) asB))
    (sSeq (sAug gAddA 1 (eC (.int 1)))
    (sSeq (whileN (tOrE (eB (eBin gGe (eVar 1) (eM (eCa gLen (aCons (eVar 0) aNil)) viewD)) asB) (eB (eBin gNe (eBin gIx (eVar 0) (eVar 1)) (eC (.str ")"))) asB))
    (sSeq (sAsg (gtTup 2 (gtCons (gtName 6) (gtCons (gtName 1) gtNil))) (eM (eB (aCons (eVar 0) (aCons (eVar 1) (aCons (eM (eBinO gAdd (eVar 2) (eC (.int 1))) viewD) aNil))) (m 6)) viewD))
    (sApp 5 (eM (eVar 6) Ow.d))) 1000000)
    (sSeq (sIf (eB (eBin gEq (eM (eVarO 5) viewD) (eM (eLst aNil) viewD)) asB)
    sNo
    sSkip)
    (sAug gAddA 1 (eC (.int 1))))))
    sSkip)
    (sRet (eM (eTup (aCons (eTup (aCons (eVar 3) (aCons (eVar 4) (aCons (eM (eCa gTuple (aCons (eB (eVarO 5) shD) aNil)) viewD) aNil)))) (aCons (eVar 1) aNil))) Ow.d)))))))))
/-- read_tree: 0 text, 1 row, 2 tree, 3 end -/
noncomputable def b_read_tree (m : Nat → List PyData → R Ow) : Ev → SR :=
    (sSeq (sSet 1 (eM (eM (eB (aCons (eVar 0) aNil) (m 3)) viewD) Ow.d))
    (sSeq (sAsg (gtTup 2 (gtCons (gtName 2) (gtCons (gtName 3) gtNil))) (eM (eB (aCons (eVar 1) (aCons (eC (.int 0)) (aCons (eC (.int 1)) aNil))) (m 6)) viewD))
    (sSeq (sIf (tOrE (eB (eBin gNe (eVar 3) (eM (eCa gLen (aCons (eVar 1) aNil)) viewD)) asB) (eB (eBin gGt (eM (eB (aCons (eVar 2) aNil) (m 0)) viewD) (eC (.int 200))) asB))
    sNo
    sSkip)
    (sRet (eM (eVar 2) Ow.d)))))
/-- show_tree: 0 tree, 1 shown, 2 branch -/
noncomputable def b_show_tree (m : Nat → List PyData → R Ow) : Ev → SR :=
    (sSeq (sSet 1 (eM (eBin gIx (eVar 0) (eC (.int 0))) Ow.d))
    (sSeq (sIf (eB (eBin gNe (eBin gIx (eVar 0) (eC (.int 1))) (eC (.int 0))) asB)
    (sAug gAddA 1 (eM (eCa gStr (aCons (eBin gIx (eVar 0) (eC (.int 1))) aNil)) viewD))
    sSkip)
    (sSeq (sIf (eB (eBin gGt (eM (eCa gLen (aCons (eBin gIx (eVar 0) (eC (.int 2))) aNil)) viewD) (eC (.int 0))) asB)
    (sAug gAddA 1 (eM (eBinO gAdd (eB (eBinO gAdd (eC (.str "(")) (eJoin (eC (.str " ")) (eB (eLc (eB (eBin gIx (eVar 0) (eC (.int 2))) itD) (gtName 2) cYes (eB (aCons (eVar 2) aNil) (m 8)) (List.map (·.2) ([("branch", 2)] : List (Str × Nat)))) shD))) shD) (eC (.str ")"))) viewD))
    sSkip)
    (sRet (eM (eVar 1) Ow.d)))))
/-- _law_name_by: 0 _law_cell, 1 _law_letters, 2 _law_name, 3 _law_k -/
noncomputable def b__law_name_by (m : Nat → List PyData → R Ow) : Ev → SR :=
    (sSeq (sSet 1 (eM (eC (.str "abcdefghijklmnopqrstuvwxyz")) Ow.d))
    (sSeq (sSet 2 (eM (eC (.str "")) Ow.d))
    (sSeq (sFor (eB (aCons (eM (eBinO gAdd (eC (.int 1)) (eBin gMod (eVar 0) (eC (.int 8)))) viewD) aNil) rg1) (gtName 3)
    (sSeq (sSet 0 (eM (eM (eBinO gAdd (eBin gDiv (eVar 0) (eC (.int 3))) (eBin gMul (eC (.int 7)) (eVar 3))) viewD) Ow.d))
    (sSet 2 (eM (eM (eBinO gAdd (eVar 2) (eBin gIx (eVar 1) (eBin gMod (eVar 0) (eC (.int 26))))) viewD) Ow.d))))
    (sRet (eM (eVar 2) Ow.d)))))
/-- _law_rows: 0 _law_cells, 1 _law_rows_here, 2 _law_cell, 3 _law_number, 4 _law_name, 5 _law_mark, 6 _law_up -/
noncomputable def b__law_rows (m : Nat → List PyData → R Ow) : Ev → SR :=
    (sSeq (sSet 1 (eLst aNil))
    (sSeq (sFor (eB (eVar 0) itD) (gtName 2)
    (sSeq (sSet 3 (eM (eBin gMod (eVar 2) (eBin gPow (eC (.int 10)) (eC (.int 64)))) Ow.d))
    (sSeq (sSet 4 (eM (eM (eB (aCons (eBin gMod (eBin gMul (eVar 3) (eC (.int 48271))) (eC (.int 2147483647))) aNil) (m 9)) viewD) Ow.d))
    (sSeq (sSet 5 (eM (eM (eBinO gAdd (eBin gSub (eBin gMod (eBin gMul (eVar 3) (eC (.int 69621))) (eBin gSub (eBin gMul (eC (.int 2)) (eBin gPow (eC (.int 10)) (eC (.int 60)))) (eC (.int 1)))) (eBin gPow (eC (.int 10)) (eC (.int 60)))) (eC (.int 1))) viewD) Ow.d))
    (sSeq (sIf (eB (eBin gEq (eBin gMod (eBin gDiv (eVar 3) (eC (.int 3))) (eC (.int 4))) (eC (.int 1))) asB)
    (sSet 5 (eM (eC (.int 0)) Ow.d))
    sSkip)
    (sSeq (sIf (eB (eBin gEq (eBin gMod (eBin gDiv (eVar 3) (eC (.int 3))) (eC (.int 4))) (eC (.int 2))) asB)
    (sSet 5 (eM (eBin gSub (eBin gMod (eBin gDiv (eVar 3) (eC (.int 12))) (eC (.int 19))) (eC (.int 9))) Ow.d))
    sSkip)
    (sSeq (sSet 6 (eM (eC (.int 0)) Ow.d))
    (sSeq (sIf (eB (eBin gGt (eM (eCa gLen (aCons (eB (eVarO 1) shD) aNil)) viewD) (eC (.int 0))) asB)
    (sSeq (sSet 6 (eM (eBin gMod (eVar 3) (eM (eCa gLen (aCons (eB (eVarO 1) shD) aNil)) viewD)) Ow.d))
    (sIf (eB (eBin gEq (eBin gMod (eBin gDiv (eVar 3) (eC (.int 61))) (eC (.int 3))) (eC (.int 0))) asB)
    (sSet 6 (eM (eBin gSub (eM (eCa gLen (aCons (eB (eVarO 1) shD) aNil)) viewD) (eC (.int 1))) Ow.d))
    sSkip))
    sSkip)
    (sApp 1 (eM (eTup (aCons (eVar 4) (aCons (eVar 5) (aCons (eVar 6) (aCons (eBin gMod (eBin gMul (eVar 3) (eC (.int 40692))) (eC (.int 2147483399))) aNil))))) Ow.d))))))))))
    (sRetV 1)))
/-- _law_texts: 0 _law_rows_here, 1 _law_below, 2 _law_row, 3 _law_loose, 4 _law_trees, 5 _law_k, 6 _law_name, 7 _law_mark, 8 _law_up, 9 _law_number, 10 _law_shown, 11 _law_wide, 12 _law_gap, 13 _law_tree -/
noncomputable def b__law_texts (m : Nat → List PyData → R Ow) : Ev → SR :=
    (sSeq (sSet 1 (eLc (eB (eVar 0) itD) (gtName 2) cYes (eLst aNil) (List.map (·.2) ([("_law_row", 2)] : List (Str × Nat)))))
    (sSeq (sSet 3 (eLc (eB (eVar 0) itD) (gtName 2) cYes (eLst aNil) (List.map (·.2) ([("_law_row", 2)] : List (Str × Nat)))))
    (sSeq (sSet 4 (eLc (eB (eVar 0) itD) (gtName 2) cYes (eLst aNil) (List.map (·.2) ([("_law_row", 2)] : List (Str × Nat)))))
    (sSeq (sFor (eB (aCons (eBin gSub (eM (eCa gLen (aCons (eVar 0) aNil)) viewD) (eC (.int 1))) (aCons (eB (eC (.int 1)) gNeg) (aCons (eB (eC (.int 1)) gNeg) aNil))) rg3) (gtName 5)
    (sSeq (sAsg (gtTup 4 (gtCons (gtName 6) (gtCons (gtName 7) (gtCons (gtName 8) (gtCons (gtName 9) gtNil))))) (eBin gIx (eVar 0) (eVar 5)))
    (sSeq (sSet 10 (eM (eVar 6) Ow.d))
    (sSeq (sSet 11 (eM (eM (eBinO gAdd (eB (eBinO gAdd (eVar 6) (eB (eSl (eC (.str "  ")) oNone (eB (eBin gMod (eVar 9) (eC (.int 3))) asI)) shD)) shD) (eB (eCa gStr (aCons (eVar 7) aNil)) shD)) viewD) Ow.d))
    (sSeq (sIf (eB (eBin gNe (eVar 7) (eC (.int 0))) asB)
    (sSet 10 (eM (eM (eBinO gAdd (eVar 10) (eB (eCa gStr (aCons (eVar 7) aNil)) shD)) viewD) Ow.d))
    (sIf (eB (eBin gEq (eBin gMod (eBin gDiv (eVar 9) (eC (.int 3))) (eC (.int 2))) (eC (.int 0))) asB)
    (sSet 11 (eM (eVar 6) Ow.d))
    sSkip))
    (sSeq (sIf (eB (eBin gNe (eM (eIxO (eVarO 1) (eVar 5)) viewD) (eM (eLst aNil) viewD)) asB)
    (sSeq (sSet 10 (eM (eM (eBinO gAdd (eB (eBinO gAdd (eB (eBinO gAdd (eVar 10) (eC (.str "("))) shD) (eJoin (eC (.str " ")) (eB (eIxO (eVarO 1) (eVar 5)) shD))) shD) (eC (.str ")"))) viewD) Ow.d))
    (sSeq (sSet 11 (eM (eM (eBinO gAdd (eB (eBinO gAdd (eB (eBinO gAdd (eVar 11) (eB (eSl (eC (.str " ")) oNone (eB (eBin gMod (eBin gDiv (eVar 9) (eC (.int 6))) (eC (.int 2))) asI)) shD)) shD) (eC (.str "("))) shD) (eB (eSl (eC (.str " ")) oNone (eB (eBin gMod (eBin gDiv (eVar 9) (eC (.int 12))) (eC (.int 2))) asI)) shD)) viewD) Ow.d))
    (sSeq (sSet 12 (eM (eM (eSl (eC (.str "   ")) oNone (eB (eM (eBinO gAdd (eC (.int 1)) (eBin gMod (eBin gDiv (eVar 9) (eC (.int 24))) (eC (.int 3)))) viewD) asI)) viewD) Ow.d))
    (sSet 11 (eM (eM (eBinO gAdd (eB (eBinO gAdd (eB (eBinO gAdd (eVar 11) (eJoin (eVar 12) (eB (eIxO (eVarO 3) (eVar 5)) shD))) shD) (eB (eSl (eC (.str " ")) oNone (eB (eBin gMod (eBin gDiv (eVar 9) (eC (.int 72))) (eC (.int 2))) asI)) shD)) shD) (eC (.str ")"))) viewD) Ow.d)))))
    sSkip)
    (sSeq (sIns1 1 (eVar 8) 0 (eM (eVar 10) Ow.d))
    (sSeq (sIns1 3 (eVar 8) 0 (eM (eVar 11) Ow.d))
    (sSeq (sSet 13 (eM (eTup (aCons (eVar 6) (aCons (eVar 7) (aCons (eM (eCa gTuple (aCons (eB (eIxO (eVarO 4) (eVar 5)) shD) aNil)) viewD) aNil)))) Ow.d))
    (sIns1 4 (eVar 8) 0 (eM (eVar 13) Ow.d)))))))))))
    (sRet (eM (eTup (aCons (eVar 13) (aCons (eVar 10) (aCons (eVar 11) aNil)))) Ow.d))))))
/-- law: 0 _law_script, 1 _law_rows_here, 2 _law_tree, 3 _law_shown, 4 _law_wide, 5 _law_found, 6 _law_written -/
noncomputable def b_law (m : Nat → List PyData → R Ow) : Ev → SR :=
    (sSeq (sSet 1 (eM (eM (eB (aCons (eM (eSl (eB (eBinO gAdd (eVar 0) (eB (eLst (aCons (eC (.int 0)) aNil)) shD)) shD) oNone (eB (eC (.int 36)) asI)) viewD) aNil) (m 10)) viewD) Ow.d))
    (sSeq (sAsg (gtTup 3 (gtCons (gtName 2) (gtCons (gtName 3) (gtCons (gtName 4) gtNil)))) (eM (eB (aCons (eVar 1) aNil) (m 11)) viewD))
    (sSeq (sSet 5 (eM (eM (eB (aCons (eVar 2) aNil) (m 8)) viewD) Ow.d))
    (sSeq (sIf (tOrE (tNotE (eB (eB (eVar 5) (gIsi "str")) asB)) (eB (eBin gNe (eVar 5) (eVar 3)) asB))
    (sRet (eM (eC (.bool false)) Ow.d))
    sSkip)
    (sSeq (sFor (eB (eM (eLst (aCons (eVar 3) (aCons (eVar 4) (aCons (eM (eBinO gAdd (eB (eBinO gAdd (eC (.str " ")) (eVar 3)) shD) (eC (.str " "))) viewD) aNil)))) viewD) itD) (gtName 6)
    (sSeq (sSet 5 (eM (eM (eB (aCons (eVar 6) aNil) (m 7)) viewD) Ow.d))
    (sIf (tOrE (tNotE (eB (eB (eVar 5) (gIsi "tuple")) asB)) (tOrE (eB (eBin gNe (eVar 5) (eVar 2)) asB) (eB (eBin gNe (eM (eB (aCons (eVar 5) aNil) (m 8)) viewD) (eVar 3)) asB)))
    (sRet (eM (eC (.bool false)) Ow.d))
    sSkip)))
    (sRet (eM (eC (.bool true)) Ow.d)))))))
noncomputable def mir : Nat → Nat → List PyData → R Ow
  | 0, _ => fun _ => .no
  | n + 1, i => match i with
    | 0 => runB 2 (b_size (mir n))
    | 1 => runB 1 (b_run_end (mir n))
    | 2 => runB 2 (b_word_end (mir n))
    | 3 => runB 3 (b_words (mir n))
    | 4 => runB 0 (b_is_name (mir n))
    | 5 => runB 0 (b_is_number (mir n))
    | 6 => runB 4 (b_tree_at (mir n))
    | 7 => runB 3 (b_read_tree (mir n))
    | 8 => runB 2 (b_show_tree (mir n))
    | 9 => runB 3 (b__law_name_by (mir n))
    | 10 => runB 6 (b__law_rows (mir n))
    | 11 => runB 13 (b__law_texts (mir n))
    | 12 => runB 6 (b_law (mir n))
    | _ => fun _ => .no
theorem mir_size (n : Nat) (ds : List PyData) : mir (n + 1) 0 ds = runB 2 (b_size (mir n)) ds := rfl
theorem mir_run_end (n : Nat) (ds : List PyData) : mir (n + 1) 1 ds = runB 1 (b_run_end (mir n)) ds := rfl
theorem mir_word_end (n : Nat) (ds : List PyData) : mir (n + 1) 2 ds = runB 2 (b_word_end (mir n)) ds := rfl
theorem mir_words (n : Nat) (ds : List PyData) : mir (n + 1) 3 ds = runB 3 (b_words (mir n)) ds := rfl
theorem mir_is_name (n : Nat) (ds : List PyData) : mir (n + 1) 4 ds = runB 0 (b_is_name (mir n)) ds := rfl
theorem mir_is_number (n : Nat) (ds : List PyData) : mir (n + 1) 5 ds = runB 0 (b_is_number (mir n)) ds := rfl
theorem mir_tree_at (n : Nat) (ds : List PyData) : mir (n + 1) 6 ds = runB 4 (b_tree_at (mir n)) ds := rfl
theorem mir_read_tree (n : Nat) (ds : List PyData) : mir (n + 1) 7 ds = runB 3 (b_read_tree (mir n)) ds := rfl
theorem mir_show_tree (n : Nat) (ds : List PyData) : mir (n + 1) 8 ds = runB 2 (b_show_tree (mir n)) ds := rfl
theorem mir__law_name_by (n : Nat) (ds : List PyData) : mir (n + 1) 9 ds = runB 3 (b__law_name_by (mir n)) ds := rfl
theorem mir__law_rows (n : Nat) (ds : List PyData) : mir (n + 1) 10 ds = runB 6 (b__law_rows (mir n)) ds := rfl
theorem mir__law_texts (n : Nat) (ds : List PyData) : mir (n + 1) 11 ds = runB 13 (b__law_texts (mir n)) ds := rfl
theorem mir_law (n : Nat) (ds : List PyData) : mir (n + 1) 12 ds = runB 6 (b_law (mir n)) ds := rfl
theorem run_size (m : Nat → List PyData → R Ow) (ds : List PyData) : runB 2 (b_size m) ds = finR (((sSeq (sSet 1 (eM (eC (.int 1)) Ow.d))
    (sSeq (sFor (eB (eBin gIx (eVar 0) (eC (.int 2))) itD) (gtName 2)
    (sAug gAddA 1 (eM (eB (aCons (eVar 2) aNil) (m 0)) viewD)))
    (sRet (eM (eVar 1) Ow.d))))) (envOf 2 ds)) := runB_fin _ _ _
theorem run_run_end (m : Nat → List PyData → R Ow) (ds : List PyData) : runB 1 (b_run_end m) ds = finR (((sSeq (sSet 3 (eM (eVar 1) Ow.d))
    (sSeq (whileN (tAndE (eB (eBin gLt (eVar 3) (eM (eCa gLen (aCons (eVar 0) aNil)) viewD)) asB) (eB (eBin gIn (eBin gIx (eVar 0) (eVar 3)) (eVar 2)) asB))
    (sAug gAddA 3 (eC (.int 1))) 1000000)
    (sRet (eM (eVar 3) Ow.d))))) (envOf 1 ds)) := runB_fin _ _ _
theorem run_word_end (m : Nat → List PyData → R Ow) (ds : List PyData) : runB 2 (b_word_end m) ds = finR (((sSeq (sIf (eB (eBin gIn (eBin gIx (eVar 0) (eVar 1)) (eC (.str "();:=|*"))) asB)
    (sRet (eBinO gAdd (eVar 1) (eC (.int 1))))
    sSkip)
    (sSeq (sSet 2 (eM (eM (eB (aCons (eVar 0) (aCons (eVar 1) (aCons (eC (.str "abcdefghijklmnopqrstuvwxyz")) aNil))) (m 1)) viewD) Ow.d))
    (sSeq (sIf (eB (eBin gGt (eVar 2) (eVar 1)) asB)
    (sSeq (sIf (eB (eBin gGt (eBin gSub (eVar 2) (eVar 1)) (eC (.int 8))) asB)
    sNo
    sSkip)
    (sRet (eM (eVar 2) Ow.d)))
    sSkip)
    (sSeq (sSet 3 (eM (eM (eBinO gAdd (eVar 1) (eB (eCa gInt (aCons (eBin gEq (eBin gIx (eVar 0) (eVar 1)) (eC (.str "-"))) aNil)) shD)) viewD) Ow.d))
    (sSeq (sSet 2 (eM (eM (eB (aCons (eVar 0) (aCons (eVar 3) (aCons (eC (.str "0123456789")) aNil))) (m 1)) viewD) Ow.d))
    (sSeq (sIf (tOrE (eB (eBin gEq (eVar 2) (eVar 3)) asB) (eB (eBin gGt (eBin gSub (eVar 2) (eVar 3)) (eC (.int 60))) asB))
    sNo
    sSkip)
    (sSeq (sIf (tAndE (eB (eBin gEq (eBin gIx (eVar 0) (eVar 3)) (eC (.str "0"))) asB) (tOrE (eB (eBin gGt (eBin gSub (eVar 2) (eVar 3)) (eC (.int 1))) asB) (eB (eBin gGt (eVar 3) (eVar 1)) asB)))
    sNo
    sSkip)
    (sRet (eM (eVar 2) Ow.d)))))))))) (envOf 2 ds)) := runB_fin _ _ _
theorem run_words (m : Nat → List PyData → R Ow) (ds : List PyData) : runB 3 (b_words m) ds = finR (((sSeq (sIf (tNotE (eB (eB (eVar 0) (gIsi "str")) asB))
    sNo
    sSkip)
    (sSeq (sSet 1 (eLst aNil))
    (sSeq (sSet 2 (eM (eC (.int 0)) Ow.d))
    (sSeq (whileN (eB (eBin gLt (eVar 2) (eM (eCa gLen (aCons (eVar 0) aNil)) viewD)) asB)
    (sSeq (sIf (eB (eBin gEq (eBin gIx (eVar 0) (eVar 2)) (eC (.str " "))) asB)
    (sSeq (sAug gAddA 2 (eC (.int 1)))
    sCont)
    sSkip)
    (sSeq (sSet 3 (eM (eM (eB (aCons (eVar 0) (aCons (eVar 2) aNil)) (m 2)) viewD) Ow.d))
    (sSeq (sApp 1 (eSl (eVar 0) (eB (eVar 2) asI) (eB (eVar 3) asI)))
    (sSet 2 (eM (eVar 3) Ow.d))))) 1000000)
    (sRetV 1)))))) (envOf 3 ds)) := runB_fin _ _ _
theorem run_is_name (m : Nat → List PyData → R Ow) (ds : List PyData) : runB 0 (b_is_name m) ds = finR (((sRet (eM (eBin gIn (eBin gIx (eVar 0) (eC (.int 0))) (eC (.str "abcdefghijklmnopqrstuvwxyz"))) Ow.d))) (envOf 0 ds)) := runB_fin _ _ _
theorem run_is_number (m : Nat → List PyData → R Ow) (ds : List PyData) : runB 0 (b_is_number m) ds = finR (((sRet (eM (eBin gIn (eBin gIx (eVar 0) (eB (eC (.int 1)) gNeg)) (eC (.str "0123456789"))) Ow.d))) (envOf 0 ds)) := runB_fin _ _ _
theorem run_tree_at (m : Nat → List PyData → R Ow) (ds : List PyData) : runB 4 (b_tree_at m) ds = finR (((sSeq (sIf (tOrE (eB (eBin gGt (eVar 2) (eC (.int 40))) asB) (tOrE (eB (eBin gGe (eVar 1) (eM (eCa gLen (aCons (eVar 0) aNil)) viewD)) asB) (tNotE (eB (eM (eB (aCons (eBin gIx (eVar 0) (eVar 1)) aNil) (m 4)) viewD) asB))))
    sNo
    sSkip)
    (sSeq (sSet 3 (eM (eBin gIx (eVar 0) (eVar 1)) Ow.d))
    (sSeq (sAug gAddA 1 (eC (.int 1)))
    (sSeq (sSet 4 (eM (eC (.int 0)) Ow.d))
    (sSeq (sIf (tAndE (eB (eBin gLt (eVar 1) (eM (eCa gLen (aCons (eVar 0) aNil)) viewD)) asB) (eB (eM (eB (aCons (eBin gIx (eVar 0) (eVar 1)) aNil) (m 5)) viewD) asB))
    (sSeq (sSet 4 (eM (eM (eCa gInt (aCons (eBin gIx (eVar 0) (eVar 1)) aNil)) viewD) Ow.d))
    (sAug gAddA 1 (eC (.int 1))))
    sSkip)
    (sSeq (sSet 5 (eLst aNil))
    (sSeq (sIf (tAndE (eB (eBin gLt (eVar 1) (eM (eCa gLen (aCons (eVar 0) aNil)) viewD)) asB) (eB (eBin gEq (eBin gIx (eVar 0) (eVar 1)) (eC (.str "("))) asB))
    (sSeq (sAug gAddA 1 (eC (.int 1)))
    (sSeq (whileN (tOrE (eB (eBin gGe (eVar 1) (eM (eCa gLen (aCons (eVar 0) aNil)) viewD)) asB) (eB (eBin gNe (eBin gIx (eVar 0) (eVar 1)) (eC (.str ")"))) asB))
    (sSeq (sAsg (gtTup 2 (gtCons (gtName 6) (gtCons (gtName 1) gtNil))) (eM (eB (aCons (eVar 0) (aCons (eVar 1) (aCons (eM (eBinO gAdd (eVar 2) (eC (.int 1))) viewD) aNil))) (m 6)) viewD))
    (sApp 5 (eM (eVar 6) Ow.d))) 1000000)
    (sSeq (sIf (eB (eBin gEq (eM (eVarO 5) viewD) (eM (eLst aNil) viewD)) asB)
    sNo
    sSkip)
    (sAug gAddA 1 (eC (.int 1))))))
    sSkip)
    (sRet (eM (eTup (aCons (eTup (aCons (eVar 3) (aCons (eVar 4) (aCons (eM (eCa gTuple (aCons (eB (eVarO 5) shD) aNil)) viewD) aNil)))) (aCons (eVar 1) aNil))) Ow.d)))))))))) (envOf 4 ds)) := runB_fin _ _ _
theorem run_read_tree (m : Nat → List PyData → R Ow) (ds : List PyData) : runB 3 (b_read_tree m) ds = finR (((sSeq (sSet 1 (eM (eM (eB (aCons (eVar 0) aNil) (m 3)) viewD) Ow.d))
    (sSeq (sAsg (gtTup 2 (gtCons (gtName 2) (gtCons (gtName 3) gtNil))) (eM (eB (aCons (eVar 1) (aCons (eC (.int 0)) (aCons (eC (.int 1)) aNil))) (m 6)) viewD))
    (sSeq (sIf (tOrE (eB (eBin gNe (eVar 3) (eM (eCa gLen (aCons (eVar 1) aNil)) viewD)) asB) (eB (eBin gGt (eM (eB (aCons (eVar 2) aNil) (m 0)) viewD) (eC (.int 200))) asB))
    sNo
    sSkip)
    (sRet (eM (eVar 2) Ow.d)))))) (envOf 3 ds)) := runB_fin _ _ _
theorem run_show_tree (m : Nat → List PyData → R Ow) (ds : List PyData) : runB 2 (b_show_tree m) ds = finR (((sSeq (sSet 1 (eM (eBin gIx (eVar 0) (eC (.int 0))) Ow.d))
    (sSeq (sIf (eB (eBin gNe (eBin gIx (eVar 0) (eC (.int 1))) (eC (.int 0))) asB)
    (sAug gAddA 1 (eM (eCa gStr (aCons (eBin gIx (eVar 0) (eC (.int 1))) aNil)) viewD))
    sSkip)
    (sSeq (sIf (eB (eBin gGt (eM (eCa gLen (aCons (eBin gIx (eVar 0) (eC (.int 2))) aNil)) viewD) (eC (.int 0))) asB)
    (sAug gAddA 1 (eM (eBinO gAdd (eB (eBinO gAdd (eC (.str "(")) (eJoin (eC (.str " ")) (eB (eLc (eB (eBin gIx (eVar 0) (eC (.int 2))) itD) (gtName 2) cYes (eB (aCons (eVar 2) aNil) (m 8)) (List.map (·.2) ([("branch", 2)] : List (Str × Nat)))) shD))) shD) (eC (.str ")"))) viewD))
    sSkip)
    (sRet (eM (eVar 1) Ow.d)))))) (envOf 2 ds)) := runB_fin _ _ _
theorem run__law_name_by (m : Nat → List PyData → R Ow) (ds : List PyData) : runB 3 (b__law_name_by m) ds = finR (((sSeq (sSet 1 (eM (eC (.str "abcdefghijklmnopqrstuvwxyz")) Ow.d))
    (sSeq (sSet 2 (eM (eC (.str "")) Ow.d))
    (sSeq (sFor (eB (aCons (eM (eBinO gAdd (eC (.int 1)) (eBin gMod (eVar 0) (eC (.int 8)))) viewD) aNil) rg1) (gtName 3)
    (sSeq (sSet 0 (eM (eM (eBinO gAdd (eBin gDiv (eVar 0) (eC (.int 3))) (eBin gMul (eC (.int 7)) (eVar 3))) viewD) Ow.d))
    (sSet 2 (eM (eM (eBinO gAdd (eVar 2) (eBin gIx (eVar 1) (eBin gMod (eVar 0) (eC (.int 26))))) viewD) Ow.d))))
    (sRet (eM (eVar 2) Ow.d)))))) (envOf 3 ds)) := runB_fin _ _ _
theorem run__law_rows (m : Nat → List PyData → R Ow) (ds : List PyData) : runB 6 (b__law_rows m) ds = finR (((sSeq (sSet 1 (eLst aNil))
    (sSeq (sFor (eB (eVar 0) itD) (gtName 2)
    (sSeq (sSet 3 (eM (eBin gMod (eVar 2) (eBin gPow (eC (.int 10)) (eC (.int 64)))) Ow.d))
    (sSeq (sSet 4 (eM (eM (eB (aCons (eBin gMod (eBin gMul (eVar 3) (eC (.int 48271))) (eC (.int 2147483647))) aNil) (m 9)) viewD) Ow.d))
    (sSeq (sSet 5 (eM (eM (eBinO gAdd (eBin gSub (eBin gMod (eBin gMul (eVar 3) (eC (.int 69621))) (eBin gSub (eBin gMul (eC (.int 2)) (eBin gPow (eC (.int 10)) (eC (.int 60)))) (eC (.int 1)))) (eBin gPow (eC (.int 10)) (eC (.int 60)))) (eC (.int 1))) viewD) Ow.d))
    (sSeq (sIf (eB (eBin gEq (eBin gMod (eBin gDiv (eVar 3) (eC (.int 3))) (eC (.int 4))) (eC (.int 1))) asB)
    (sSet 5 (eM (eC (.int 0)) Ow.d))
    sSkip)
    (sSeq (sIf (eB (eBin gEq (eBin gMod (eBin gDiv (eVar 3) (eC (.int 3))) (eC (.int 4))) (eC (.int 2))) asB)
    (sSet 5 (eM (eBin gSub (eBin gMod (eBin gDiv (eVar 3) (eC (.int 12))) (eC (.int 19))) (eC (.int 9))) Ow.d))
    sSkip)
    (sSeq (sSet 6 (eM (eC (.int 0)) Ow.d))
    (sSeq (sIf (eB (eBin gGt (eM (eCa gLen (aCons (eB (eVarO 1) shD) aNil)) viewD) (eC (.int 0))) asB)
    (sSeq (sSet 6 (eM (eBin gMod (eVar 3) (eM (eCa gLen (aCons (eB (eVarO 1) shD) aNil)) viewD)) Ow.d))
    (sIf (eB (eBin gEq (eBin gMod (eBin gDiv (eVar 3) (eC (.int 61))) (eC (.int 3))) (eC (.int 0))) asB)
    (sSet 6 (eM (eBin gSub (eM (eCa gLen (aCons (eB (eVarO 1) shD) aNil)) viewD) (eC (.int 1))) Ow.d))
    sSkip))
    sSkip)
    (sApp 1 (eM (eTup (aCons (eVar 4) (aCons (eVar 5) (aCons (eVar 6) (aCons (eBin gMod (eBin gMul (eVar 3) (eC (.int 40692))) (eC (.int 2147483399))) aNil))))) Ow.d))))))))))
    (sRetV 1)))) (envOf 6 ds)) := runB_fin _ _ _
theorem run__law_texts (m : Nat → List PyData → R Ow) (ds : List PyData) : runB 13 (b__law_texts m) ds = finR (((sSeq (sSet 1 (eLc (eB (eVar 0) itD) (gtName 2) cYes (eLst aNil) (List.map (·.2) ([("_law_row", 2)] : List (Str × Nat)))))
    (sSeq (sSet 3 (eLc (eB (eVar 0) itD) (gtName 2) cYes (eLst aNil) (List.map (·.2) ([("_law_row", 2)] : List (Str × Nat)))))
    (sSeq (sSet 4 (eLc (eB (eVar 0) itD) (gtName 2) cYes (eLst aNil) (List.map (·.2) ([("_law_row", 2)] : List (Str × Nat)))))
    (sSeq (sFor (eB (aCons (eBin gSub (eM (eCa gLen (aCons (eVar 0) aNil)) viewD) (eC (.int 1))) (aCons (eB (eC (.int 1)) gNeg) (aCons (eB (eC (.int 1)) gNeg) aNil))) rg3) (gtName 5)
    (sSeq (sAsg (gtTup 4 (gtCons (gtName 6) (gtCons (gtName 7) (gtCons (gtName 8) (gtCons (gtName 9) gtNil))))) (eBin gIx (eVar 0) (eVar 5)))
    (sSeq (sSet 10 (eM (eVar 6) Ow.d))
    (sSeq (sSet 11 (eM (eM (eBinO gAdd (eB (eBinO gAdd (eVar 6) (eB (eSl (eC (.str "  ")) oNone (eB (eBin gMod (eVar 9) (eC (.int 3))) asI)) shD)) shD) (eB (eCa gStr (aCons (eVar 7) aNil)) shD)) viewD) Ow.d))
    (sSeq (sIf (eB (eBin gNe (eVar 7) (eC (.int 0))) asB)
    (sSet 10 (eM (eM (eBinO gAdd (eVar 10) (eB (eCa gStr (aCons (eVar 7) aNil)) shD)) viewD) Ow.d))
    (sIf (eB (eBin gEq (eBin gMod (eBin gDiv (eVar 9) (eC (.int 3))) (eC (.int 2))) (eC (.int 0))) asB)
    (sSet 11 (eM (eVar 6) Ow.d))
    sSkip))
    (sSeq (sIf (eB (eBin gNe (eM (eIxO (eVarO 1) (eVar 5)) viewD) (eM (eLst aNil) viewD)) asB)
    (sSeq (sSet 10 (eM (eM (eBinO gAdd (eB (eBinO gAdd (eB (eBinO gAdd (eVar 10) (eC (.str "("))) shD) (eJoin (eC (.str " ")) (eB (eIxO (eVarO 1) (eVar 5)) shD))) shD) (eC (.str ")"))) viewD) Ow.d))
    (sSeq (sSet 11 (eM (eM (eBinO gAdd (eB (eBinO gAdd (eB (eBinO gAdd (eVar 11) (eB (eSl (eC (.str " ")) oNone (eB (eBin gMod (eBin gDiv (eVar 9) (eC (.int 6))) (eC (.int 2))) asI)) shD)) shD) (eC (.str "("))) shD) (eB (eSl (eC (.str " ")) oNone (eB (eBin gMod (eBin gDiv (eVar 9) (eC (.int 12))) (eC (.int 2))) asI)) shD)) viewD) Ow.d))
    (sSeq (sSet 12 (eM (eM (eSl (eC (.str "   ")) oNone (eB (eM (eBinO gAdd (eC (.int 1)) (eBin gMod (eBin gDiv (eVar 9) (eC (.int 24))) (eC (.int 3)))) viewD) asI)) viewD) Ow.d))
    (sSet 11 (eM (eM (eBinO gAdd (eB (eBinO gAdd (eB (eBinO gAdd (eVar 11) (eJoin (eVar 12) (eB (eIxO (eVarO 3) (eVar 5)) shD))) shD) (eB (eSl (eC (.str " ")) oNone (eB (eBin gMod (eBin gDiv (eVar 9) (eC (.int 72))) (eC (.int 2))) asI)) shD)) shD) (eC (.str ")"))) viewD) Ow.d)))))
    sSkip)
    (sSeq (sIns1 1 (eVar 8) 0 (eM (eVar 10) Ow.d))
    (sSeq (sIns1 3 (eVar 8) 0 (eM (eVar 11) Ow.d))
    (sSeq (sSet 13 (eM (eTup (aCons (eVar 6) (aCons (eVar 7) (aCons (eM (eCa gTuple (aCons (eB (eIxO (eVarO 4) (eVar 5)) shD) aNil)) viewD) aNil)))) Ow.d))
    (sIns1 4 (eVar 8) 0 (eM (eVar 13) Ow.d)))))))))))
    (sRet (eM (eTup (aCons (eVar 13) (aCons (eVar 10) (aCons (eVar 11) aNil)))) Ow.d))))))) (envOf 13 ds)) := runB_fin _ _ _
theorem run_law (m : Nat → List PyData → R Ow) (ds : List PyData) : runB 6 (b_law m) ds = finR (((sSeq (sSet 1 (eM (eM (eB (aCons (eM (eSl (eB (eBinO gAdd (eVar 0) (eB (eLst (aCons (eC (.int 0)) aNil)) shD)) shD) oNone (eB (eC (.int 36)) asI)) viewD) aNil) (m 10)) viewD) Ow.d))
    (sSeq (sAsg (gtTup 3 (gtCons (gtName 2) (gtCons (gtName 3) (gtCons (gtName 4) gtNil)))) (eM (eB (aCons (eVar 1) aNil) (m 11)) viewD))
    (sSeq (sSet 5 (eM (eM (eB (aCons (eVar 2) aNil) (m 8)) viewD) Ow.d))
    (sSeq (sIf (tOrE (tNotE (eB (eB (eVar 5) (gIsi "str")) asB)) (eB (eBin gNe (eVar 5) (eVar 3)) asB))
    (sRet (eM (eC (.bool false)) Ow.d))
    sSkip)
    (sSeq (sFor (eB (eM (eLst (aCons (eVar 3) (aCons (eVar 4) (aCons (eM (eBinO gAdd (eB (eBinO gAdd (eC (.str " ")) (eVar 3)) shD) (eC (.str " "))) viewD) aNil)))) viewD) itD) (gtName 6)
    (sSeq (sSet 5 (eM (eM (eB (aCons (eVar 6) aNil) (m 7)) viewD) Ow.d))
    (sIf (tOrE (tNotE (eB (eB (eVar 5) (gIsi "tuple")) asB)) (tOrE (eB (eBin gNe (eVar 5) (eVar 2)) asB) (eB (eBin gNe (eM (eB (aCons (eVar 5) aNil) (m 8)) viewD) (eVar 3)) asB)))
    (sRet (eM (eC (.bool false)) Ow.d))
    sSkip)))
    (sRet (eM (eC (.bool true)) Ow.d)))))))) (envOf 6 ds)) := runB_fin _ _ _
/-! soundness -/
abbrev N_size : List Str := ["tree", "total", "branch"]
theorem sc_size : FnScope N_size ["tree"] (defScope s_size) := ⟨rfl, rfl, rfl, by decide +kernel, rfl, by decide +kernel, by decide +kernel⟩
abbrev N_run_end : List Str := ["text", "start", "signs", "end"]
theorem sc_run_end : FnScope N_run_end ["text", "start", "signs"] (defScope s_run_end) := ⟨rfl, rfl, rfl, by decide +kernel, rfl, by decide +kernel, by decide +kernel⟩
abbrev N_word_end : List Str := ["text", "start", "end", "first"]
theorem sc_word_end : FnScope N_word_end ["text", "start"] (defScope s_word_end) := ⟨rfl, rfl, rfl, by decide +kernel, rfl, by decide +kernel, by decide +kernel⟩
abbrev N_words : List Str := ["text", "found", "here", "end"]
theorem sc_words : FnScope N_words ["text"] (defScope s_words) := ⟨rfl, rfl, rfl, by decide +kernel, rfl, by decide +kernel, by decide +kernel⟩
abbrev N_is_name : List Str := ["word"]
theorem sc_is_name : FnScope N_is_name ["word"] (defScope s_is_name) := ⟨rfl, rfl, rfl, by decide +kernel, rfl, by decide +kernel, by decide +kernel⟩
abbrev N_is_number : List Str := ["word"]
theorem sc_is_number : FnScope N_is_number ["word"] (defScope s_is_number) := ⟨rfl, rfl, rfl, by decide +kernel, rfl, by decide +kernel, by decide +kernel⟩
abbrev N_tree_at : List Str := ["row", "here", "level", "name", "mark", "branches", "branch"]
theorem sc_tree_at : FnScope N_tree_at ["row", "here", "level"] (defScope s_tree_at) := ⟨rfl, rfl, rfl, by decide +kernel, rfl, by decide +kernel, by decide +kernel⟩
abbrev N_read_tree : List Str := ["text", "row", "tree", "end"]
theorem sc_read_tree : FnScope N_read_tree ["text"] (defScope s_read_tree) := ⟨rfl, rfl, rfl, by decide +kernel, rfl, by decide +kernel, by decide +kernel⟩
abbrev N_show_tree : List Str := ["tree", "shown", "branch"]
theorem sc_show_tree : FnScope N_show_tree ["tree"] (defScope s_show_tree) := ⟨rfl, rfl, rfl, by decide +kernel, rfl, by decide +kernel, by decide +kernel⟩
abbrev N__law_name_by : List Str := ["_law_cell", "_law_letters", "_law_name", "_law_k"]
theorem sc__law_name_by : FnScope N__law_name_by ["_law_cell"] (defScope s__law_name_by) := ⟨rfl, rfl, rfl, by decide +kernel, rfl, by decide +kernel, by decide +kernel⟩
abbrev N__law_rows : List Str := ["_law_cells", "_law_rows_here", "_law_cell", "_law_number", "_law_name", "_law_mark", "_law_up"]
theorem sc__law_rows : FnScope N__law_rows ["_law_cells"] (defScope s__law_rows) := ⟨rfl, rfl, rfl, by decide +kernel, rfl, by decide +kernel, by decide +kernel⟩
abbrev N__law_texts : List Str := ["_law_rows_here", "_law_below", "_law_row", "_law_loose", "_law_trees", "_law_k", "_law_name", "_law_mark", "_law_up", "_law_number", "_law_shown", "_law_wide", "_law_gap", "_law_tree"]
theorem sc__law_texts : FnScope N__law_texts ["_law_rows_here"] (defScope s__law_texts) := ⟨rfl, rfl, rfl, by decide +kernel, rfl, by decide +kernel, by decide +kernel⟩
abbrev N_law : List Str := ["_law_script", "_law_rows_here", "_law_tree", "_law_shown", "_law_wide", "_law_found", "_law_written"]
theorem sc_law : FnScope N_law ["_law_script"] (defScope s_law) := ⟨rfl, rfl, rfl, by decide +kernel, rfl, by decide +kernel, by decide +kernel⟩
structure Txt (K : PySem.W.Frag) (mg : Str → Option Value) (f : Nat → Addr) (fd : Nat → FuncData) : Prop where
  F_size : Fun K "size" "size" s_size (f 0) (fd 0)
  B_size : Binds K (fd 0) ["tree"] []
  M_size : mg "size" = some (.ref (f 0))
  F_run_end : Fun K "run_end" "run_end" s_run_end (f 1) (fd 1)
  B_run_end : Binds K (fd 1) ["text", "start", "signs"] []
  M_run_end : mg "run_end" = some (.ref (f 1))
  F_word_end : Fun K "word_end" "word_end" s_word_end (f 2) (fd 2)
  B_word_end : Binds K (fd 2) ["text", "start"] []
  M_word_end : mg "word_end" = some (.ref (f 2))
  F_words : Fun K "words" "words" s_words (f 3) (fd 3)
  B_words : Binds K (fd 3) ["text"] []
  M_words : mg "words" = some (.ref (f 3))
  F_is_name : Fun K "is_name" "is_name" s_is_name (f 4) (fd 4)
  B_is_name : Binds K (fd 4) ["word"] []
  M_is_name : mg "is_name" = some (.ref (f 4))
  F_is_number : Fun K "is_number" "is_number" s_is_number (f 5) (fd 5)
  B_is_number : Binds K (fd 5) ["word"] []
  M_is_number : mg "is_number" = some (.ref (f 5))
  F_tree_at : Fun K "tree_at" "tree_at" s_tree_at (f 6) (fd 6)
  B_tree_at : Binds K (fd 6) ["row", "here", "level"] []
  M_tree_at : mg "tree_at" = some (.ref (f 6))
  F_read_tree : Fun K "read_tree" "read_tree" s_read_tree (f 7) (fd 7)
  B_read_tree : Binds K (fd 7) ["text"] []
  M_read_tree : mg "read_tree" = some (.ref (f 7))
  F_show_tree : Fun K "show_tree" "show_tree" s_show_tree (f 8) (fd 8)
  B_show_tree : Binds K (fd 8) ["tree"] []
  M_show_tree : mg "show_tree" = some (.ref (f 8))
  F__law_name_by : Fun K "_law_name_by" "_law_name_by" s__law_name_by (f 9) (fd 9)
  B__law_name_by : Binds K (fd 9) ["_law_cell"] []
  M__law_name_by : mg "_law_name_by" = some (.ref (f 9))
  F__law_rows : Fun K "_law_rows" "_law_rows" s__law_rows (f 10) (fd 10)
  B__law_rows : Binds K (fd 10) ["_law_cells"] []
  M__law_rows : mg "_law_rows" = some (.ref (f 10))
  F__law_texts : Fun K "_law_texts" "_law_texts" s__law_texts (f 11) (fd 11)
  B__law_texts : Binds K (fd 11) ["_law_rows_here"] []
  M__law_texts : mg "_law_texts" = some (.ref (f 11))
  F_law : Fun K "law" "law" s_law (f 12) (fd 12)
  B_law : Binds K (fd 12) ["_law_script"] []
  M_law : mg "law" = some (.ref (f 12))
  z_int : mg "int" = none
  z_isinstance : mg "isinstance" = none
  z_len : mg "len" = none
  z_range : mg "range" = none
  z_str : mg "str" = none
  z_tuple : mg "tuple" = none
  k_FIGURES : ∃ u, mg "FIGURES" = some u ∧ RelV (.str "0123456789") u
  k_LETTERS : ∃ u, mg "LETTERS" = some u ∧ RelV (.str "abcdefghijklmnopqrstuvwxyz") u
  k_SIGNS : ∃ u, mg "SIGNS" = some u ∧ RelV (.str "();:=|*") u
structure Fns (P : Program) (w : World) (K : PySem.W.Frag) (mg : Str → Option Value) (base : Heap) (f : Nat → Addr) (fd : Nat → FuncData) (n : Nat) : Prop where
  g_size : FnOk P w K mg base (L2.CX P w) n (f 0) (fd 0) ["tree"] (spM K mg 1 (mir n 0))
  g_run_end : FnOk P w K mg base (L2.CX P w) n (f 1) (fd 1) ["text", "start", "signs"] (spM K mg 3 (mir n 1))
  g_word_end : FnOk P w K mg base (L2.CX P w) n (f 2) (fd 2) ["text", "start"] (spM K mg 2 (mir n 2))
  g_words : FnOk P w K mg base (L2.CX P w) n (f 3) (fd 3) ["text"] (spM K mg 1 (mir n 3))
  g_is_name : FnOk P w K mg base (L2.CX P w) n (f 4) (fd 4) ["word"] (spM K mg 1 (mir n 4))
  g_is_number : FnOk P w K mg base (L2.CX P w) n (f 5) (fd 5) ["word"] (spM K mg 1 (mir n 5))
  g_tree_at : FnOk P w K mg base (L2.CX P w) n (f 6) (fd 6) ["row", "here", "level"] (spM K mg 3 (mir n 6))
  g_read_tree : FnOk P w K mg base (L2.CX P w) n (f 7) (fd 7) ["text"] (spM K mg 1 (mir n 7))
  g_show_tree : FnOk P w K mg base (L2.CX P w) n (f 8) (fd 8) ["tree"] (spM K mg 1 (mir n 8))
  g__law_name_by : FnOk P w K mg base (L2.CX P w) n (f 9) (fd 9) ["_law_cell"] (spM K mg 1 (mir n 9))
  g__law_rows : FnOk P w K mg base (L2.CX P w) n (f 10) (fd 10) ["_law_cells"] (spM K mg 1 (mir n 10))
  g__law_texts : FnOk P w K mg base (L2.CX P w) n (f 11) (fd 11) ["_law_rows_here"] (spM K mg 1 (mir n 11))
  g_law : FnOk P w K mg base (L2.CX P w) n (f 12) (fd 12) ["_law_script"] (spM K mg 1 (mir n 12))
section
variable {P : Program} {w : World} {K : PySem.W.Frag} {mg : Str → Option Value} {base : Heap} {f : Nat → Addr} {fd : Nat → FuncData} {n : Nat}
theorem ok_size (T : Txt K mg f fd) (G : Fns P w K mg base f fd n) : FnOk P w K mg base (L2.CX P w) (n + 1) (f 0) (fd 0) ["tree"] (spM K mg 1 (mir (n + 1) 0)) :=
  mk_fn (l := 2) (fb := b_size (mir n)) T.F_size sc_size rfl (fun _ => rfl) fun cdv A outer s H E hr =>
    (dss_cons (ds_set 1 sc_size.nd (de_df df_int))
    (dss_cons (ds_for (ix := [2]) (passes_of rfl) rfl (di_seq (df_ix (dl_df (df_var 0)) (dv_df df_int))) (dg_name 2 sc_size.nd)
    (dss_one (ds_aug 1 iop_addA opS_addA sc_size.nd (dv_de (de_call G.g_size (takes_of rfl rfl rfl rfl) hr rfl T.M_size T.F_size.kp T.B_size (da_cons (df_var 2) da_nil) (aCons_len (fun _ _ h => aNil_len h)))))))
    (dss_one (ds_ret (de_df (df_var 1))))))
theorem ok_run_end (T : Txt K mg f fd) (G : Fns P w K mg base f fd n) : FnOk P w K mg base (L2.CX P w) (n + 1) (f 1) (fd 1) ["text", "start", "signs"] (spM K mg 3 (mir (n + 1) 1)) :=
  mk_fn (l := 1) (fb := b_run_end (mir n)) T.F_run_end sc_run_end rfl (fun _ => rfl) fun cdv A outer s H E hr =>
    (dss_cons (ds_set 3 sc_run_end.nd (de_df (df_var 1)))
    (dss_cons (ds_while 1000000 (passes_of rfl) (dt_dw (dw_and (dt_lt (dv_df (df_var 3)) (dv_de (de_len rfl T.z_len (dal_cons (dl_df (df_var 0)) dal_nil)))) (dw_and1 (dt_in (room_eq hr) (dv_df (df_ix (dl_df (df_var 0)) (dv_df (df_var 3)))) (dv_df (df_var 2))))))
    (dss_one (ds_aug 3 iop_addA opS_addA sc_run_end.nd (dv_df df_int))))
    (dss_one (ds_ret (de_df (df_var 3))))))
theorem ok_word_end (T : Txt K mg f fd) (G : Fns P w K mg base f fd n) : FnOk P w K mg base (L2.CX P w) (n + 1) (f 2) (fd 2) ["text", "start"] (spM K mg 2 (mir (n + 1) 2)) :=
  mk_fn (l := 2) (fb := b_word_end (mir n)) T.F_word_end sc_word_end rfl (fun _ => rfl) fun cdv A outer s H E hr =>
    (dss_cons (ds_if (dt_in (room_eq hr) (dv_df (df_ix (dl_df (df_var 0)) (dv_df (df_var 1)))) (dv_df (df_gstr rfl T.k_SIGNS.choose_spec.1 T.k_SIGNS.choose_spec.2)))
    (dss_one (ds_ret (de_add (dl_df (df_var 1)) (dl_df df_int))))
    dss_nil)
    (dss_cons (ds_set 2 sc_word_end.nd (de_df (df_de (de_call G.g_run_end (takes_of rfl rfl rfl rfl) hr rfl T.M_run_end T.F_run_end.kp T.B_run_end (da_cons (df_var 0) (da_cons (df_var 1) (da_cons (df_gstr rfl T.k_LETTERS.choose_spec.1 T.k_LETTERS.choose_spec.2) da_nil))) (aCons_len (aCons_len (aCons_len (fun _ _ h => aNil_len h))))))))
    (dss_cons (ds_if (dt_gt (dv_df (df_var 2)) (dv_df (df_var 1)))
    (dss_cons (ds_if (dt_gt (dv_df (df_sub (dv_df (df_var 2)) (dv_df (df_var 1)))) (dv_df df_int))
    (dss_one ds_no)
    dss_nil)
    (dss_one (ds_ret (de_df (df_var 2)))))
    dss_nil)
    (dss_cons (ds_set 3 sc_word_end.nd (de_df (df_de (de_add (dl_df (df_var 1)) (dl_de (de_int rfl T.z_int (dal_cons (dl_df (df_eq (room_eq hr) (dv_df (df_ix (dl_df (df_var 0)) (dv_df (df_var 1)))) (dv_df df_str))) dal_nil)))))))
    (dss_cons (ds_set 2 sc_word_end.nd (de_df (df_de (de_call G.g_run_end (takes_of rfl rfl rfl rfl) hr rfl T.M_run_end T.F_run_end.kp T.B_run_end (da_cons (df_var 0) (da_cons (df_var 3) (da_cons (df_gstr rfl T.k_FIGURES.choose_spec.1 T.k_FIGURES.choose_spec.2) da_nil))) (aCons_len (aCons_len (aCons_len (fun _ _ h => aNil_len h))))))))
    (dss_cons (ds_if (dt_dw (dw_or (dt_eq (room_eq hr) (dv_df (df_var 2)) (dv_df (df_var 3))) (dw_or1 (dt_gt (dv_df (df_sub (dv_df (df_var 2)) (dv_df (df_var 3)))) (dv_df df_int)))))
    (dss_one ds_no)
    dss_nil)
    (dss_cons (ds_if (dt_dw (dw_and (dt_eq (room_eq hr) (dv_df (df_ix (dl_df (df_var 0)) (dv_df (df_var 3)))) (dv_df df_str)) (dw_and1 (dt_dw (dw_or (dt_gt (dv_df (df_sub (dv_df (df_var 2)) (dv_df (df_var 3)))) (dv_df df_int)) (dw_or1 (dt_gt (dv_df (df_var 3)) (dv_df (df_var 1)))))))))
    (dss_one ds_no)
    dss_nil)
    (dss_one (ds_ret (de_df (df_var 2)))))))))))
theorem ok_words (T : Txt K mg f fd) (G : Fns P w K mg base f fd n) : FnOk P w K mg base (L2.CX P w) (n + 1) (f 3) (fd 3) ["text"] (spM K mg 1 (mir (n + 1) 3)) :=
  mk_fn (l := 3) (fb := b_words (mir n)) T.F_words sc_words rfl (fun _ => rfl) fun cdv A outer s H E hr =>
    (dss_cons (ds_if (dt_not (dt_val (dv_df (df_isi (dv_df (df_var 0)) rfl T.z_isinstance rfl T.z_str rfl))))
    (dss_one ds_no)
    dss_nil)
    (dss_cons (ds_set 1 sc_words.nd (de_lst da_nil))
    (dss_cons (ds_set 2 sc_words.nd (de_df df_int))
    (dss_cons (ds_while 1000000 (passes_of rfl) (dt_lt (dv_df (df_var 2)) (dv_de (de_len rfl T.z_len (dal_cons (dl_df (df_var 0)) dal_nil))))
    (dss_cons (ds_if (dt_eq (room_eq hr) (dv_df (df_ix (dl_df (df_var 0)) (dv_df (df_var 2)))) (dv_df df_str))
    (dss_cons (ds_aug 2 iop_addA opS_addA sc_words.nd (dv_df df_int))
    (dss_one ds_cont))
    dss_nil)
    (dss_cons (ds_set 3 sc_words.nd (de_df (df_de (de_call G.g_word_end (takes_of rfl rfl rfl rfl) hr rfl T.M_word_end T.F_word_end.kp T.B_word_end (da_cons (df_var 0) (da_cons (df_var 2) da_nil)) (aCons_len (aCons_len (fun _ _ h => aNil_len h)))))))
    (dss_cons (ds_app 1 (de_slice (dl_df (df_var 0)) (do_some (dv_df (df_var 2))) (do_some (dv_df (df_var 3)))))
    (dss_one (ds_set 2 sc_words.nd (de_df (df_var 3))))))))
    (dss_one (ds_retV 1))))))
theorem ok_is_name (T : Txt K mg f fd) (G : Fns P w K mg base f fd n) : FnOk P w K mg base (L2.CX P w) (n + 1) (f 4) (fd 4) ["word"] (spM K mg 1 (mir (n + 1) 4)) :=
  mk_fn (l := 0) (fb := b_is_name (mir n)) T.F_is_name sc_is_name rfl (fun _ => rfl) fun cdv A outer s H E hr =>
    (dss_one (ds_ret (de_df (df_in (room_eq hr) (dv_df (df_ix (dl_df (df_var 0)) (dv_df df_int))) (dv_df (df_gstr rfl T.k_LETTERS.choose_spec.1 T.k_LETTERS.choose_spec.2))))))
theorem ok_is_number (T : Txt K mg f fd) (G : Fns P w K mg base f fd n) : FnOk P w K mg base (L2.CX P w) (n + 1) (f 5) (fd 5) ["word"] (spM K mg 1 (mir (n + 1) 5)) :=
  mk_fn (l := 0) (fb := b_is_number (mir n)) T.F_is_number sc_is_number rfl (fun _ => rfl) fun cdv A outer s H E hr =>
    (dss_one (ds_ret (de_df (df_in (room_eq hr) (dv_df (df_ix (dl_df (df_var 0)) (dv_df (df_neg (dv_df df_int))))) (dv_df (df_gstr rfl T.k_FIGURES.choose_spec.1 T.k_FIGURES.choose_spec.2))))))
theorem ok_tree_at (T : Txt K mg f fd) (G : Fns P w K mg base f fd n) : FnOk P w K mg base (L2.CX P w) (n + 1) (f 6) (fd 6) ["row", "here", "level"] (spM K mg 3 (mir (n + 1) 6)) :=
  mk_fn (l := 4) (fb := b_tree_at (mir n)) T.F_tree_at sc_tree_at rfl (fun _ => rfl) fun cdv A outer s H E hr =>
    (dss_cons (ds_if (dt_dw (dw_or (dt_gt (dv_df (df_var 2)) (dv_df df_int)) (dw_or (dt_ge (dv_df (df_var 1)) (dv_de (de_len rfl T.z_len (dal_cons (dl_df (df_var 0)) dal_nil)))) (dw_or1 (dt_not (dt_val (dv_de (de_call G.g_is_name (takes_of rfl rfl rfl rfl) hr rfl T.M_is_name T.F_is_name.kp T.B_is_name (da_cons (df_ix (dl_df (df_var 0)) (dv_df (df_var 1))) da_nil) (aCons_len (fun _ _ h => aNil_len h))))))))))
    (dss_one ds_no)
    dss_nil)
    (dss_cons (ds_set 3 sc_tree_at.nd (de_df (df_ix (dl_df (df_var 0)) (dv_df (df_var 1)))))
    (dss_cons (ds_aug 1 iop_addA opS_addA sc_tree_at.nd (dv_df df_int))
    (dss_cons (ds_set 4 sc_tree_at.nd (de_df df_int))
    (dss_cons (ds_if (dt_dw (dw_and (dt_lt (dv_df (df_var 1)) (dv_de (de_len rfl T.z_len (dal_cons (dl_df (df_var 0)) dal_nil)))) (dw_and1 (dt_val (dv_de (de_call G.g_is_number (takes_of rfl rfl rfl rfl) hr rfl T.M_is_number T.F_is_number.kp T.B_is_number (da_cons (df_ix (dl_df (df_var 0)) (dv_df (df_var 1))) da_nil) (aCons_len (fun _ _ h => aNil_len h))))))))
    (dss_cons (ds_set 4 sc_tree_at.nd (de_df (df_de (de_int rfl T.z_int (dal_cons (dl_df (df_ix (dl_df (df_var 0)) (dv_df (df_var 1)))) dal_nil)))))
    (dss_one (ds_aug 1 iop_addA opS_addA sc_tree_at.nd (dv_df df_int))))
    dss_nil)
    (dss_cons (ds_set 5 sc_tree_at.nd (de_lst da_nil))
    (dss_cons (ds_if (dt_dw (dw_and (dt_lt (dv_df (df_var 1)) (dv_de (de_len rfl T.z_len (dal_cons (dl_df (df_var 0)) dal_nil)))) (dw_and1 (dt_eq (room_eq hr) (dv_df (df_ix (dl_df (df_var 0)) (dv_df (df_var 1)))) (dv_df df_str)))))
    (dss_cons (ds_aug 1 iop_addA opS_addA sc_tree_at.nd (dv_df df_int))
    (dss_cons (ds_while 1000000 (passes_of rfl) (dt_dw (dw_or (dt_ge (dv_df (df_var 1)) (dv_de (de_len rfl T.z_len (dal_cons (dl_df (df_var 0)) dal_nil)))) (dw_or1 (dt_ne (room_eq hr) (dv_df (df_ix (dl_df (df_var 0)) (dv_df (df_var 1)))) (dv_df df_str)))))
    (dss_cons (ds_asg (ix := [6, 1]) (df_de (de_call G.g_tree_at (takes_of rfl rfl rfl rfl) hr rfl T.M_tree_at T.F_tree_at.kp T.B_tree_at (da_cons (df_var 0) (da_cons (df_var 1) (da_cons (df_de (de_add (dl_df (df_var 2)) (dl_df df_int))) da_nil))) (aCons_len (aCons_len (aCons_len (fun _ _ h => aNil_len h)))))) (dg_tup (n := 2) rfl (dgs_cons (dg_name 6 sc_tree_at.nd) (dgs_cons (dg_name 1 sc_tree_at.nd) dgs_nil))))
    (dss_one (ds_app 5 (de_df (df_var 6))))))
    (dss_cons (ds_if (dt_eq (room_eq hr) (dv_dp (dp_var 5)) (dv_de (de_lst da_nil)))
    (dss_one ds_no)
    dss_nil)
    (dss_one (ds_aug 1 iop_addA opS_addA sc_tree_at.nd (dv_df df_int))))))
    dss_nil)
    (dss_one (ds_ret (de_df (df_tup (da_cons (df_tup (da_cons (df_var 3) (da_cons (df_var 4) (da_cons (df_de (de_tuple rfl T.z_tuple (dal_cons (dl_dp (dp_var 5)) dal_nil))) da_nil)))) (da_cons (df_var 1) da_nil)))))))))))))
theorem ok_read_tree (T : Txt K mg f fd) (G : Fns P w K mg base f fd n) : FnOk P w K mg base (L2.CX P w) (n + 1) (f 7) (fd 7) ["text"] (spM K mg 1 (mir (n + 1) 7)) :=
  mk_fn (l := 3) (fb := b_read_tree (mir n)) T.F_read_tree sc_read_tree rfl (fun _ => rfl) fun cdv A outer s H E hr =>
    (dss_cons (ds_set 1 sc_read_tree.nd (de_df (df_de (de_call G.g_words (takes_of rfl rfl rfl rfl) hr rfl T.M_words T.F_words.kp T.B_words (da_cons (df_var 0) da_nil) (aCons_len (fun _ _ h => aNil_len h))))))
    (dss_cons (ds_asg (ix := [2, 3]) (df_de (de_call G.g_tree_at (takes_of rfl rfl rfl rfl) hr rfl T.M_tree_at T.F_tree_at.kp T.B_tree_at (da_cons (df_var 1) (da_cons df_int (da_cons df_int da_nil))) (aCons_len (aCons_len (aCons_len (fun _ _ h => aNil_len h)))))) (dg_tup (n := 2) rfl (dgs_cons (dg_name 2 sc_read_tree.nd) (dgs_cons (dg_name 3 sc_read_tree.nd) dgs_nil))))
    (dss_cons (ds_if (dt_dw (dw_or (dt_ne (room_eq hr) (dv_df (df_var 3)) (dv_de (de_len rfl T.z_len (dal_cons (dl_df (df_var 1)) dal_nil)))) (dw_or1 (dt_gt (dv_de (de_call G.g_size (takes_of rfl rfl rfl rfl) hr rfl T.M_size T.F_size.kp T.B_size (da_cons (df_var 2) da_nil) (aCons_len (fun _ _ h => aNil_len h)))) (dv_df df_int)))))
    (dss_one ds_no)
    dss_nil)
    (dss_one (ds_ret (de_df (df_var 2)))))))
theorem ok_show_tree (T : Txt K mg f fd) (G : Fns P w K mg base f fd n) : FnOk P w K mg base (L2.CX P w) (n + 1) (f 8) (fd 8) ["tree"] (spM K mg 1 (mir (n + 1) 8)) :=
  mk_fn (l := 2) (fb := b_show_tree (mir n)) T.F_show_tree sc_show_tree rfl (fun _ => rfl) fun cdv A outer s H E hr =>
    (dss_cons (ds_set 1 sc_show_tree.nd (de_df (df_ix (dl_df (df_var 0)) (dv_df df_int))))
    (dss_cons (ds_if (dt_ne (room_eq hr) (dv_df (df_ix (dl_df (df_var 0)) (dv_df df_int))) (dv_df df_int))
    (dss_one (ds_aug 1 iop_addA opS_addA sc_show_tree.nd (dv_de (de_str rfl T.z_str (dal_cons (dl_df (df_ix (dl_df (df_var 0)) (dv_df df_int))) dal_nil)))))
    dss_nil)
    (dss_cons (ds_if (dt_gt (dv_de (de_len rfl T.z_len (dal_cons (dl_df (df_ix (dl_df (df_var 0)) (dv_df df_int))) dal_nil))) (dv_df df_int))
    (dss_one (ds_aug 1 iop_addA opS_addA sc_show_tree.nd (dv_de (de_add (dl_de (de_add (dl_df df_str) (dl_df (df_join (dv_df df_str) (dl_de (de_lc (own := [("branch", 2)]) (ix := [2]) rfl sc_show_tree.nd (di_seq (df_ix (dl_df (df_var 0)) (dv_df df_int))) (blkOk_by (N := N_show_tree) (sc := defScope s_show_tree) (by decide +kernel)) (fun _ _ _ _ _ => (dg_name 2 sc_show_tree.nd)) (fun _ _ _ _ _ => dts_nil) (fun _ _ _ _ _ => (de_call G.g_show_tree takes0 hr rfl T.M_show_tree T.F_show_tree.kp T.B_show_tree (da_cons (df_var 2) da_nil) (aCons_len (fun _ _ h => aNil_len h)))))))))) (dl_df df_str)))))
    dss_nil)
    (dss_one (ds_ret (de_df (df_var 1)))))))
theorem ok__law_name_by (T : Txt K mg f fd) (G : Fns P w K mg base f fd n) : FnOk P w K mg base (L2.CX P w) (n + 1) (f 9) (fd 9) ["_law_cell"] (spM K mg 1 (mir (n + 1) 9)) :=
  mk_fn (l := 3) (fb := b__law_name_by (mir n)) T.F__law_name_by sc__law_name_by rfl (fun _ => rfl) fun cdv A outer s H E hr =>
    (dss_cons (ds_set 1 sc__law_name_by.nd (de_df df_str))
    (dss_cons (ds_set 2 sc__law_name_by.nd (de_df df_str))
    (dss_cons (ds_for (ix := [3]) (passes_of rfl) rfl (di_range1 rfl T.z_range (da_cons (df_de (de_add (dl_df df_int) (dl_df (df_mod (dv_df (df_var 0)) (dv_df df_int))))) da_nil)) (dg_name 3 sc__law_name_by.nd)
    (dss_cons (ds_set 0 sc__law_name_by.nd (de_df (df_de (de_add (dl_df (df_div (dv_df (df_var 0)) (dv_df df_int))) (dl_df (df_mul (dv_df df_int) (dv_df (df_var 3))))))))
    (dss_one (ds_set 2 sc__law_name_by.nd (de_df (df_de (de_add (dl_df (df_var 2)) (dl_df (df_ix (dl_df (df_var 1)) (dv_df (df_mod (dv_df (df_var 0)) (dv_df df_int))))))))))))
    (dss_one (ds_ret (de_df (df_var 2)))))))
theorem ok__law_rows (T : Txt K mg f fd) (G : Fns P w K mg base f fd n) : FnOk P w K mg base (L2.CX P w) (n + 1) (f 10) (fd 10) ["_law_cells"] (spM K mg 1 (mir (n + 1) 10)) :=
  mk_fn (l := 6) (fb := b__law_rows (mir n)) T.F__law_rows sc__law_rows rfl (fun _ => rfl) fun cdv A outer s H E hr =>
    (dss_cons (ds_set 1 sc__law_rows.nd (de_lst da_nil))
    (dss_cons (ds_for (ix := [2]) (passes_of rfl) rfl (di_seq (df_var 0)) (dg_name 2 sc__law_rows.nd)
    (dss_cons (ds_set 3 sc__law_rows.nd (de_df (df_mod (dv_df (df_var 2)) (dv_df (df_pow (dv_df df_int) (dv_df df_int))))))
    (dss_cons (ds_set 4 sc__law_rows.nd (de_df (df_de (de_call G.g__law_name_by (takes_of rfl rfl rfl rfl) hr rfl T.M__law_name_by T.F__law_name_by.kp T.B__law_name_by (da_cons (df_mod (dv_df (df_mul (dv_df (df_var 3)) (dv_df df_int))) (dv_df df_int)) da_nil) (aCons_len (fun _ _ h => aNil_len h))))))
    (dss_cons (ds_set 5 sc__law_rows.nd (de_df (df_de (de_add (dl_df (df_sub (dv_df (df_mod (dv_df (df_mul (dv_df (df_var 3)) (dv_df df_int))) (dv_df (df_sub (dv_df (df_mul (dv_df df_int) (dv_df (df_pow (dv_df df_int) (dv_df df_int))))) (dv_df df_int))))) (dv_df (df_pow (dv_df df_int) (dv_df df_int))))) (dl_df df_int)))))
    (dss_cons (ds_if (dt_eq (room_eq hr) (dv_df (df_mod (dv_df (df_div (dv_df (df_var 3)) (dv_df df_int))) (dv_df df_int))) (dv_df df_int))
    (dss_one (ds_set 5 sc__law_rows.nd (de_df df_int)))
    dss_nil)
    (dss_cons (ds_if (dt_eq (room_eq hr) (dv_df (df_mod (dv_df (df_div (dv_df (df_var 3)) (dv_df df_int))) (dv_df df_int))) (dv_df df_int))
    (dss_one (ds_set 5 sc__law_rows.nd (de_df (df_sub (dv_df (df_mod (dv_df (df_div (dv_df (df_var 3)) (dv_df df_int))) (dv_df df_int))) (dv_df df_int)))))
    dss_nil)
    (dss_cons (ds_set 6 sc__law_rows.nd (de_df df_int))
    (dss_cons (ds_if (dt_gt (dv_de (de_len rfl T.z_len (dal_cons (dl_dp (dp_var 1)) dal_nil))) (dv_df df_int))
    (dss_cons (ds_set 6 sc__law_rows.nd (de_df (df_mod (dv_df (df_var 3)) (dv_de (de_len rfl T.z_len (dal_cons (dl_dp (dp_var 1)) dal_nil))))))
    (dss_one (ds_if (dt_eq (room_eq hr) (dv_df (df_mod (dv_df (df_div (dv_df (df_var 3)) (dv_df df_int))) (dv_df df_int))) (dv_df df_int))
    (dss_one (ds_set 6 sc__law_rows.nd (de_df (df_sub (dv_de (de_len rfl T.z_len (dal_cons (dl_dp (dp_var 1)) dal_nil))) (dv_df df_int)))))
    dss_nil)))
    dss_nil)
    (dss_one (ds_app 1 (de_df (df_tup (da_cons (df_var 4) (da_cons (df_var 5) (da_cons (df_var 6) (da_cons (df_mod (dv_df (df_mul (dv_df (df_var 3)) (dv_df df_int))) (dv_df df_int)) da_nil))))))))))))))))
    (dss_one (ds_retV 1))))
theorem ok__law_texts (T : Txt K mg f fd) (G : Fns P w K mg base f fd n) : FnOk P w K mg base (L2.CX P w) (n + 1) (f 11) (fd 11) ["_law_rows_here"] (spM K mg 1 (mir (n + 1) 11)) :=
  mk_fn (l := 13) (fb := b__law_texts (mir n)) T.F__law_texts sc__law_texts rfl (fun _ => rfl) fun cdv A outer s H E hr =>
    (dss_cons (ds_setLc 1 (own := [("_law_row", 2)]) (ix := [2]) rfl sc__law_texts.nd (di_seq (df_var 0)) (blkOk_by (N := N__law_texts) (sc := defScope s__law_texts) (by decide +kernel)) (fun _ _ _ _ _ => (dg_name 2 sc__law_texts.nd)) (fun _ _ _ _ _ => dts_nil) (fun _ _ _ _ _ => (de_lst da_nil)))
    (dss_cons (ds_setLc 3 (own := [("_law_row", 2)]) (ix := [2]) rfl sc__law_texts.nd (di_seq (df_var 0)) (blkOk_by (N := N__law_texts) (sc := defScope s__law_texts) (by decide +kernel)) (fun _ _ _ _ _ => (dg_name 2 sc__law_texts.nd)) (fun _ _ _ _ _ => dts_nil) (fun _ _ _ _ _ => (de_lst da_nil)))
    (dss_cons (ds_setLc 4 (own := [("_law_row", 2)]) (ix := [2]) rfl sc__law_texts.nd (di_seq (df_var 0)) (blkOk_by (N := N__law_texts) (sc := defScope s__law_texts) (by decide +kernel)) (fun _ _ _ _ _ => (dg_name 2 sc__law_texts.nd)) (fun _ _ _ _ _ => dts_nil) (fun _ _ _ _ _ => (de_lst da_nil)))
    (dss_cons (ds_for (ix := [5]) (passes_of rfl) rfl (di_range3 rfl T.z_range (da_cons (df_sub (dv_de (de_len rfl T.z_len (dal_cons (dl_df (df_var 0)) dal_nil))) (dv_df df_int)) (da_cons (df_neg (dv_df df_int)) (da_cons (df_neg (dv_df df_int)) da_nil)))) (dg_name 5 sc__law_texts.nd)
    (dss_cons (ds_asg (ix := [6, 7, 8, 9]) (df_ix (dl_df (df_var 0)) (dv_df (df_var 5))) (dg_tup (n := 4) rfl (dgs_cons (dg_name 6 sc__law_texts.nd) (dgs_cons (dg_name 7 sc__law_texts.nd) (dgs_cons (dg_name 8 sc__law_texts.nd) (dgs_cons (dg_name 9 sc__law_texts.nd) dgs_nil))))))
    (dss_cons (ds_set 10 sc__law_texts.nd (de_df (df_var 6)))
    (dss_cons (ds_set 11 sc__law_texts.nd (de_df (df_de (de_add (dl_de (de_add (dl_df (df_var 6)) (dl_de (de_slice (dl_df df_str) do_none (do_some (dv_df (df_mod (dv_df (df_var 9)) (dv_df df_int)))))))) (dl_de (de_str rfl T.z_str (dal_cons (dl_df (df_var 7)) dal_nil)))))))
    (dss_cons (ds_if (dt_ne (room_eq hr) (dv_df (df_var 7)) (dv_df df_int))
    (dss_one (ds_set 10 sc__law_texts.nd (de_df (df_de (de_add (dl_df (df_var 10)) (dl_de (de_str rfl T.z_str (dal_cons (dl_df (df_var 7)) dal_nil))))))))
    (dss_one (ds_if (dt_eq (room_eq hr) (dv_df (df_mod (dv_df (df_div (dv_df (df_var 9)) (dv_df df_int))) (dv_df df_int))) (dv_df df_int))
    (dss_one (ds_set 11 sc__law_texts.nd (de_df (df_var 6))))
    dss_nil)))
    (dss_cons (ds_if (dt_ne (room_eq hr) (dv_dp (dp_ix (dp_var 1) (dv_df (df_var 5)))) (dv_de (de_lst da_nil)))
    (dss_cons (ds_set 10 sc__law_texts.nd (de_df (df_de (de_add (dl_de (de_add (dl_de (de_add (dl_df (df_var 10)) (dl_df df_str))) (dl_df (df_join (dv_df df_str) (dl_dp (dp_ix (dp_var 1) (dv_df (df_var 5)))))))) (dl_df df_str)))))
    (dss_cons (ds_set 11 sc__law_texts.nd (de_df (df_de (de_add (dl_de (de_add (dl_de (de_add (dl_df (df_var 11)) (dl_de (de_slice (dl_df df_str) do_none (do_some (dv_df (df_mod (dv_df (df_div (dv_df (df_var 9)) (dv_df df_int))) (dv_df df_int)))))))) (dl_df df_str))) (dl_de (de_slice (dl_df df_str) do_none (do_some (dv_df (df_mod (dv_df (df_div (dv_df (df_var 9)) (dv_df df_int))) (dv_df df_int))))))))))
    (dss_cons (ds_set 12 sc__law_texts.nd (de_df (df_de (de_slice (dl_df df_str) do_none (do_some (dv_de (de_add (dl_df df_int) (dl_df (df_mod (dv_df (df_div (dv_df (df_var 9)) (dv_df df_int))) (dv_df df_int))))))))))
    (dss_one (ds_set 11 sc__law_texts.nd (de_df (df_de (de_add (dl_de (de_add (dl_de (de_add (dl_df (df_var 11)) (dl_df (df_join (dv_df (df_var 12)) (dl_dp (dp_ix (dp_var 3) (dv_df (df_var 5)))))))) (dl_de (de_slice (dl_df df_str) do_none (do_some (dv_df (df_mod (dv_df (df_div (dv_df (df_var 9)) (dv_df df_int))) (dv_df df_int)))))))) (dl_df df_str)))))))))
    dss_nil)
    (dss_cons (ds_ins1 1 (dv_df (df_var 8)) (de_df (df_var 10)))
    (dss_cons (ds_ins1 3 (dv_df (df_var 8)) (de_df (df_var 11)))
    (dss_cons (ds_set 13 sc__law_texts.nd (de_df (df_tup (da_cons (df_var 6) (da_cons (df_var 7) (da_cons (df_de (de_tuple rfl T.z_tuple (dal_cons (dl_dp (dp_ix (dp_var 4) (dv_df (df_var 5)))) dal_nil))) da_nil))))))
    (dss_one (ds_ins1 4 (dv_df (df_var 8)) (de_df (df_var 13)))))))))))))
    (dss_one (ds_ret (de_df (df_tup (da_cons (df_var 13) (da_cons (df_var 10) (da_cons (df_var 11) da_nil)))))))))))
theorem ok_law (T : Txt K mg f fd) (G : Fns P w K mg base f fd n) : FnOk P w K mg base (L2.CX P w) (n + 1) (f 12) (fd 12) ["_law_script"] (spM K mg 1 (mir (n + 1) 12)) :=
  mk_fn (l := 6) (fb := b_law (mir n)) T.F_law sc_law rfl (fun _ => rfl) fun cdv A outer s H E hr =>
    (dss_cons (ds_set 1 sc_law.nd (de_df (df_de (de_call G.g__law_rows (takes_of rfl rfl rfl rfl) hr rfl T.M__law_rows T.F__law_rows.kp T.B__law_rows (da_cons (df_de (de_slice (dl_de (de_add (dl_df (df_var 0)) (dl_de (de_lst (da_cons df_int da_nil))))) do_none (do_some (dv_df df_int)))) da_nil) (aCons_len (fun _ _ h => aNil_len h))))))
    (dss_cons (ds_asg (ix := [2, 3, 4]) (df_de (de_call G.g__law_texts (takes_of rfl rfl rfl rfl) hr rfl T.M__law_texts T.F__law_texts.kp T.B__law_texts (da_cons (df_var 1) da_nil) (aCons_len (fun _ _ h => aNil_len h)))) (dg_tup (n := 3) rfl (dgs_cons (dg_name 2 sc_law.nd) (dgs_cons (dg_name 3 sc_law.nd) (dgs_cons (dg_name 4 sc_law.nd) dgs_nil)))))
    (dss_cons (ds_set 5 sc_law.nd (de_df (df_de (de_call G.g_show_tree (takes_of rfl rfl rfl rfl) hr rfl T.M_show_tree T.F_show_tree.kp T.B_show_tree (da_cons (df_var 2) da_nil) (aCons_len (fun _ _ h => aNil_len h))))))
    (dss_cons (ds_if (dt_dw (dw_or (dt_not (dt_val (dv_df (df_isi (dv_df (df_var 5)) rfl T.z_isinstance rfl T.z_str rfl)))) (dw_or1 (dt_ne (room_eq hr) (dv_df (df_var 5)) (dv_df (df_var 3))))))
    (dss_one (ds_ret (de_df df_bl)))
    dss_nil)
    (dss_cons (ds_for (ix := [6]) (passes_of rfl) rfl (di_seq (df_de (de_lst (da_cons (df_var 3) (da_cons (df_var 4) (da_cons (df_de (de_add (dl_de (de_add (dl_df df_str) (dl_df (df_var 3)))) (dl_df df_str))) da_nil)))))) (dg_name 6 sc_law.nd)
    (dss_cons (ds_set 5 sc_law.nd (de_df (df_de (de_call G.g_read_tree (takes_of rfl rfl rfl rfl) hr rfl T.M_read_tree T.F_read_tree.kp T.B_read_tree (da_cons (df_var 6) da_nil) (aCons_len (fun _ _ h => aNil_len h))))))
    (dss_one (ds_if (dt_dw (dw_or (dt_not (dt_val (dv_df (df_isi (dv_df (df_var 5)) rfl T.z_isinstance rfl T.z_tuple rfl)))) (dw_or (dt_ne (room_eq hr) (dv_df (df_var 5)) (dv_df (df_var 2))) (dw_or1 (dt_ne (room_eq hr) (dv_de (de_call G.g_show_tree (takes_of rfl rfl rfl rfl) hr rfl T.M_show_tree T.F_show_tree.kp T.B_show_tree (da_cons (df_var 5) da_nil) (aCons_len (fun _ _ h => aNil_len h)))) (dv_df (df_var 3)))))))
    (dss_one (ds_ret (de_df df_bl)))
    dss_nil))))
    (dss_one (ds_ret (de_df df_bl))))))))
theorem fn_none {f : Addr} {fd : FuncData} {ps : List Str} {k i : Nat} : FnOk P w K mg base (L2.CX P w) 0 f fd ps (spM K mg k (mir 0 i)) := by
  have no : ∀ vs H Q E, ¬ spM K mg k (mir 0 i) vs H Q E := fun vs H Q E ⟨F, ds, _, _, _, h⟩ => h
  exact ⟨fun vs H Q E h => absurd h (no vs H Q E), fun A outer s H args us vs Q E _ _ _ _ h => absurd h (no vs H Q E)⟩
theorem all_fns (T : Txt K mg f fd) : ∀ n, Fns P w K mg base f fd n
  | 0 => ⟨fn_none, fn_none, fn_none, fn_none, fn_none, fn_none, fn_none, fn_none, fn_none, fn_none, fn_none, fn_none, fn_none⟩
  | n + 1 => by
    have G := all_fns T n
    exact ⟨ok_size T G, ok_run_end T G, ok_word_end T G, ok_words T G, ok_is_name T G, ok_is_number T G, ok_tree_at T G, ok_read_tree T G, ok_show_tree T G, ok__law_name_by T G, ok__law_rows T G, ok__law_texts T G, ok_law T G⟩
end
def pick {α : Type} (z : α) : List α → Nat → α
  | [], _ => z
  | x :: _, 0 => x
  | _ :: xs, n + 1 => pick z xs n
theorem all_mk (L : Nat) {l : PySem.W.OpenLaw} {w : World} {K : PySem.W.Frag} {h : Heap} {mg : Str → Option Value} {fa : Addr} (X : K.In h) (G : h.Ns PySem.mainGlobals mg) (hfa : mg "law" = some (.ref fa))
    {od0 an0 : Option Addr} {sl0 : Array (Option Value)} {oc0 kV0 dc0 pm0 cd0 ct0 : Value} {f0 : Addr}
    (a0 : PySem.W.nsIn K PySem.mainGlobals "size" = some (some (.ref f0))) (l0 : K.lookup f0 = some ⟨oc0, od0, .func (PySem.W.fnOf "size" "size" (defArgs s_size) (defBody s_size) (defScope s_size) .none kV0 dc0 pm0 an0 cd0 ct0), sl0⟩) (c0 : PySem.W.codeIn K cd0 "size" = true) (k0 : PySem.W.keepIn K (.ref f0) = true)
    {od1 an1 : Option Addr} {sl1 : Array (Option Value)} {oc1 kV1 dc1 pm1 cd1 ct1 : Value} {f1 : Addr}
    (a1 : PySem.W.nsIn K PySem.mainGlobals "run_end" = some (some (.ref f1))) (l1 : K.lookup f1 = some ⟨oc1, od1, .func (PySem.W.fnOf "run_end" "run_end" (defArgs s_run_end) (defBody s_run_end) (defScope s_run_end) .none kV1 dc1 pm1 an1 cd1 ct1), sl1⟩) (c1 : PySem.W.codeIn K cd1 "run_end" = true) (k1 : PySem.W.keepIn K (.ref f1) = true)
    {od2 an2 : Option Addr} {sl2 : Array (Option Value)} {oc2 kV2 dc2 pm2 cd2 ct2 : Value} {f2 : Addr}
    (a2 : PySem.W.nsIn K PySem.mainGlobals "word_end" = some (some (.ref f2))) (l2 : K.lookup f2 = some ⟨oc2, od2, .func (PySem.W.fnOf "word_end" "word_end" (defArgs s_word_end) (defBody s_word_end) (defScope s_word_end) .none kV2 dc2 pm2 an2 cd2 ct2), sl2⟩) (c2 : PySem.W.codeIn K cd2 "word_end" = true) (k2 : PySem.W.keepIn K (.ref f2) = true)
    {od3 an3 : Option Addr} {sl3 : Array (Option Value)} {oc3 kV3 dc3 pm3 cd3 ct3 : Value} {f3 : Addr}
    (a3 : PySem.W.nsIn K PySem.mainGlobals "words" = some (some (.ref f3))) (l3 : K.lookup f3 = some ⟨oc3, od3, .func (PySem.W.fnOf "words" "words" (defArgs s_words) (defBody s_words) (defScope s_words) .none kV3 dc3 pm3 an3 cd3 ct3), sl3⟩) (c3 : PySem.W.codeIn K cd3 "words" = true) (k3 : PySem.W.keepIn K (.ref f3) = true)
    {od4 an4 : Option Addr} {sl4 : Array (Option Value)} {oc4 kV4 dc4 pm4 cd4 ct4 : Value} {f4 : Addr}
    (a4 : PySem.W.nsIn K PySem.mainGlobals "is_name" = some (some (.ref f4))) (l4 : K.lookup f4 = some ⟨oc4, od4, .func (PySem.W.fnOf "is_name" "is_name" (defArgs s_is_name) (defBody s_is_name) (defScope s_is_name) .none kV4 dc4 pm4 an4 cd4 ct4), sl4⟩) (c4 : PySem.W.codeIn K cd4 "is_name" = true) (k4 : PySem.W.keepIn K (.ref f4) = true)
    {od5 an5 : Option Addr} {sl5 : Array (Option Value)} {oc5 kV5 dc5 pm5 cd5 ct5 : Value} {f5 : Addr}
    (a5 : PySem.W.nsIn K PySem.mainGlobals "is_number" = some (some (.ref f5))) (l5 : K.lookup f5 = some ⟨oc5, od5, .func (PySem.W.fnOf "is_number" "is_number" (defArgs s_is_number) (defBody s_is_number) (defScope s_is_number) .none kV5 dc5 pm5 an5 cd5 ct5), sl5⟩) (c5 : PySem.W.codeIn K cd5 "is_number" = true) (k5 : PySem.W.keepIn K (.ref f5) = true)
    {od6 an6 : Option Addr} {sl6 : Array (Option Value)} {oc6 kV6 dc6 pm6 cd6 ct6 : Value} {f6 : Addr}
    (a6 : PySem.W.nsIn K PySem.mainGlobals "tree_at" = some (some (.ref f6))) (l6 : K.lookup f6 = some ⟨oc6, od6, .func (PySem.W.fnOf "tree_at" "tree_at" (defArgs s_tree_at) (defBody s_tree_at) (defScope s_tree_at) .none kV6 dc6 pm6 an6 cd6 ct6), sl6⟩) (c6 : PySem.W.codeIn K cd6 "tree_at" = true) (k6 : PySem.W.keepIn K (.ref f6) = true)
    {od7 an7 : Option Addr} {sl7 : Array (Option Value)} {oc7 kV7 dc7 pm7 cd7 ct7 : Value} {f7 : Addr}
    (a7 : PySem.W.nsIn K PySem.mainGlobals "read_tree" = some (some (.ref f7))) (l7 : K.lookup f7 = some ⟨oc7, od7, .func (PySem.W.fnOf "read_tree" "read_tree" (defArgs s_read_tree) (defBody s_read_tree) (defScope s_read_tree) .none kV7 dc7 pm7 an7 cd7 ct7), sl7⟩) (c7 : PySem.W.codeIn K cd7 "read_tree" = true) (k7 : PySem.W.keepIn K (.ref f7) = true)
    {od8 an8 : Option Addr} {sl8 : Array (Option Value)} {oc8 kV8 dc8 pm8 cd8 ct8 : Value} {f8 : Addr}
    (a8 : PySem.W.nsIn K PySem.mainGlobals "show_tree" = some (some (.ref f8))) (l8 : K.lookup f8 = some ⟨oc8, od8, .func (PySem.W.fnOf "show_tree" "show_tree" (defArgs s_show_tree) (defBody s_show_tree) (defScope s_show_tree) .none kV8 dc8 pm8 an8 cd8 ct8), sl8⟩) (c8 : PySem.W.codeIn K cd8 "show_tree" = true) (k8 : PySem.W.keepIn K (.ref f8) = true)
    {od9 an9 : Option Addr} {sl9 : Array (Option Value)} {oc9 kV9 dc9 pm9 cd9 ct9 : Value} {f9 : Addr}
    (a9 : PySem.W.nsIn K PySem.mainGlobals "_law_name_by" = some (some (.ref f9))) (l9 : K.lookup f9 = some ⟨oc9, od9, .func (PySem.W.fnOf "_law_name_by" "_law_name_by" (defArgs s__law_name_by) (defBody s__law_name_by) (defScope s__law_name_by) .none kV9 dc9 pm9 an9 cd9 ct9), sl9⟩) (c9 : PySem.W.codeIn K cd9 "_law_name_by" = true) (k9 : PySem.W.keepIn K (.ref f9) = true)
    {od10 an10 : Option Addr} {sl10 : Array (Option Value)} {oc10 kV10 dc10 pm10 cd10 ct10 : Value} {f10 : Addr}
    (a10 : PySem.W.nsIn K PySem.mainGlobals "_law_rows" = some (some (.ref f10))) (l10 : K.lookup f10 = some ⟨oc10, od10, .func (PySem.W.fnOf "_law_rows" "_law_rows" (defArgs s__law_rows) (defBody s__law_rows) (defScope s__law_rows) .none kV10 dc10 pm10 an10 cd10 ct10), sl10⟩) (c10 : PySem.W.codeIn K cd10 "_law_rows" = true) (k10 : PySem.W.keepIn K (.ref f10) = true)
    {od11 an11 : Option Addr} {sl11 : Array (Option Value)} {oc11 kV11 dc11 pm11 cd11 ct11 : Value} {f11 : Addr}
    (a11 : PySem.W.nsIn K PySem.mainGlobals "_law_texts" = some (some (.ref f11))) (l11 : K.lookup f11 = some ⟨oc11, od11, .func (PySem.W.fnOf "_law_texts" "_law_texts" (defArgs s__law_texts) (defBody s__law_texts) (defScope s__law_texts) .none kV11 dc11 pm11 an11 cd11 ct11), sl11⟩) (c11 : PySem.W.codeIn K cd11 "_law_texts" = true) (k11 : PySem.W.keepIn K (.ref f11) = true)
    {od12 an12 : Option Addr} {sl12 : Array (Option Value)} {oc12 kV12 dc12 pm12 cd12 ct12 : Value} {f12 : Addr}
    (a12 : PySem.W.nsIn K PySem.mainGlobals "law" = some (some (.ref f12))) (l12 : K.lookup f12 = some ⟨oc12, od12, .func (PySem.W.fnOf "law" "law" (defArgs s_law) (defBody s_law) (defScope s_law) .none kV12 dc12 pm12 an12 cd12 ct12), sl12⟩) (c12 : PySem.W.codeIn K cd12 "law" = true) (k12 : PySem.W.keepIn K (.ref f12) = true)
    (z_int : PySem.W.nsIn K PySem.mainGlobals "int" = some none)
    (z_isinstance : PySem.W.nsIn K PySem.mainGlobals "isinstance" = some none)
    (z_len : PySem.W.nsIn K PySem.mainGlobals "len" = some none)
    (z_range : PySem.W.nsIn K PySem.mainGlobals "range" = some none)
    (z_str : PySem.W.nsIn K PySem.mainGlobals "str" = some none)
    (z_tuple : PySem.W.nsIn K PySem.mainGlobals "tuple" = some none)
    {u_FIGURES : Value} (g_FIGURES : PySem.W.nsIn K PySem.mainGlobals "FIGURES" = some (some u_FIGURES)) (r_FIGURES : RelV (.str "0123456789") u_FIGURES)
    {u_LETTERS : Value} (g_LETTERS : PySem.W.nsIn K PySem.mainGlobals "LETTERS" = some (some u_LETTERS)) (r_LETTERS : RelV (.str "abcdefghijklmnopqrstuvwxyz") u_LETTERS)
    {u_SIGNS : Value} (g_SIGNS : PySem.W.nsIn K PySem.mainGlobals "SIGNS" = some (some u_SIGNS)) (r_SIGNS : RelV (.str "();:=|*") u_SIGNS) :
    ∃ fd : FuncData, (∀ (s : Shared) (v : Value), BindsTo s fd ⟨[v], []⟩ [("_law_script", v)]) ∧ ∀ base : Heap, K.In base → base.Ns PySem.mainGlobals mg → FnOk l.prog w K mg base (L2.CX l.prog w) L fa fd ["_law_script"] (spM K mg 1 (mir L 12)) := by
  have e := hfa.symm.trans (PySem.W.mg_of X G a12)
  cases e
  have F0 := fun_mk (st := s_size) l0 c0 k0
  have F1 := fun_mk (st := s_run_end) l1 c1 k1
  have F2 := fun_mk (st := s_word_end) l2 c2 k2
  have F3 := fun_mk (st := s_words) l3 c3 k3
  have F4 := fun_mk (st := s_is_name) l4 c4 k4
  have F5 := fun_mk (st := s_is_number) l5 c5 k5
  have F6 := fun_mk (st := s_tree_at) l6 c6 k6
  have F7 := fun_mk (st := s_read_tree) l7 c7 k7
  have F8 := fun_mk (st := s_show_tree) l8 c8 k8
  have F9 := fun_mk (st := s__law_name_by) l9 c9 k9
  have F10 := fun_mk (st := s__law_rows) l10 c10 k10
  have F11 := fun_mk (st := s__law_texts) l11 c11 k11
  have F12 := fun_mk (st := s_law) l12 c12 k12
  have T : Txt K mg (pick 0 [f0, f1, f2, f3, f4, f5, f6, f7, f8, f9, f10, f11, fa]) (pick (PySem.W.fnOf "law" "law" (defArgs s_law) (defBody s_law) (defScope s_law) .none kV12 dc12 pm12 an12 cd12 ct12) [PySem.W.fnOf "size" "size" (defArgs s_size) (defBody s_size) (defScope s_size) .none kV0 dc0 pm0 an0 cd0 ct0, PySem.W.fnOf "run_end" "run_end" (defArgs s_run_end) (defBody s_run_end) (defScope s_run_end) .none kV1 dc1 pm1 an1 cd1 ct1, PySem.W.fnOf "word_end" "word_end" (defArgs s_word_end) (defBody s_word_end) (defScope s_word_end) .none kV2 dc2 pm2 an2 cd2 ct2, PySem.W.fnOf "words" "words" (defArgs s_words) (defBody s_words) (defScope s_words) .none kV3 dc3 pm3 an3 cd3 ct3, PySem.W.fnOf "is_name" "is_name" (defArgs s_is_name) (defBody s_is_name) (defScope s_is_name) .none kV4 dc4 pm4 an4 cd4 ct4, PySem.W.fnOf "is_number" "is_number" (defArgs s_is_number) (defBody s_is_number) (defScope s_is_number) .none kV5 dc5 pm5 an5 cd5 ct5, PySem.W.fnOf "tree_at" "tree_at" (defArgs s_tree_at) (defBody s_tree_at) (defScope s_tree_at) .none kV6 dc6 pm6 an6 cd6 ct6, PySem.W.fnOf "read_tree" "read_tree" (defArgs s_read_tree) (defBody s_read_tree) (defScope s_read_tree) .none kV7 dc7 pm7 an7 cd7 ct7, PySem.W.fnOf "show_tree" "show_tree" (defArgs s_show_tree) (defBody s_show_tree) (defScope s_show_tree) .none kV8 dc8 pm8 an8 cd8 ct8, PySem.W.fnOf "_law_name_by" "_law_name_by" (defArgs s__law_name_by) (defBody s__law_name_by) (defScope s__law_name_by) .none kV9 dc9 pm9 an9 cd9 ct9, PySem.W.fnOf "_law_rows" "_law_rows" (defArgs s__law_rows) (defBody s__law_rows) (defScope s__law_rows) .none kV10 dc10 pm10 an10 cd10 ct10, PySem.W.fnOf "_law_texts" "_law_texts" (defArgs s__law_texts) (defBody s__law_texts) (defScope s__law_texts) .none kV11 dc11 pm11 an11 cd11 ct11, PySem.W.fnOf "law" "law" (defArgs s_law) (defBody s_law) (defScope s_law) .none kV12 dc12 pm12 an12 cd12 ct12]) := {
    F_size := F0,
    B_size := F0.binds (ps := ["tree"]) fun _ _ _ _ _ _ us hl => match us, hl with | [_], _ => rfl,
    M_size := PySem.W.mg_of X G a0,
    F_run_end := F1,
    B_run_end := F1.binds (ps := ["text", "start", "signs"]) fun _ _ _ _ _ _ us hl => match us, hl with | [_, _, _], _ => rfl,
    M_run_end := PySem.W.mg_of X G a1,
    F_word_end := F2,
    B_word_end := F2.binds (ps := ["text", "start"]) fun _ _ _ _ _ _ us hl => match us, hl with | [_, _], _ => rfl,
    M_word_end := PySem.W.mg_of X G a2,
    F_words := F3,
    B_words := F3.binds (ps := ["text"]) fun _ _ _ _ _ _ us hl => match us, hl with | [_], _ => rfl,
    M_words := PySem.W.mg_of X G a3,
    F_is_name := F4,
    B_is_name := F4.binds (ps := ["word"]) fun _ _ _ _ _ _ us hl => match us, hl with | [_], _ => rfl,
    M_is_name := PySem.W.mg_of X G a4,
    F_is_number := F5,
    B_is_number := F5.binds (ps := ["word"]) fun _ _ _ _ _ _ us hl => match us, hl with | [_], _ => rfl,
    M_is_number := PySem.W.mg_of X G a5,
    F_tree_at := F6,
    B_tree_at := F6.binds (ps := ["row", "here", "level"]) fun _ _ _ _ _ _ us hl => match us, hl with | [_, _, _], _ => rfl,
    M_tree_at := PySem.W.mg_of X G a6,
    F_read_tree := F7,
    B_read_tree := F7.binds (ps := ["text"]) fun _ _ _ _ _ _ us hl => match us, hl with | [_], _ => rfl,
    M_read_tree := PySem.W.mg_of X G a7,
    F_show_tree := F8,
    B_show_tree := F8.binds (ps := ["tree"]) fun _ _ _ _ _ _ us hl => match us, hl with | [_], _ => rfl,
    M_show_tree := PySem.W.mg_of X G a8,
    F__law_name_by := F9,
    B__law_name_by := F9.binds (ps := ["_law_cell"]) fun _ _ _ _ _ _ us hl => match us, hl with | [_], _ => rfl,
    M__law_name_by := PySem.W.mg_of X G a9,
    F__law_rows := F10,
    B__law_rows := F10.binds (ps := ["_law_cells"]) fun _ _ _ _ _ _ us hl => match us, hl with | [_], _ => rfl,
    M__law_rows := PySem.W.mg_of X G a10,
    F__law_texts := F11,
    B__law_texts := F11.binds (ps := ["_law_rows_here"]) fun _ _ _ _ _ _ us hl => match us, hl with | [_], _ => rfl,
    M__law_texts := PySem.W.mg_of X G a11,
    F_law := F12,
    B_law := F12.binds (ps := ["_law_script"]) fun _ _ _ _ _ _ us hl => match us, hl with | [_], _ => rfl,
    M_law := PySem.W.mg_of X G a12,
    z_int := PySem.W.mg_none_of X G z_int,
    z_isinstance := PySem.W.mg_none_of X G z_isinstance,
    z_len := PySem.W.mg_none_of X G z_len,
    z_range := PySem.W.mg_none_of X G z_range,
    z_str := PySem.W.mg_none_of X G z_str,
    z_tuple := PySem.W.mg_none_of X G z_tuple,
    k_FIGURES := ⟨u_FIGURES, PySem.W.mg_of X G g_FIGURES, r_FIGURES⟩,
    k_LETTERS := ⟨u_LETTERS, PySem.W.mg_of X G g_LETTERS, r_LETTERS⟩,
    k_SIGNS := ⟨u_SIGNS, PySem.W.mg_of X G g_SIGNS, r_SIGNS⟩ }
  refine ⟨PySem.W.fnOf "law" "law" (defArgs s_law) (defBody s_law) (defScope s_law) .none kV12 dc12 pm12 an12 cd12 ct12, fun s v => .of_eq rfl, fun base _ _ => ?_⟩
  exact (all_fns (P := l.prog) (w := w) (base := base) T L).g_law
end G
set_option Elab.async false
set_option linter.all false
set_option maxRecDepth 100000
set_option maxHeartbeats 4000000
namespace G
open PySem PySem.Spec L2 Mir
theorem take_head {α : Type} {xs ys : List α} : (xs ++ ys)[xs.length]? = ys.head? := by
  rw [List.getElem?_append_right (Nat.le_refl _)]
  simp [List.head?_eq_getElem?]
/-- run_end goes on while the signs are of the wanted ones -/
theorem run_loop (z : Str) (l : List Nat) (hl : l.length ≤ 1000000) (s : Int) : ∀ (a pre rest : List Nat) (n : Nat), l = pre ++ a ++ rest → (∀ c ∈ a, inS c z = true) → (∀ c, rest.head? = some c → inS c z = false) → a.length < n →
    whileN (tAndE (eB (eBin gLt (eVar 3) (eM (eCa gLen (aCons (eVar 0) aNil)) viewD)) asB) (eB (eBin gIn (eBin gIx (eVar 0) (eVar 3)) (eVar 2)) asB)) (sAug gAddA 3 (eC (.int 1))) n
      [some (.d (.str (tx l))), some (.d (.int s)), some (.d (.str z)), some (.d (.int (pre.length : Nat)))] = .nx [some (.d (.str (tx l))), some (.d (.int s)), some (.d (.str z)), some (.d (.int ((pre.length + a.length : Nat) : Int)))]
  | a, pre, rest, 0, _, _, _, h => by omega
  | [], pre, rest, n + 1, e, ha, hr, h => by
    have gl := gLen_tx l (by omega)
    unfold whileN
    cases rest with
    | nil =>
      have : l.length = pre.length := by rw [e]; simp
      simp [gl, this]
    | cons c rest =>
      have hc : l[pre.length]? = some c := by rw [e, List.append_nil, take_head]; rfl
      have hlt : pre.length < l.length := (List.getElem?_eq_some_iff.mp hc).1
      have ix := gIx_tx hc (by omega)
      have no := hr c rfl
      simp [gl, hlt, ix, gIn_tx, no]
  | c :: a, pre, rest, n + 1, e, ha, hr, h => by
    have gl := gLen_tx l (by omega)
    have hc : l[pre.length]? = some c := by rw [e, List.append_assoc, take_head]; rfl
    have hlt : pre.length < l.length := (List.getElem?_eq_some_iff.mp hc).1
    have ix := gIx_tx hc (by omega)
    have yes := ha c List.mem_cons_self
    have ih := run_loop z l hl s a (pre ++ [c]) rest n (by rw [e]; simp) (fun d hd => ha d (List.mem_cons_of_mem _ hd)) hr (by simp at h; omega)
    have e1 : (pre ++ [c]).length + a.length = pre.length + (c :: a).length := by simp; omega
    rw [e1] at ih
    have e2 : ((pre ++ [c]).length : Int) = (pre.length : Int) + 1 := by simp
    rw [e2] at ih
    unfold whileN
    simp [gl, hlt, ix, gIn_tx, yes] at ih ⊢
    exact ih
theorem run_end_ok (n : Nat) (z : Str) (l pre a rest : List Nat) (e : l = pre ++ a ++ rest) (hl : l.length ≤ 900000) (ha : ∀ c ∈ a, inS c z = true) (hr : ∀ c, rest.head? = some c → inS c z = false) :
    mir (n + 1) 1 [.str (tx l), .int (pre.length : Nat), .str z] = .ok (.d (.int ((pre.length + a.length : Nat) : Int))) := by
  rw [mir_run_end, run_run_end]
  have := run_loop z l (by omega) (pre.length : Nat) a pre rest 1000000 e ha hr (by have := congrArg List.length e; simp at this; omega)
  generalize (1000000 : Nat) = big at *
  simp [this]
/-- a word -/
def Wd (w : List Nat) : Prop := (∃ c, c ∈ sigs ∧ w = [c]) ∨ (w ≠ [] ∧ (∀ c ∈ w, isL c = true) ∧ w.length ≤ 8) ∨ (∃ c r, w = c :: r ∧ (∀ x ∈ w, isF x = true) ∧ w.length ≤ 60 ∧ (c = 48 → r = [])) ∨
  ∃ c r, w = 45 :: c :: r ∧ (∀ x ∈ c :: r, isF x = true) ∧ (c :: r).length ≤ 60 ∧ c ≠ 48
/-- what may follow it -/
def Fol (w rest : List Nat) : Prop := ∀ p x c, w = p ++ [x] → rest.head? = some c → (isL x = true → isL c = false) ∧ (isF x = true → isF c = false)
theorem wd_ne {w : List Nat} (h : Wd w) : w ≠ [] := by
  rcases h with ⟨c, _, rfl⟩ | ⟨h, _⟩ | ⟨c, r, rfl, _⟩ | ⟨c, r, rfl, _⟩ <;> simp_all
theorem isL_sig {c : Nat} (h : isL c = true) : c ∉ sigs ∧ isF c = false ∧ c ≠ 45 ∧ c ≠ 32 := by
  unfold isL at h
  simp only [Bool.and_eq_true, decide_eq_true_eq] at h
  refine ⟨fun z => ?_, ?_, by omega, by omega⟩
  · simp [sigs] at z; omega
  · unfold isF
    have : ¬ c ≤ 57 := by omega
    simp [this]
theorem isF_sig {c : Nat} (h : isF c = true) : c ∉ sigs ∧ isL c = false ∧ c ≠ 45 ∧ c ≠ 32 := by
  unfold isF at h
  simp only [Bool.and_eq_true, decide_eq_true_eq] at h
  refine ⟨fun z => ?_, ?_, by omega, by omega⟩
  · simp [sigs] at z; omega
  · unfold isL
    have : ¬ 97 ≤ c := by omega
    simp [this]
theorem gInt_bool (b : Bool) : gInt [.bool b] = some (.d (.int (if b then 1 else 0))) := rfl
theorem word_end_ok (n : Nat) (l pre w rest : List Nat) (hL : l = pre ++ w ++ rest) (hw : Wd w) (hf : Fol w rest) (hl : l.length ≤ 900000) :
    mir (n + 2) 2 [.str (tx l), .int (pre.length : Nat)] = .ok (.d (.int ((pre.length + w.length : Nat) : Int))) := by
  have hne := wd_ne hw
  obtain ⟨c0, w0, hw0⟩ : ∃ c0 w0, w = c0 :: w0 := by
    cases w with
    | nil => exact absurd rfl hne
    | cons c r => exact ⟨c, r, rfl⟩
  have hc : l[pre.length]? = some c0 := by rw [hL, List.append_assoc, take_head, hw0]; rfl
  have ix := gIx_tx hc (by omega)
  rw [mir_word_end, run_word_end]
  obtain ⟨p, x, hx⟩ : ∃ p x, w = p ++ [x] := by
    rcases List.eq_nil_or_concat w with e | ⟨p, x, e⟩
    · exact absurd e hne
    · exact ⟨p, x, by rw [e, List.concat_eq_append]⟩
  have xin : x ∈ w := by rw [hx]; simp
  have noL : isL c0 = false → mir (n + 1) 1 [.str (tx l), .int (pre.length : Nat), .str abc] = .ok (.d (.int ((pre.length : Nat) : Int))) := fun h => by
    have := run_end_ok n abc l pre [] (w ++ rest) (by rw [hL]; simp) hl (fun c h => by cases h) (fun c hc => by
      rw [hw0] at hc
      cases hc
      rw [inS_abc, h])
    simpa using this
  rcases hw with ⟨c, hs, rfl⟩ | ⟨_, hall, h8⟩ | ⟨c, r, rfl, hall, h60, h0⟩ | ⟨c, r, rfl, hall, h60, h0⟩
  · cases hw0
    have : inS c0 (Str.ofString "();:=|*") = true := by rw [inS_sigs]; exact decide_eq_true hs
    simp [ix, gIn_tx, this]
  · have hL0 := hall c0 (by rw [hw0]; exact List.mem_cons_self)
    have re := run_end_ok n abc l pre w rest hL hl (fun c hc => by rw [inS_abc]; exact hall c hc) (fun c hc => by
      rw [inS_abc, (hf p x c hx hc).1 (hall x xin)])
    have ns : inS c0 (Str.ofString "();:=|*") = false := by rw [inS_sigs]; exact decide_eq_false (isL_sig hL0).1
    have w1 : 0 < w.length := List.length_pos_iff.mpr hne
    have a1 : (pre.length : Int) < (pre.length : Int) + (w.length : Int) := by omega
    have a2 : ¬ (8 : Int) < (pre.length : Int) + (w.length : Int) - (pre.length : Int) := by omega
    simp only [Int.natCast_add] at re ⊢
    simp [ix, gIn_tx, ns, re, w1, a1, a2]
  · have hF0 := hall c List.mem_cons_self
    obtain ⟨q1, _⟩ := List.cons.inj hw0
    subst q1
    have re := run_end_ok n figs l pre (c :: r) rest hL hl (fun c hc => by rw [inS_figs]; exact hall c hc) (fun y hy => by
      rw [inS_figs, (hf p x y hx hy).2 (hall x xin)])
    have ns : inS c (Str.ofString "();:=|*") = false := by rw [inS_sigs]; exact decide_eq_false (isF_sig hF0).1
    have rl := noL (isF_sig hF0).2.1
    have nm : ¬ c = 45 := (isF_sig hF0).2.2.1
    obtain ⟨W, hW⟩ : ∃ W, W = (c :: r).length := ⟨_, rfl⟩
    have hW1 : 1 ≤ W := by rw [hW]; simp
    have h48 : c = 48 → W = 1 := fun h => by rw [hW, h0 h]; rfl
    rw [← hW] at re h60 ⊢
    have a1 : ¬ (60 : Int) < (pre.length : Int) + (W : Int) - (pre.length : Int) := by omega
    have a2 : ¬ (pre.length : Int) + (W : Int) = (pre.length : Int) := by omega
    simp only [Int.natCast_add] at re ⊢
    by_cases h : c = 48
    · have := h48 h
      subst this
      subst h
      have a3 : ¬ (1 : Int) < (pre.length : Int) + 1 - (pre.length : Int) := by omega
      simp only [Int.natCast_one] at re a1 a2 ⊢
      simp [ix, gIn_tx, ns, rl, minus_is, nought_is, gEq_tx, nm, gInt_bool, re, a1, a2, a3]
    · simp [ix, gIn_tx, ns, rl, minus_is, nought_is, gEq_tx, nm, gInt_bool, re, a1, a2, h]
  · obtain ⟨q1, _⟩ := List.cons.inj hw0
    subst q1
    have hF0 := hall c List.mem_cons_self
    have hc1 : l[pre.length + 1]? = some c := by
      rw [hL]
      have : (pre ++ [45]).length = pre.length + 1 := by simp
      rw [← this, show pre ++ 45 :: c :: r ++ rest = (pre ++ [45]) ++ (c :: r ++ rest) by simp, take_head]
      rfl
    have ix1 := gIx_tx hc1 (by omega)
    have xr : ∃ p', c :: r = p' ++ [x] := by
      cases p with
      | nil => simp at hx
      | cons q p =>
        rw [List.cons_append] at hx
        exact ⟨p, (List.cons.inj hx).2⟩
    obtain ⟨p', hx'⟩ := xr
    have xin' : x ∈ c :: r := by rw [hx']; simp
    have re := run_end_ok n figs l (pre ++ [45]) (c :: r) rest (by rw [hL]; simp) hl (fun c hc => by rw [inS_figs]; exact hall c hc) (fun y hy => by
      rw [inS_figs, (hf p x y hx hy).2 (hall x xin')])
    have ns : inS 45 (Str.ofString "();:=|*") = false := by rw [inS_sigs]; decide
    have rl := noL (by decide)
    obtain ⟨W, hW⟩ : ∃ W, W = (c :: r).length := ⟨_, rfl⟩
    have hW1 : 1 ≤ W := by rw [hW]; simp
    have hW2 : (45 :: c :: r).length = W + 1 := by rw [hW]; rfl
    rw [← hW] at re h60
    rw [hW2]
    have e2 : ((pre ++ [45]).length : Int) = (pre.length : Int) + 1 := by simp
    have e3 : (((pre ++ [45]).length + W : Nat) : Int) = (pre.length : Int) + 1 + (W : Int) := by simp
    rw [e2, e3] at re
    have a1 : ¬ (60 : Int) < (pre.length : Int) + 1 + (W : Int) - ((pre.length : Int) + 1) := by omega
    have a2 : ¬ (pre.length : Int) + 1 + (W : Int) = (pre.length : Int) + 1 := by omega
    have e4 : ((pre.length + (W + 1) : Nat) : Int) = (pre.length : Int) + 1 + (W : Int) := by omega
    have ix1' : gIx (.str (tx l)) (.int ((pre.length : Int) + 1)) = some (.str (tx [c])) := ix1
    rw [e4]
    simp [ix, gIn_tx, ns, rl, minus_is, nought_is, gEq_tx, gInt_bool, re, a1, a2, ix1', h0]
def build : List (Nat × List Nat) → Nat → List Nat
  | [], t => List.replicate t 32
  | (b, w) :: r, t => List.replicate b 32 ++ (w ++ build r t)
def Good : List (Nat × List Nat) → Nat → Prop
  | [], _ => True
  | (_, w) :: r, t => Wd w ∧ Fol w (build r t) ∧ Good r t
abbrev wc : Ev → R Bool := (eB (eBin gLt (eVar 2) (eM (eCa gLen (aCons (eVar 0) aNil)) viewD)) asB)
abbrev wb (m : Nat → List PyData → R Ow) : Ev → SR := (sSeq (sIf (eB (eBin gEq (eBin gIx (eVar 0) (eVar 2)) (eC (.str " "))) asB)
    (sSeq (sAug gAddA 2 (eC (.int 1)))
    sCont)
    sSkip)
    (sSeq (sSet 3 (eM (eM (eB (aCons (eVar 0) (aCons (eVar 2) aNil)) (m 2)) viewD) Ow.d))
    (sSeq (sApp 1 (eSl (eVar 0) (eB (eVar 2) asI) (eB (eVar 3) asI)))
    (sSet 2 (eM (eVar 3) Ow.d)))))
theorem w_end (m : Nat → List PyData → R Ow) (l : List Nat) (hl : l.length ≤ 900000) (fs : List Ow) (x : Option Ow) (n : Nat) :
    whileN wc (wb m) (n + 1) [some (.d (.str (tx l))), some (.l fs), some (.d (.int (l.length : Nat))), x] = .nx [some (.d (.str (tx l))), some (.l fs), some (.d (.int (l.length : Nat))), x] := by
  have gl := gLen_tx l (by omega)
  unfold whileN
  simp [gl]
theorem w_blank (m : Nat → List PyData → R Ow) (l : List Nat) (hl : l.length ≤ 900000) (fs : List Ow) (x : Option Ow) (n h : Nat) (hc : l[h]? = some 32) :
    whileN wc (wb m) (n + 1) [some (.d (.str (tx l))), some (.l fs), some (.d (.int (h : Nat))), x] = whileN wc (wb m) n [some (.d (.str (tx l))), some (.l fs), some (.d (.int ((h + 1 : Nat) : Int))), x] := by
  have gl := gLen_tx l (by omega)
  have hlt : h < l.length := (List.getElem?_eq_some_iff.mp hc).1
  have ix := gIx_tx hc (by omega)
  have c1 : wc [some (.d (.str (tx l))), some (.l fs), some (.d (.int (h : Nat))), x] = .ok true := by simp [gl, hlt]
  have c2 : wb m [some (.d (.str (tx l))), some (.l fs), some (.d (.int (h : Nat))), x] = .ct [some (.d (.str (tx l))), some (.l fs), some (.d (.int ((h + 1 : Nat) : Int))), x] := by
    simp [ix, sp_is, gEq_tx, sCont]
  rw [whileN, c1, R.st_ok, if_pos rfl, c2]
theorem w_word (n0 : Nat) (l pre w rest : List Nat) (e : l = pre ++ w ++ rest) (hw : Wd w) (hf : Fol w rest) (hl : l.length ≤ 900000) (fs : List Ow) (hfs : fs.length < 16777216) (x : Option Ow) (n : Nat) :
    whileN wc (wb (mir (n0 + 2))) (n + 1) [some (.d (.str (tx l))), some (.l fs), some (.d (.int (pre.length : Nat))), x] =
    whileN wc (wb (mir (n0 + 2))) n [some (.d (.str (tx l))), some (.l (fs ++ [.d (.str (tx w))])), some (.d (.int ((pre.length + w.length : Nat) : Int))), some (.d (.int ((pre.length + w.length : Nat) : Int)))] := by
  have gl := gLen_tx l (by omega)
  have hne := wd_ne hw
  obtain ⟨c0, w0, hw0⟩ : ∃ c0 w0, w = c0 :: w0 := by
    cases w with
    | nil => exact absurd rfl hne
    | cons c r => exact ⟨c, r, rfl⟩
  have hc : l[pre.length]? = some c0 := by rw [e, List.append_assoc, take_head, hw0]; rfl
  have hlt : pre.length < l.length := (List.getElem?_eq_some_iff.mp hc).1
  have ix := gIx_tx hc (by omega)
  have n32 : ¬ c0 = 32 := by
    have hin : c0 ∈ w := by rw [hw0]; exact List.mem_cons_self
    rcases hw with ⟨c, hs, rfl⟩ | ⟨_, hall, _⟩ | ⟨c, r, rfl, hall, _⟩ | ⟨c, r, rfl, hall, _⟩
    · have : c0 = c := (List.cons.inj hw0).1.symm
      subst this
      intro z; subst z
      simp [sigs] at hs
    · exact (isL_sig (hall c0 hin)).2.2.2
    · exact (isF_sig (hall c0 hin)).2.2.2
    · have : c0 = 45 := (List.cons.inj hw0).1.symm
      omega
  have we := word_end_ok n0 l pre w rest e hw hf hl
  have hlen : pre.length + w.length ≤ l.length := by rw [e]; simp
  have sl := gSl_tx (l := l) hlen (Nat.le_add_right _ _) (by omega)
  have cut : (l.drop pre.length).take (pre.length + w.length - pre.length) = w := by
    subst e
    simp
  rw [cut] at sl
  have c1 : wc [some (.d (.str (tx l))), some (.l fs), some (.d (.int (pre.length : Nat))), x] = .ok true := by simp [gl, hlt]
  obtain ⟨E, hE⟩ : ∃ E : Nat, E = pre.length + w.length := ⟨_, rfl⟩
  rw [← hE] at we sl ⊢
  have c2 : wb (mir (n0 + 2)) [some (.d (.str (tx l))), some (.l fs), some (.d (.int (pre.length : Nat))), x] = .nx [some (.d (.str (tx l))), some (.l (fs ++ [.d (.str (tx w))])), some (.d (.int (E : Int))), some (.d (.int (E : Int)))] := by
    simp [ix, sp_is, gEq_tx, n32, we, sl, sizeLine_eq, hfs]
  rw [whileN, c1, R.st_ok, if_pos rfl, c2]
theorem w_blanks (m : Nat → List PyData → R Ow) (l : List Nat) (hl : l.length ≤ 900000) (fs : List Ow) (x : Option Ow) : ∀ (b n : Nat) (pre rest : List Nat), l = pre ++ (List.replicate b 32 ++ rest) →
    whileN wc (wb m) (n + b) [some (.d (.str (tx l))), some (.l fs), some (.d (.int (pre.length : Nat))), x] = whileN wc (wb m) n [some (.d (.str (tx l))), some (.l fs), some (.d (.int ((pre.length + b : Nat) : Int))), x]
  | 0, n, pre, rest, e => rfl
  | b + 1, n, pre, rest, e => by
    have hc : l[pre.length]? = some 32 := by rw [e, take_head, List.replicate_succ]; rfl
    rw [← Nat.add_assoc, w_blank m l hl fs x (n + b) pre.length hc]
    have ih := w_blanks m l hl fs x b n (pre ++ [32]) rest (by rw [e, List.replicate_succ]; simp)
    have e1 : (pre ++ [32]).length = pre.length + 1 := by simp
    rw [e1, Nat.add_assoc, Nat.add_comm 1 b] at ih
    exact ih
theorem w_all (n0 : Nat) (l : List Nat) (hl : l.length ≤ 900000) (t : Nat) : ∀ (segs : List (Nat × List Nat)) (pre : List Nat) (fs : List Ow) (x : Option Ow) (n : Nat), l = pre ++ build segs t → Good segs t → fs.length + segs.length ≤ 900000 → (build segs t).length < n →
    ∃ y, whileN wc (wb (mir (n0 + 2))) n [some (.d (.str (tx l))), some (.l fs), some (.d (.int (pre.length : Nat))), x] = .nx [some (.d (.str (tx l))), some (.l (fs ++ segs.map fun s => .d (.str (tx s.2)))), some (.d (.int (l.length : Nat))), y]
  | [], pre, fs, x, n, e, _, _, hn => by
    have hb : (build [] t).length = t := by simp [build]
    obtain ⟨k, rfl⟩ : ∃ k, n = k + 1 + t := ⟨n - 1 - t, by omega⟩
    have e' : l = pre ++ (List.replicate t 32 ++ []) := by rw [e]; simp [build]
    rw [w_blanks (mir (n0 + 2)) l hl fs x t (k + 1) pre [] e']
    have el : pre.length + t = l.length := by rw [e']; simp
    rw [el, w_end _ l hl]
    exact ⟨x, by simp⟩
  | (b, w) :: segs, pre, fs, x, n, e, hg, hfs, hn => by
    obtain ⟨g1, g2, g3⟩ := hg
    have w1 : 0 < w.length := List.length_pos_iff.mpr (wd_ne g1)
    have hb : (build ((b, w) :: segs) t).length = b + (w.length + (build segs t).length) := by simp [build]
    obtain ⟨k, rfl⟩ : ∃ k, n = k + 1 + b := ⟨n - 1 - b, by omega⟩
    have e' : l = pre ++ (List.replicate b 32 ++ (w ++ build segs t)) := e
    rw [w_blanks (mir (n0 + 2)) l hl fs x b (k + 1) pre _ e']
    have e2 : l = (pre ++ List.replicate b 32) ++ w ++ build segs t := by rw [e']; simp
    have e3 : (pre ++ List.replicate b 32).length = pre.length + b := by simp
    rw [← e3, w_word n0 l _ w _ e2 g1 g2 hl fs (by simp at hfs; omega)]
    obtain ⟨y, ih⟩ := w_all n0 l hl t segs ((pre ++ List.replicate b 32) ++ w) (fs ++ [.d (.str (tx w))]) (some (.d (.int (((pre ++ List.replicate b 32).length + w.length : Nat) : Int)))) k e2 g3 (by simp at hfs ⊢; omega) (by omega)
    have e4 : ((pre ++ List.replicate b 32) ++ w).length = (pre ++ List.replicate b 32).length + w.length := List.length_append
    rw [e4] at ih
    exact ⟨y, by rw [ih]; simp⟩
theorem words_ok (n0 : Nat) (segs : List (Nat × List Nat)) (t : Nat) (hg : Good segs t) (hs : segs.length ≤ 1000) (hl : (build segs t).length ≤ 900000) :
    mir (n0 + 3) 3 [.str (tx (build segs t))] = .ok (.l (segs.map fun s => .d (.str (tx s.2)))) := by
  rw [mir_words, run_words]
  obtain ⟨l, hL⟩ : ∃ l, l = build segs t := ⟨_, rfl⟩
  rw [← hL] at hl ⊢
  obtain ⟨y, h⟩ := w_all n0 l hl t segs [] [] none 1000000 hL hg (by simp; omega) (by rw [← hL]; omega)
  have isi : gIsi "str" (.str (tx l)) = .ok (.bool true) := rfl
  simp only [List.length_nil, List.nil_append] at h
  have h' : whileN wc (wb (mir (n0 + 2))) 1000000 [some (.d (.str (tx l))), some (.l []), some (.d (.int 0)), none] = .nx [some (.d (.str (tx l))), some (.l (segs.map fun s => .d (.str (tx s.2)))), some (.d (.int (l.length : Nat))), y] := h
  generalize (1000000 : Nat) = big at *
  unfold wc wb at h'
  simp [isi, sizeLine_eq, sRetV, h']
end G
set_option Elab.async false
set_option linter.all false
set_option maxRecDepth 100000
set_option maxHeartbeats 4000000
namespace G
open PySem PySem.Spec L2 Mir
theorem wd_num {n : Nat} (h : n < 10 ^ 60) : Wd (TL.numL n) := by
  refine .inr (.inr (.inl ?_))
  have hl := TL.numL_len (n := n) (k := 60) (by decide) h
  have hf := numL_isF n
  by_cases z : n = 0
  · subst z
    rw [numL_zero] at hf hl ⊢
    exact ⟨48, [], rfl, hf, hl, fun _ => rfl⟩
  · obtain ⟨c, r, e, ne⟩ := numL_head n (by omega)
    exact ⟨c, r, e, hf, hl, fun z => absurd z ne⟩
theorem wd_neg {n : Nat} (h : n + 1 < 10 ^ 60) : Wd (45 :: TL.numL (n + 1)) := by
  refine .inr (.inr (.inr ?_))
  have hl := TL.numL_len (n := n + 1) (k := 60) (by decide) h
  have hf := numL_isF (n + 1)
  obtain ⟨c, r, e, ne⟩ := numL_head (n + 1) (by omega)
  rw [e] at hf hl ⊢
  exact ⟨c, r, rfl, hf, hl, ne⟩
theorem wd_ik {k : Int} (h : k.natAbs < 10 ^ 60) : Wd (ik k) := by
  cases k with
  | ofNat n => exact wd_num h
  | negSucc n => exact wd_neg h
/-- nothing that could run together with a word ahead of it -/
def calm (l : List Nat) : Prop := ∀ c, l.head? = some c → isL c = false ∧ isF c = false
theorem fol_calm {w l : List Nat} (h : calm l) : Fol w l := fun p x c _ hc => ⟨fun _ => (h c hc).1, fun _ => (h c hc).2⟩
theorem fol_sign {c : Nat} {l : List Nat} (h : c = 40 ∨ c = 41) : Fol [c] l := fun p x d e _ => by
  have ex : x = c := by
    have := List.append_inj_right' (s₁ := []) (t₁ := [c]) (s₂ := p) (t₂ := [x]) (by simpa using e) rfl
    simpa using this.symm
  subst ex
  rcases h with rfl | rfl
  · exact ⟨fun h => absurd h (by decide), fun h => absurd h (by decide)⟩
  · exact ⟨fun h => absurd h (by decide), fun h => absurd h (by decide)⟩
theorem head_rep (b : Nat) (r : List Nat) (h : 0 < b) : (List.replicate b 32 ++ r).head? = some 32 := by
  obtain ⟨k, rfl⟩ : ∃ k, b = k + 1 := ⟨b - 1, by omega⟩
  simp [List.replicate_succ]
theorem calm_seg {b : Nat} {w : List Nat} {r : List (Nat × List Nat)} {t : Nat} (h : 1 ≤ b ∨ w = [40] ∨ w = [41]) : calm (build ((b, w) :: r) t) := by
  intro c hc
  rw [build] at hc
  by_cases z : b = 0
  · subst z
    rw [List.replicate_zero, List.nil_append] at hc
    rcases h with h | rfl | rfl
    · omega
    · have : c = 40 := by simpa using hc.symm
      subst this; decide
    · have : c = 41 := by simpa using hc.symm
      subst this; decide
  · rw [head_rep b _ (by omega)] at hc
    have : c = 32 := by simpa using hc.symm
    subst this; decide
theorem calm_nil (t : Nat) : calm (build [] t) := by
  intro c hc
  cases t with
  | zero => simp [build] at hc
  | succ t =>
    have : c = 32 := by simpa [build, List.replicate_succ] using hc.symm
    subst this; decide
theorem wd_sign {c : Nat} (h : c = 40 ∨ c = 41) : Wd [c] := .inl ⟨c, by rcases h with rfl | rfl <;> decide, rfl⟩
mutual
theorem good_sgN : ∀ (T : LN) (b : Nat) (r : List (Nat × List Nat)) (t : Nat), okN T → Good r t → calm (build r t) → Good (sgN b T ++ r) t
  | .mk nm k mb o i g c bs, b, r, t, ok, hg, hc => by
    rw [okN] at ok
    obtain ⟨⟨n1, n2, n3⟩, k0, k1, g1, _, _, _, _, _, _, okb⟩ := ok
    have wn : Wd nm := .inr (.inl ⟨n1, n2, n3⟩)
    have inner : Good (brk o c (sgNs i g bs) ++ r) t ∧ calm (build (brk o c (sgNs i g bs) ++ r) t) := by
      cases bs with
      | nil => rw [sgNs]; exact ⟨hg, hc⟩
      | cons T bs =>
        obtain ⟨s, ss, e⟩ : ∃ s ss, sgNs i g (T :: bs) = s :: ss := by
          obtain ⟨s, ss, e⟩ := sgN_ne i T
          exact ⟨s, ss ++ sgNs g g bs, by rw [sgNs, e]; rfl⟩
        have cl : Good ((c, [41]) :: r) t := ⟨wd_sign (.inr rfl), fol_sign (.inr rfl), hg⟩
        have ih := good_sgNs (T :: bs) i g ((c, [41]) :: r) t okb g1 cl (calm_seg (.inr (.inr rfl)))
        have e2 : brk o c (sgNs i g (T :: bs)) ++ r = (o, [40]) :: (sgNs i g (T :: bs) ++ ((c, [41]) :: r)) := by rw [e, brk]; simp
        rw [e2]
        exact ⟨⟨wd_sign (.inl rfl), fol_sign (.inl rfl), ih⟩, calm_seg (.inr (.inl rfl))⟩
    obtain ⟨i1, i2⟩ := inner
    rw [sgN, List.cons_append, List.append_assoc]
    cases mb with
    | none =>
      rw [mkS, List.nil_append]
      exact ⟨wn, fol_calm i2, i1⟩
    | some m =>
      rw [mkS]
      refine ⟨wn, ?_, wd_ik k1, fol_calm i2, i1⟩
      intro p x d e hd
      have xl : isL x = true := n2 x (by rw [e]; simp)
      refine ⟨fun _ => ?_, fun h => by rw [(isL_sig xl).2.1] at h; cases h⟩
      show isL d = false
      obtain ⟨f, fs, ef, hf⟩ := ik_head k
      have : d = 32 ∨ d = f := by
        by_cases z : m = 0
        · subst z
          right
          have : (build ((0, ik k) :: (brk o c (sgNs i g bs) ++ r)) t).head? = some f := by rw [build, ef]; rfl
          rw [List.cons_append, List.nil_append, this] at hd
          exact (Option.some.inj hd).symm
        · left
          have : (build ((m, ik k) :: (brk o c (sgNs i g bs) ++ r)) t).head? = some 32 := by rw [build]; exact head_rep _ _ (by omega)
          rw [List.cons_append, List.nil_append, this] at hd
          exact (Option.some.inj hd).symm
      rcases this with rfl | rfl
      · decide
      · rcases hf with hf | rfl
        · exact (isF_sig hf).2.1
        · decide
theorem good_sgNs : ∀ (bs : List LN) (i g : Nat) (r : List (Nat × List Nat)) (t : Nat), okNs bs → 1 ≤ g → Good r t → calm (build r t) → Good (sgNs i g bs ++ r) t
  | [], i, g, r, t, _, _, hg, _ => by rw [sgNs]; exact hg
  | T :: bs, i, g, r, t, ok, g1, hg, hc => by
    rw [okNs] at ok
    have ih := good_sgNs bs g g r t ok.2 g1 hg hc
    rw [sgNs, List.append_assoc]
    refine good_sgN T i _ t ok.1 ih ?_
    cases bs with
    | nil => rw [sgNs]; exact hc
    | cons U bs =>
      cases U with
      | mk nm k mb o i' g' c bs' =>
        rw [sgNs, sgN]
        exact calm_seg (.inl g1)
end
theorem good_tree (T : LN) (b t : Nat) (ok : okN T) : Good (sgN b T) t := by
  have := good_sgN T b [] t ok trivial (calm_nil t)
  rw [List.append_nil] at this
  exact this
/-! ### the text read -/
abbrev rowD (ws : List (List Nat)) : PyData := .list (ws.map fun w => .str (tx w))
theorem isName_ok (n : Nat) (c : Nat) (r : List Nat) (h : (c :: r).length ≤ 100) : mir (n + 1) 4 [.str (tx (c :: r))] = .ok (.d (.bool (isL c))) := by
  have i2 : gIx (.str (tx (c :: r))) (.int 0) = some (.str (tx [c])) := gIx_tx (i := 0) rfl (by omega)
  have := gIn_tx c abc
  rw [inS_abc] at this
  rw [mir_is_name, run_is_name]
  simp [i2, this]
theorem isNumber_ok (n : Nat) (p : List Nat) (x : Nat) (h : (p ++ [x]).length ≤ 100) : mir (n + 1) 5 [.str (tx (p ++ [x]))] = .ok (.d (.bool (isF x))) := by
  have i2 := gIx_last (l := p) (c := x) (by simp at h; omega)
  have := gIn_tx x figs
  rw [inS_figs] at this
  rw [mir_is_number, run_is_number]
  simp [i2, this]
theorem gLen_row (ws : List (List Nat)) : gLen [rowD ws] = some (.d (.int (ws.length : Nat))) := by
  have : gLen [rowD ws] = some (Ow.d (.int (ws.map fun w => PyData.str (tx w)).length)) := rfl
  rw [this, List.length_map]
theorem gIx_row {ws pre : List (List Nat)} {w : List Nat} {post : List (List Nat)} (h : ws = pre ++ w :: post) : gIx (rowD ws) (.int (pre.length : Nat)) = some (.str (tx w)) := by
  show atI _ _ = _
  exact atI_natD (by rw [List.getElem?_map, h, List.getElem?_append_right (Nat.le_refl _)]; simp)
/-- what may come behind a tree's words -/
def EndOk (post : List (List Nat)) : Prop := ∀ w, post.head? = some w → w = [41] ∨ (w ≠ [] ∧ (∀ x ∈ w, isL x = true) ∧ w.length ≤ 8)
theorem end_test {post : List (List Nat)} (h : EndOk post) (n : Nat) {w : List Nat} (hw : post.head? = some w) : mir (n + 1) 5 [.str (tx w)] = .ok (.d (.bool false)) ∧ w ≠ [40] := by
  rcases h w hw with rfl | ⟨h1, h2, h3⟩
  · have := isNumber_ok n [] 41 (by decide)
    exact ⟨this, by decide⟩
  · rcases List.eq_nil_or_concat w with e | ⟨p, x, e⟩
    · exact absurd e h1
    · rw [List.concat_eq_append] at e
      have hx := h2 x (by rw [e]; simp)
      refine ⟨?_, fun z => ?_⟩
      · rw [e] at h3 ⊢
        have := isNumber_ok n p x (by omega)
        rw [(isL_sig hx).2.1] at this
        exact this
      · rw [z] at h2
        exact absurd (h2 40 (by simp)) (by decide)
theorem brw_some {ws : List (List Nat)} (h : ws ≠ []) : brw ws = [40] :: (ws ++ [[41]]) := by
  cases ws with
  | nil => exact absurd rfl h
  | cons w ws => rfl
theorem wNs_ne (T : LN) (bs : List LN) : wNs (T :: bs) ≠ [] := by
  obtain ⟨s, ss, e⟩ := wN_ne T
  rw [wNs, e]
  simp
/-- the head of a row of trees' words -/
theorem endOk_trees {bs : List LN} (ok : okNs bs) (post : List (List Nat)) : EndOk (wNs bs ++ [41] :: post) := by
  cases bs with
  | nil =>
    intro w hw
    rw [wNs] at hw
    simp at hw
    exact .inl hw.symm
  | cons T bs =>
    cases T with
    | mk nm k mb o i g c cs =>
      intro w hw
      rw [okNs, okN] at ok
      rw [wNs, wN] at hw
      simp at hw
      subst hw
      exact .inr ok.1.1
noncomputable abbrev loopC : Ev → R Bool := (tOrE (eB (eBin gGe (eVar 1) (eM (eCa gLen (aCons (eVar 0) aNil)) viewD)) asB) (eB (eBin gNe (eBin gIx (eVar 0) (eVar 1)) (eC (.str ")"))) asB))
noncomputable abbrev loopB (m : Nat → List PyData → R Ow) : Ev → SR := (sSeq (sAsg (gtTup 2 (gtCons (gtName 6) (gtCons (gtName 1) gtNil))) (eM (eB (aCons (eVar 0) (aCons (eVar 1) (aCons (eM (eBinO gAdd (eVar 2) (eC (.int 1))) viewD) aNil))) (m 6)) viewD))
    (sApp 5 (eM (eVar 6) Ow.d)))
/-- what a reader of one tree tells -/
def Reads (f : List PyData → R Ow) (T : LN) (lv : Nat) : Prop := ∀ (ws pre post : List (List Nat)), ws.length ≤ 100000 → ws = pre ++ wN T ++ post → EndOk post → f [rowD ws, .int (pre.length : Nat), .int (lv : Nat)] = .ok (.d (.tuple [encT (trN T), .int ((pre.length + (wN T).length : Nat) : Int)]))
theorem gNe_tx (a b : List Nat) : gNe (.str (tx a)) (.str (tx b)) = some (.bool (!decide (a = b))) := by
  rw [show gNe (.str (tx a)) (.str (tx b)) = some (.bool (!(tx a == tx b))) from rfl]
  have e : (tx a == tx b) = decide (a = b) := by
    by_cases h : a = b
    · subst h; simp
    · rw [decide_eq_false h, beq_eq_false_iff_ne]
      exact fun z => h (tx_inj z)
  rw [e]
theorem loop_ok (m : Nat → List PyData → R Ow) (ws : List (List Nat)) (hws : ws.length ≤ 100000) (lv : Nat) (a3 a4 : Option Ow) : ∀ (bs : List LN) (done : List LN) (pre post : List (List Nat)) (n : Nat) (x6 : Option Ow), ws = pre ++ wNs bs ++ [41] :: post → okNs bs → (∀ T ∈ bs, Reads (m 6) T (lv + 1)) → bs.length < n → done.length + bs.length ≤ 100000 →
    ∃ y6, whileN loopC (loopB m) n [some (.d (rowD ws)), some (.d (.int (pre.length : Nat))), some (.d (.int (lv : Nat))), a3, a4, some (.l (done.map fun T => .d (encT (trN T)))), x6] = .nx [some (.d (rowD ws)), some (.d (.int ((pre.length + (wNs bs).length : Nat) : Int))), some (.d (.int (lv : Nat))), a3, a4, some (.l ((done ++ bs).map fun T => .d (encT (trN T)))), y6]
  | [], done, pre, post, n, x6, e, ok, hr, hn, hd => by
    obtain ⟨k, rfl⟩ : ∃ k, n = k + 1 := ⟨n - 1, by simp at hn; omega⟩
    refine ⟨x6, ?_⟩
    rw [wNs, List.append_nil] at e
    have gl := gLen_row ws
    have ix := gIx_row e
    have hlt : pre.length < ws.length := by rw [e]; simp
    have ne := gNe_tx [41] [41]
    have c1 : loopC [some (.d (rowD ws)), some (.d (.int (pre.length : Nat))), some (.d (.int (lv : Nat))), a3, a4, some (.l (done.map fun T => .d (encT (trN T)))), x6] = .ok false := by
      generalize (done.map fun T => Ow.d (encT (trN T))) = os
      generalize rowD ws = rw0 at gl ix
      simp [gl, ix, cl_is, ne, hlt]
    rw [whileN, c1, R.st_ok, wNs]
    simp
  | T :: bs, done, pre, post, n, x6, e, ok, hr, hn, hd => by
    obtain ⟨k, rfl⟩ : ∃ k, n = k + 1 := ⟨n - 1, by simp at hn; omega⟩
    rw [okNs] at ok
    rw [wNs] at e
    have e1 : ws = pre ++ wN T ++ (wNs bs ++ [41] :: post) := by rw [e]; simp
    have rd := hr T List.mem_cons_self ws pre _ hws e1 (endOk_trees ok.2 post)
    obtain ⟨nm, ww, ew, hnm⟩ : ∃ nm ww, wN T = nm :: ww ∧ nm ≠ [41] := by
      cases T with
      | mk nm k mb o i g c cs =>
        rw [okN] at ok
        refine ⟨nm, _, by rw [wN], fun z => ?_⟩
        have := ok.1.1.2.1 41 (by rw [z]; simp)
        exact absurd this (by decide)
    have e2 : ws = pre ++ nm :: (ww ++ (wNs bs ++ [41] :: post)) := by rw [e1, ew]; simp
    have gl := gLen_row ws
    have ix := gIx_row e2
    have hlt : pre.length < ws.length := by rw [e2]; simp
    have ne := gNe_tx nm [41]
    rw [decide_eq_false hnm] at ne
    have hdl : done.length < 16777216 := by omega
    obtain ⟨E, hE⟩ : ∃ E, E = pre.length + (wN T).length := ⟨_, rfl⟩
    rw [← hE] at rd
    have dn : (done.map fun T => Ow.d (encT (trN T))) ++ [Ow.d (encT (trN T))] = ((done ++ [T]).map fun T => Ow.d (encT (trN T))) := by simp
    have dl : (done.map fun T => Ow.d (encT (trN T))).length = done.length := List.length_map _
    have c1 : loopC [some (.d (rowD ws)), some (.d (.int (pre.length : Nat))), some (.d (.int (lv : Nat))), a3, a4, some (.l (done.map fun T => .d (encT (trN T)))), x6] = .ok true := by
      generalize (done.map fun T => Ow.d (encT (trN T))) = os
      generalize rowD ws = rw0 at gl ix
      simp [gl, ix, cl_is, ne]
    have c2 : loopB m [some (.d (rowD ws)), some (.d (.int (pre.length : Nat))), some (.d (.int (lv : Nat))), a3, a4, some (.l (done.map fun T => .d (encT (trN T)))), x6] = .nx [some (.d (rowD ws)), some (.d (.int (E : Nat))), some (.d (.int (lv : Nat))), a3, a4, some (.l ((done ++ [T]).map fun T => .d (encT (trN T)))), some (.d (encT (trN T)))] := by
      have lv1 : (((lv + 1 : Nat)) : Int) = (lv : Int) + 1 := by omega
      rw [lv1] at rd
      rw [← dn]
      generalize (done.map fun T => Ow.d (encT (trN T))) = os at dl
      rw [← dl] at hdl
      generalize rowD ws = rw0 at rd
      simp [rd, sizeLine_eq, hdl]
    obtain ⟨y6, ih⟩ := loop_ok m ws hws lv a3 a4 bs (done ++ [T]) (pre ++ wN T) post k (some (.d (encT (trN T)))) (by rw [e]; simp) ok.2 (fun U hU => hr U (List.mem_cons_of_mem _ hU)) (by simp at hn; omega) (by simp at hd ⊢; omega)
    refine ⟨y6, ?_⟩
    have l1 : (pre ++ wN T).length = E := by rw [List.length_append, hE]
    rw [l1] at ih
    have l2 : pre.length + (wNs (T :: bs)).length = E + (wNs bs).length := by rw [wNs, List.length_append, hE]; omega
    rw [l2]
    have l3 : done ++ T :: bs = (done ++ [T]) ++ bs := by simp
    rw [l3, ← ih]
    rw [whileN, c1, R.st_ok, if_pos rfl, c2]
end G
set_option Elab.async false
set_option linter.all false
set_option maxRecDepth 100000
set_option maxHeartbeats 4000000
namespace G
open PySem PySem.Spec L2 Mir
theorem wNs_len : ∀ bs : List LN, bs.length ≤ (wNs bs).length
  | [] => by simp
  | T :: bs => by
    obtain ⟨s, ss, e⟩ := wN_ne T
    rw [wNs, List.length_append, e, List.length_cons, List.length_cons]
    have := wNs_len bs
    omega
theorem levs_mem {bs : List LN} {n : Nat} (h : levTs (trNs bs) ≤ n) : ∀ T ∈ bs, levT (trN T) ≤ n := fun T hT => levTs_le h _ (by rw [trNs_map]; exact List.mem_map_of_mem hT)
theorem reads_ok : ∀ (n : Nat) (T : LN) (lv : Nat), levT (trN T) ≤ n → levT (trN T) + lv ≤ 41 → okN T → Reads (mir (n + 1) 6) T lv
  | 0, .mk nm k mb o i g c bs, lv, h, _, _ => by rw [trN, levT] at h; omega
  | n + 1, .mk nm k mb o i g c bs, lv, h, h41, ok => by
    intro ws pre post hws e he
    rw [trN, levT] at h h41
    rw [okN] at ok
    obtain ⟨⟨n1, n2, n3⟩, k0, k1, g1, mb3, _, _, _, _, _, okb⟩ := ok
    rw [mir_tree_at, run_tree_at]
    rw [wN] at e
    have gl := gLen_row ws
    have e0 : ws = pre ++ nm :: (mkW k mb ++ brw (wNs bs) ++ post) := by rw [e]; simp
    have ix0 := gIx_row e0
    have hlt0 : pre.length < ws.length := by rw [e0]; simp
    obtain ⟨c0, r0, ec⟩ : ∃ c0 r0, nm = c0 :: r0 := by
      cases nm with
      | nil => exact absurd rfl n1
      | cons c r => exact ⟨c, r, rfl⟩
    have hc0 : isL c0 = true := n2 c0 (by rw [ec]; simp)
    have isn : mir (n + 1) 4 [.str (tx nm)] = .ok (.d (.bool true)) := by
      have := isName_ok n c0 r0 (by rw [← ec]; omega)
      rw [hc0, ← ec] at this
      exact this
    have env0 : envOf 4 [rowD ws, .int (pre.length : Nat), .int (lv : Nat)] = [some (.d (rowD ws)), some (.d (.int (pre.length : Nat))), some (.d (.int (lv : Nat))), none, none, none, none] := rfl
    rw [env0]
    have lv40 : ¬ (40 : Int) < (lv : Int) := by omega
    -- what comes behind name and mark
    have rest : ∀ w, (brw (wNs bs) ++ post).head? = some w → mir (n + 1) 5 [.str (tx w)] = .ok (.d (.bool false)) := fun w hw => by
      cases bs with
      | nil => rw [wNs] at hw; exact (end_test he n hw).1
      | cons U bs =>
        rw [brw_some (wNs_ne U bs)] at hw
        have : w = [40] := by simpa using hw.symm
        subst this
        exact isNumber_ok n [] 40 (by decide)
    -- name
    obtain ⟨P, hP⟩ : ∃ P : Nat, P = pre.length := ⟨_, rfl⟩
    obtain ⟨W, hW⟩ : ∃ W : Nat, W = ws.length := ⟨_, rfl⟩
    rw [← hW] at gl hlt0
    rw [← hP] at ix0 hlt0 ⊢
    obtain ⟨RW, hRW⟩ : ∃ d, d = rowD ws := ⟨_, rfl⟩
    rw [← hRW] at gl ix0 ⊢
    have hle0 : ¬ W ≤ P := by omega
    refine fin_step (env1 := [some (.d RW), some (.d (.int (P : Nat))), some (.d (.int (lv : Nat))), none, none, none, none]) (by simp [gl, ix0, isn, hle0, lv40]) ?_
    refine fin_step (env1 := [some (.d RW), some (.d (.int (P : Nat))), some (.d (.int (lv : Nat))), some (.d (.str (tx nm))), none, none, none]) (by simp [ix0]) ?_
    refine fin_step (env1 := [some (.d RW), some (.d (.int ((P + 1 : Nat) : Int))), some (.d (.int (lv : Nat))), some (.d (.str (tx nm))), none, none, none]) (by simp) ?_
    refine fin_step (env1 := [some (.d RW), some (.d (.int ((P + 1 : Nat) : Int))), some (.d (.int (lv : Nat))), some (.d (.str (tx nm))), some (.d (.int 0)), none, none]) (by simp) ?_
    obtain ⟨M, hM⟩ : ∃ M : Nat, M = P + 1 + (mkW k mb).length := ⟨_, rfl⟩
    have pl1 : (pre ++ [nm]).length = P + 1 := by rw [hP]; simp
    have step5 : (sIf (tAndE (eB (eBin gLt (eVar 1) (eM (eCa gLen (aCons (eVar 0) aNil)) viewD)) asB) (eB (eM (eB (aCons (eBin gIx (eVar 0) (eVar 1)) aNil) (mir (n + 1) 5)) viewD) asB))
    (sSeq (sSet 4 (eM (eM (eCa gInt (aCons (eBin gIx (eVar 0) (eVar 1)) aNil)) viewD) Ow.d))
    (sAug gAddA 1 (eC (.int 1))))
    sSkip) [some (.d RW), some (.d (.int ((P + 1 : Nat) : Int))), some (.d (.int (lv : Nat))), some (.d (.str (tx nm))), some (.d (.int 0)), none, none] = .nx [some (.d RW), some (.d (.int (M : Nat))), some (.d (.int (lv : Nat))), some (.d (.str (tx nm))), some (.d (.int k)), none, none] := by
      cases mb with
      | none =>
        rw [mkW, List.length_nil, Nat.add_zero] at hM
        subst hM
        rw [mkW, List.nil_append] at e0
        have k00 := k0 rfl
        subst k00
        cases hr : brw (wNs bs) ++ post with
        | nil =>
          rw [hr] at e0
          have : W = P + 1 := by rw [hW, hP, e0]; simp
          have nl : ¬ ((P : Int) + 1 < (W : Int)) := by omega
          simp [gl, nl]
        | cons w r =>
          rw [hr] at e0
          have e1 : ws = (pre ++ [nm]) ++ w :: r := by rw [e0]; simp
          have ix1 := gIx_row e1
          rw [pl1, ← hRW] at ix1
          have : P + 1 < W := by rw [hW, hP, e0]; simp
          have nl : (P : Int) + 1 < (W : Int) := by omega
          have hno := rest w (by rw [hr]; rfl)
          have ix1' : gIx RW (.int ((P : Int) + 1)) = some (.str (tx w)) := ix1
          simp [gl, nl, ix1', hno]
      | some b =>
        have hM1 : M = P + 1 + 1 := by rw [hM]; rfl
        subst hM1
        have e1 : ws = (pre ++ [nm]) ++ ik k :: (brw (wNs bs) ++ post) := by rw [e0]; simp [mkW]
        have ix1 := gIx_row e1
        rw [pl1, ← hRW] at ix1
        have : P + 1 < W := by rw [hW, hP, e0]; simp [mkW]
        have nl : (P : Int) + 1 < (W : Int) := by omega
        have ix1' : gIx RW (.int ((P : Int) + 1)) = some (.str (tx (ik k))) := ix1
        have il := ik_len k1
        obtain ⟨p, x, ep, hx⟩ := ik_last k
        have isnum : mir (n + 1) 5 [.str (tx (ik k))] = .ok (.d (.bool true)) := by
          have := isNumber_ok n p x (by rw [← ep]; omega)
          rw [hx, ← ep] at this
          exact this
        have gi := gInt_ik (k := k) (by omega)
        simp [gl, nl, ix1', isnum, gi]
    refine fin_step step5 ?_
    refine fin_step (env1 := [some (.d RW), some (.d (.int (M : Nat))), some (.d (.int (lv : Nat))), some (.d (.str (tx nm))), some (.d (.int k)), some (.l []), none]) (by simp [sizeLine_eq]) ?_
    have plM : (pre ++ nm :: mkW k mb).length = M := by rw [hM, hP]; simp; omega
    obtain ⟨E, hE⟩ : ∃ E : Nat, E = P + (wN (.mk nm k mb o i g c bs)).length := ⟨_, rfl⟩
    have hE2 : E = M + (brw (wNs bs)).length := by rw [hE, hM, wN]; simp; omega
    have step7 : ∃ y6, (sIf (tAndE (eB (eBin gLt (eVar 1) (eM (eCa gLen (aCons (eVar 0) aNil)) viewD)) asB) (eB (eBin gEq (eBin gIx (eVar 0) (eVar 1)) (eC (.str "("))) asB))
    (sSeq (sAug gAddA 1 (eC (.int 1)))
    (sSeq (whileN loopC (loopB (mir (n + 1))) 1000000)
    (sSeq (sIf (eB (eBin gEq (eM (eVarO 5) viewD) (eM (eLst aNil) viewD)) asB)
    sNo
    sSkip)
    (sAug gAddA 1 (eC (.int 1))))))
    sSkip) [some (.d RW), some (.d (.int (M : Nat))), some (.d (.int (lv : Nat))), some (.d (.str (tx nm))), some (.d (.int k)), some (.l []), none] = .nx [some (.d RW), some (.d (.int (E : Nat))), some (.d (.int (lv : Nat))), some (.d (.str (tx nm))), some (.d (.int k)), some (.l (bs.map fun T => .d (encT (trN T)))), y6] := by
      by_cases hb : bs = []
      · subst hb
        rw [wNs] at e0 hE2
        rw [show brw [] = [] from rfl] at e0 hE2
        rw [List.append_nil] at e0
        rw [List.length_nil, Nat.add_zero] at hE2
        rw [hE2]
        refine ⟨none, ?_⟩
        cases hr : post with
        | nil =>
          rw [hr] at e0
          have : W = M := by rw [hW, ← plM, e0]; simp
          have nl : ¬ ((M : Int) < (W : Int)) := by omega
          simp [gl, nl]
        | cons w r =>
          rw [hr] at e0
          have e1 : ws = (pre ++ nm :: mkW k mb) ++ w :: r := by rw [e0]; simp
          have ix1 := gIx_row e1
          rw [plM, ← hRW] at ix1
          have nw := (end_test he n (w := w) (by rw [hr]; rfl)).2
          have eq := gEq_tx w [40]
          rw [decide_eq_false nw] at eq
          simp [gl, ix1, op_is, eq]
      · have hne : wNs bs ≠ [] := by
          obtain ⟨U, cs, e⟩ : ∃ U cs, bs = U :: cs := by
            cases bs with
            | nil => exact absurd rfl hb
            | cons U cs => exact ⟨U, cs, rfl⟩
          rw [e]; exact wNs_ne U cs
        rw [brw_some hne] at e0 hE2
        have e1 : ws = (pre ++ nm :: mkW k mb) ++ [40] :: (wNs bs ++ [41] :: post) := by rw [e0]; simp
        have ix1 := gIx_row e1
        rw [plM, ← hRW] at ix1
        have eq := gEq_tx [40] [40]
        have hlt : M < W := by rw [hW, ← plM, e1]; simp
        have e2 : ws = (pre ++ nm :: mkW k mb ++ [[40]]) ++ wNs bs ++ [41] :: post := by rw [e1]; simp
        have bl := wNs_len bs
        have wl : (wNs bs).length ≤ ws.length := by rw [e2]; simp; omega
        obtain ⟨y6, lp⟩ := loop_ok (mir (n + 1)) ws hws lv (some (.d (.str (tx nm)))) (some (.d (.int k))) bs [] (pre ++ nm :: mkW k mb ++ [[40]]) post 1000000 none e2 okb (fun T hT => by
          have := levs_mem (bs := bs) (n := levTs (trNs bs)) (Nat.le_refl _) T hT
          exact reads_ok n T (lv + 1) (by omega) (by omega) ((okNs_iff _).mp okb T hT)) (by omega) (by simp; omega)
        have l1 : (pre ++ nm :: mkW k mb ++ [[40]]).length = M + 1 := by rw [List.length_append, plM]; rfl
        rw [l1, ← hRW, List.nil_append, List.map_nil] at lp
        refine ⟨y6, ?_⟩
        have hE3 : E = M + 1 + (wNs bs).length + 1 := by rw [hE2]; simp; omega
        have nn : gEq (.list (bs.map fun T => encT (trN T))) (.list []) = some (.bool false) := by
          have okT' : ∀ d ∈ (bs.map fun T => encT (trN T)), d.canLay0 = true ∧ d.depth ≤ 100 := fun d hd => by
            obtain ⟨T, hT, rfl⟩ := List.mem_map.mp hd
            have a := (okNs_iff _).mp okb T hT
            have := levs_mem (bs := bs) (n := levTs (trNs bs)) (Nat.le_refl _) T hT
            have hl := depth_encT (trN T)
            exact ⟨can_encT _ (okTr T a), by omega⟩
          have n1 : Nice (.list (bs.map fun T => encT (trN T))) := by
            refine ⟨?_, ?_⟩
            · rw [PyData.canLay0]; exact canAll_of _ fun d hd => (okT' d hd).1
            · rw [PyData.depth]
              have := depthAll_of (n := 100) _ fun d hd => (okT' d hd).2
              omega
          have n0 : Nice (.list []) := ⟨rfl, by simp [PyData.depth, PyData.depthAll]⟩
          rw [gEq_nice n1 n0]
          cases bs with
          | nil => exact absurd rfl hb
          | cons U cs => simp [PyData.eqv, PyData.eqvAll]
        have vw : viewD (.l (bs.map fun T => .d (encT (trN T)))) = .list (bs.map fun T => encT (trN T)) := viewD_of (fun T => encT (trN T)) bs
        generalize (bs.map fun T => Ow.d (encT (trN T))) = os at lp vw
        generalize (1000000 : Nat) = big at lp
        have lp' : whileN loopC (loopB (mir (n + 1))) big [some (.d RW), some (.d (.int ((M : Int) + 1))), some (.d (.int (lv : Nat))), some (.d (.str (tx nm))), some (.d (.int k)), some (.l []), none] = .nx [some (.d RW), some (.d (.int ((M + 1 + (wNs bs).length : Nat) : Int))), some (.d (.int (lv : Nat))), some (.d (.str (tx nm))), some (.d (.int k)), some (.l os), y6] := lp
        have vn : viewD (.l []) = .list [] := by simp
        simp [gl, ix1, op_is, eq, hlt, lp', vw, vn, nn, sizeLine_eq, hE3]
    obtain ⟨y6, step7⟩ := step7
    refine fin_step step7 ?_
    have sh := unDs_of (fun T => encT (trN T)) bs
    rw [trN, encT_mk, trNs_map, List.map_map]
    have hc : (bs.map (encT ∘ trN)) = bs.map fun T => encT (trN T) := rfl
    rw [hc, ← hE]
    generalize (bs.map fun T => Ow.d (encT (trN T))) = os at sh
    generalize (bs.map fun T => encT (trN T)) = ds at sh
    simp [sh, sizeLine_eq]
end G
set_option Elab.async false
set_option linter.all false
set_option maxRecDepth 100000
set_option maxHeartbeats 4000000
namespace G
open PySem PySem.Spec L2 Mir
theorem build_app : ∀ (a b : List (Nat × List Nat)) (t : Nat), build (a ++ b) t = build a 0 ++ build b t
  | [], b, t => by simp [build]
  | (n, w) :: a, b, t => by rw [List.cons_append, build, build, build_app a b t]; simp
def txN (T : LN) : List Nat := build (sgN 0 T) 0
theorem build_sgN (b : Nat) (T : LN) : build (sgN b T) 0 = List.replicate b 32 ++ txN T := by
  cases T with
  | mk nm k mb o i g c bs =>
    unfold txN
    rw [sgN, sgN, build, build]
    simp
theorem build_rest (g : Nat) : ∀ bs : List LN, build (sgNs g g bs) 0 = ((bs.map txN).map fun b => List.replicate g 32 ++ b).flatten
  | [] => by rw [sgNs]; simp [build]
  | T :: bs => by
    rw [sgNs, build_app, build_sgN, build_rest g bs]
    simp
theorem build_sgNs (i g : Nat) (T : LN) (bs : List LN) : build (sgNs i g (T :: bs)) 0 = List.replicate i 32 ++ glue (List.replicate g 32) ((T :: bs).map txN) := by
  rw [sgNs, build_app, build_sgN, build_rest, List.map_cons, glue]
  simp
def mtx (k : Int) : Option Nat → List Nat
  | none => []
  | some b => List.replicate b 32 ++ ik k
def btx (o i g c : Nat) : List (List Nat) → List Nat
  | [] => []
  | w :: ws => List.replicate o 32 ++ ([40] ++ (List.replicate i 32 ++ (glue (List.replicate g 32) (w :: ws) ++ (List.replicate c 32 ++ [41]))))
theorem txN_mk (nm : List Nat) (k : Int) (mb : Option Nat) (o i g c : Nat) (bs : List LN) : txN (.mk nm k mb o i g c bs) = nm ++ (mtx k mb ++ btx o i g c (bs.map txN)) := by
  unfold txN
  rw [sgN, build, List.replicate_zero, List.nil_append, build_app]
  have e1 : build (mkS k mb) 0 = mtx k mb := by
    cases mb with
    | none => rfl
    | some b => rw [mkS, mtx, build, build]; simp
  rw [e1]
  congr 2
  cases bs with
  | nil => rw [sgNs]; rfl
  | cons T bs =>
    obtain ⟨s, ss, e⟩ : ∃ s ss, sgNs i g (T :: bs) = s :: ss := by
      obtain ⟨s, ss, e⟩ := sgN_ne i T
      exact ⟨s, ss ++ sgNs g g bs, by rw [sgNs, e]; rfl⟩
    have e2 : brk o c (sgNs i g (T :: bs)) = (o, [40]) :: (sgNs i g (T :: bs) ++ [(c, [41])]) := by rw [e, brk]
    rw [e2, build, build_app, build_sgNs, List.map_cons, List.map_cons, btx]
    simp [build]
    rfl
/-! ### lengths -/
theorem glue_len (s : List Nat) (h : s.length ≤ 3) : ∀ l : List (List Nat), (glue s l).length ≤ (l.map fun w => w.length + 3).sum
  | [] => by simp [glue]
  | a :: r => by
    have e : ∀ r : List (List Nat), ((r.map fun b => s ++ b).flatten).length ≤ (r.map fun w => w.length + 3).sum := fun r => by
      induction r with
      | nil => simp
      | cons b r ih =>
        rw [List.map_cons, List.flatten_cons, List.length_append, List.length_append, List.map_cons, List.sum_cons]
        omega
    rw [glue, List.length_append, List.map_cons, List.sum_cons]
    have := e r
    omega
mutual
theorem txN_len : ∀ T : LN, okN T → (txN T).length + 3 ≤ 90 * sizeT (trN T)
  | .mk nm k mb o i g c bs, h => by
    rw [okN] at h
    obtain ⟨⟨_, _, n3⟩, _, k1, _, m1, o1, i1, g1, c1, _, hb⟩ := h
    rw [txN_mk, trN, sizeT, List.length_append, List.length_append]
    have a := ik_len k1
    have b1 : (mtx k mb).length ≤ 64 := by
      cases mb with
      | none => rw [mtx]; simp
      | some b =>
        have := m1 b rfl
        rw [mtx, List.length_append, List.length_replicate]
        omega
    have b2 : (btx o i g c (bs.map txN)).length ≤ 11 + ((bs.map txN).map fun w => w.length + 3).sum := by
      cases bs with
      | nil => simp [btx]
      | cons T bs =>
        rw [List.map_cons, btx]
        have := glue_len (List.replicate g 32) (by rw [List.length_replicate]; exact g1) (txN T :: bs.map txN)
        simp only [List.length_append, List.length_replicate, List.length_cons, List.length_nil]
        omega
    have := txNs_len bs hb
    omega
theorem txNs_len : ∀ bs : List LN, okNs bs → ((bs.map txN).map fun w => w.length + 3).sum ≤ 90 * sizeTs (trNs bs)
  | [], _ => by simp
  | b :: bs, h => by
    rw [okNs] at h
    rw [trNs, sizeTs, List.map_cons, List.map_cons, List.sum_cons]
    have := txN_len b h.1
    have := txNs_len bs h.2
    omega
end
theorem sum_plus (l : List (List Nat)) : (l.map fun w => w.length + 3).sum = (l.map List.length).sum + l.length * 3 := by
  induction l with
  | nil => rfl
  | cons a l ih => rw [List.map_cons, List.sum_cons, ih, List.map_cons, List.sum_cons, List.length_cons]; omega
theorem join_ok (g : Nat) (hg : g ≤ 3) (bs : List LN) (ok : okNs bs) (hz : sizeTs (trNs bs) ≤ 1000) : gJoin (.str (tx (List.replicate g 32))) (.list (bs.map fun T => .str (tx (txN T)))) = some (.str (tx (glue (List.replicate g 32) (bs.map txN)))) := by
  have e : (bs.map fun T => PyData.str (tx (txN T))) = (bs.map txN).map fun w => .str (tx w) := by rw [List.map_map]; rfl
  rw [e, gJoin_tx]
  have a := txNs_len bs ok
  rw [sum_plus] at a
  have : (bs.map txN).length * (List.replicate g 32).length ≤ (bs.map txN).length * 3 := Nat.mul_le_mul_left _ (by rw [List.length_replicate]; exact hg)
  omega
/-! ### the two texts of a tree -/
inductive Nd where
  | mk (nm : List Nat) (k : Int) (u : Nat) (bs : List Nd)
mutual
def tig : Nd → LN
  | .mk nm k u bs => .mk nm k (if k = 0 then none else some 0) 0 0 1 0 (tigs bs)
def tigs : List Nd → List LN
  | [] => []
  | b :: bs => tig b :: tigs bs
end
mutual
def wid : Nd → LN
  | .mk nm k u bs => .mk nm k (if k = 0 ∧ u / 3 % 2 = 0 then none else some (u % 3)) (u / 6 % 2) (u / 12 % 2) (1 + u / 24 % 3) (u / 72 % 2) (wids bs)
def wids : List Nd → List LN
  | [] => []
  | b :: bs => wid b :: wids bs
end
mutual
def trD : Nd → Tr
  | .mk nm k u bs => .mk (tx nm) k (trDs bs)
def trDs : List Nd → List Tr
  | [] => []
  | b :: bs => trD b :: trDs bs
end
mutual
def okD : Nd → Prop
  | .mk nm k u bs => (nm ≠ [] ∧ (∀ x ∈ nm, isL x = true) ∧ nm.length ≤ 8) ∧ k.natAbs < 10 ^ 60 ∧ bs.length ≤ 1000 ∧ okDs bs
def okDs : List Nd → Prop
  | [] => True
  | b :: bs => okD b ∧ okDs bs
end
theorem tigs_map : ∀ bs : List Nd, tigs bs = bs.map tig
  | [] => by rw [tigs]; rfl
  | b :: bs => by rw [tigs, tigs_map bs]; rfl
theorem wids_map : ∀ bs : List Nd, wids bs = bs.map wid
  | [] => by rw [wids]; rfl
  | b :: bs => by rw [wids, wids_map bs]; rfl
theorem trDs_map : ∀ bs : List Nd, trDs bs = bs.map trD
  | [] => by rw [trDs]; rfl
  | b :: bs => by rw [trDs, trDs_map bs]; rfl
theorem okDs_iff : ∀ bs : List Nd, okDs bs ↔ ∀ b ∈ bs, okD b
  | [] => by simp [okDs]
  | b :: bs => by rw [okDs, okDs_iff bs]; simp
mutual
theorem tr_tig : ∀ d : Nd, trN (tig d) = trD d
  | .mk nm k u bs => by rw [tig, trN, trD, tr_tigs bs]
theorem tr_tigs : ∀ bs : List Nd, trNs (tigs bs) = trDs bs
  | [] => by rw [tigs, trNs, trDs]
  | b :: bs => by rw [tigs, trNs, trDs, tr_tig b, tr_tigs bs]
end
mutual
theorem tr_wid : ∀ d : Nd, trN (wid d) = trD d
  | .mk nm k u bs => by rw [wid, trN, trD, tr_wids bs]
theorem tr_wids : ∀ bs : List Nd, trNs (wids bs) = trDs bs
  | [] => by rw [wids, trNs, trDs]
  | b :: bs => by rw [wids, trNs, trDs, tr_wid b, tr_wids bs]
end
mutual
theorem ok_tig : ∀ d : Nd, okD d → okN (tig d)
  | .mk nm k u bs, h => by
    rw [okD] at h
    rw [tig, okN, tigs_map, List.length_map, ← tigs_map]
    refine ⟨h.1, fun z => ?_, h.2.1, by omega, fun b hb => ?_, by omega, by omega, by omega, by omega, h.2.2.1, ok_tigs bs h.2.2.2⟩
    · split at z
      · assumption
      · cases z
    · split at hb
      · cases hb
      · cases hb; omega
theorem ok_tigs : ∀ bs : List Nd, okDs bs → okNs (tigs bs)
  | [], _ => by rw [tigs, okNs]; trivial
  | b :: bs, h => by
    rw [okDs] at h
    rw [tigs, okNs]
    exact ⟨ok_tig b h.1, ok_tigs bs h.2⟩
end
mutual
theorem ok_wid : ∀ d : Nd, okD d → okN (wid d)
  | .mk nm k u bs, h => by
    rw [okD] at h
    rw [wid, okN, wids_map, List.length_map, ← wids_map]
    refine ⟨h.1, fun z => ?_, h.2.1, by omega, fun b hb => ?_, by omega, by omega, by omega, by omega, h.2.2.1, ok_wids bs h.2.2.2⟩
    · split at z
      · rename_i c; exact c.1
      · cases z
    · split at hb
      · cases hb
      · have := Option.some.inj hb; omega
theorem ok_wids : ∀ bs : List Nd, okDs bs → okNs (wids bs)
  | [], _ => by rw [wids, okNs]; trivial
  | b :: bs, h => by
    rw [okDs] at h
    rw [wids, okNs]
    exact ⟨ok_wid b h.1, ok_wids bs h.2⟩
end
theorem gAddA_tx {a b : List Nat} (h : a.length + b.length ≤ 16777216) : gAddA (.str (tx a)) (.str (tx b)) = some (.str (tx (a ++ b))) := by
  show (if (tx a).length + (tx b).length ≤ sizeLine then some (PyData.str (tx a ++ tx b)) else none) = _
  rw [if_pos (by rw [tx_len, tx_len, sizeLine_eq]; exact h), tx_app]
theorem sp1_is : (Str.ofString " ") = tx (List.replicate 1 32) := sp_is
/-- show_tree -/
theorem show_ok : ∀ (n : Nat) (d : Nd), levT (trD d) ≤ n → okD d → sizeT (trD d) ≤ 1000 → mir n 8 [encT (trD d)] = .ok (.d (.str (tx (txN (tig d)))))
  | 0, .mk nm k u bs, h, _, _ => by rw [trD, levT] at h; omega
  | n + 1, .mk nm k u bs, h, ok, hz => by
    rw [mir_show_tree, run_show_tree]
    have okd := ok
    rw [okD] at ok
    rw [trD, levT] at h
    have ln := txN_len (tig (.mk nm k u bs)) (ok_tig _ okd)
    rw [tr_tig] at ln
    rw [trD, sizeT] at hz ln
    rw [tig, txN_mk] at ln ⊢
    rw [trD]
    obtain ⟨ENC, hENC⟩ : ∃ d, d = encT (.mk (tx nm) k (trDs bs)) := ⟨_, rfl⟩
    have i0 : gIx ENC (.int 0) = some (.str (tx nm)) := by rw [hENC, encT_mk]; simp
    have i1 : gIx ENC (.int 1) = some (.int k) := by rw [hENC, encT_mk]; simp
    have i2 : gIx ENC (.int 2) = some (.tuple (bs.map fun d => encT (trD d))) := by rw [hENC, encT_mk, trDs_map, List.map_map]; simp
    have e0 : envOf 2 [ENC] = [some (.d ENC), none, none] := rfl
    rw [← hENC, e0]
    have ikl := ik_len ok.2.1
    have st := gStr_ik (k := k) (by
      have : (10 : Nat) ^ 60 < 2 ^ 1000 := by decide +kernel
      have := ok.2.1
      omega)
    obtain ⟨M, hM⟩ : ∃ M, M = mtx k (if k = 0 then none else some 0) := ⟨_, rfl⟩
    rw [← hM] at ln ⊢
    obtain ⟨B, hB⟩ : ∃ B, B = btx 0 0 1 0 ((tigs bs).map txN) := ⟨_, rfl⟩
    rw [← hB] at ln ⊢
    rw [List.length_append, List.length_append] at ln
    refine fin_step (env1 := [some (.d ENC), some (.d (.str (tx nm))), none]) (by simp [i0]) ?_
    refine fin_step (env1 := [some (.d ENC), some (.d (.str (tx (nm ++ M)))), none]) ?_ ?_
    · by_cases z : k = 0
      · subst z
        have : M = [] := by rw [hM, if_pos rfl, mtx]
        rw [this, List.append_nil]
        simp [i1]
      · have eM : M = ik k := by rw [hM, if_neg z, mtx]; simp
        have ad := gAddA_tx (a := nm) (b := ik k) (by rw [eM] at ln; omega)
        rw [eM]
        simp [i1, z, st, ad]
    refine fin_step (env1 := [some (.d ENC), some (.d (.str (tx (nm ++ (M ++ B))))), none]) ?_ ?_
    · cases bs with
      | nil =>
        have : B = [] := by rw [hB, tigs]; rfl
        rw [this, List.append_nil]
        simp [i2]
      | cons T cs =>
        obtain ⟨bs, hbs⟩ : ∃ bs, bs = T :: cs := ⟨_, rfl⟩
        rw [← hbs] at h ok hz ln i2 hB
        have eqB : B = [40] ++ (glue (List.replicate 1 32) ((tigs bs).map txN) ++ [41]) := by
          rw [hB, hbs, tigs, List.map_cons, btx]; simp
        have pos : 0 < bs.length := by rw [hbs]; simp
        have hm : ∀ d ∈ bs, levT (trD d) ≤ n ∧ sizeT (trD d) ≤ 1000 := fun d hd => by
          have m1 : trD d ∈ trDs bs := by rw [trDs_map]; exact List.mem_map_of_mem hd
          refine ⟨levTs_le (by omega) _ m1, ?_⟩
          have : ∀ (ts : List Tr) (t : Tr), t ∈ ts → sizeT t ≤ sizeTs ts := fun ts => by
            induction ts with
            | nil => intro t h; cases h
            | cons c ts ih =>
              intro t h
              rw [sizeTs]
              rcases List.mem_cons.mp h with rfl | h
              · omega
              · have := ih t h
                omega
          have := this _ _ m1
          omega
        have lc : eLc (eB (eBin gIx (eVar 0) (eC (.int 2))) itD) (gtName 2) cYes (eB (aCons (eVar 2) aNil) (mir n 8)) [2] [some (.d ENC), some (.d (.str (tx (nm ++ M)))), none] = .ok (.l (bs.map fun d => .d (.str (tx (txN (tig d)))))) := by
          refine eLc_of (ds := bs.map fun d => encT (trD d)) (by simp [i2]) (by rw [List.length_map, sizeLine_eq]; omega) (lcR_map (fun d => encT (trD d)) _ bs fun d hd => ⟨[some (.d ENC), some (.d (.str (tx (nm ++ M)))), some (.d (encT (trD d)))], by simp [wipeE], rfl, ?_⟩)
          have := show_ok n d (hm d hd).1 ((okDs_iff bs).mp ok.2.2.2 d hd) (hm d hd).2
          simp [this]
        have sh := unDs_of (fun d => PyData.str (tx (txN (tig d)))) bs
        have jo := join_ok 1 (by decide) (tigs bs) (ok_tigs bs ok.2.2.2) (by rw [tr_tigs]; omega)
        rw [tigs_map, List.map_map] at jo
        have e3 : (bs.map ((fun T => PyData.str (tx (txN T))) ∘ tig)) = bs.map fun d => PyData.str (tx (txN (tig d))) := rfl
        rw [e3, ← tigs_map] at jo
        obtain ⟨GL, hGL⟩ : ∃ GL, GL = glue (List.replicate 1 32) ((tigs bs).map txN) := ⟨_, rfl⟩
        rw [← hGL] at jo eqB
        rw [eqB] at ln ⊢
        simp only [List.length_append, List.length_cons, List.length_nil] at ln
        have a1 := gAdd_tx (a := [40]) (b := GL) (by simp; omega)
        have a2 := gAdd_tx (a := [40] ++ GL) (b := [41]) (by simp; omega)
        have a3 := gAddA_tx (a := nm ++ M) (b := [40] ++ GL ++ [41]) (by simp; omega)
        generalize (bs.map fun d => Ow.d (PyData.str (tx (txN (tig d))))) = os at lc sh
        generalize (bs.map fun d => PyData.str (tx (txN (tig d)))) = ds at sh jo
        have ej : eJoin (eC (.str " ")) (eB (eLc (eB (eBin gIx (eVar 0) (eC (.int 2))) itD) (gtName 2) cYes (eB (aCons (eVar 2) aNil) (mir n 8)) [2]) shD) [some (.d ENC), some (.d (.str (tx (nm ++ M)))), none] = .ok (.str (tx GL)) := by
          rw [eJoin_eq (a := tx (List.replicate 1 32)) (d := .list ds) (by rw [← sp1_is]; rfl) (by simp [lc, sh]), jo]
          rfl
        have e4 : nm ++ M ++ ([40] ++ GL ++ [41]) = nm ++ (M ++ ([40] ++ (GL ++ [41]))) := by simp
        rw [e4] at a3
        simp only [List.cons_append, List.nil_append] at a1 a2 a3
        simp [i2, pos, ej, op_is, cl_is, a1, a2, a3]
    simp
end G
set_option Elab.async false
set_option linter.all false
set_option maxRecDepth 100000
set_option maxHeartbeats 4000000
namespace G
open PySem PySem.Spec L2 Mir
theorem seq_nx {f g : Ev → SR} {env env1 : Ev} {r : SR} (h1 : f env = .nx env1) (h2 : g env1 = r) : sSeq f g env = r := by
  rw [sSeq_eq, h1]
  exact h2
structure RW where
  nm : List Nat
  k : Int
  up : Nat
  u : Nat
def encW (r : RW) : PyData := .tuple [.str (tx r.nm), .int r.k, .int (r.up : Nat), .int (r.u : Nat)]
def RowOk (i : Nat) (r : RW) : Prop := (r.nm ≠ [] ∧ (∀ x ∈ r.nm, isL x = true) ∧ r.nm.length ≤ 8) ∧ r.k.natAbs < 10 ^ 60 ∧ r.up ≤ i ∧ (0 < i → r.up < i)
theorem name_ok (n : Nat) (c : Int) (h0 : 0 ≤ c) (h1 : c < 2147483648) : ∃ w : List Nat, mir (n + 1) 9 [.int c] = .ok (.d (.str (tx w))) ∧ w ≠ [] ∧ (∀ x ∈ w, isL x = true) ∧ w.length ≤ 8 := by
  rw [mir__law_name_by, run__law_name_by]
  exact name_tx c h0 h1
noncomputable abbrev rowB (m : Nat → List PyData → R Ow) : Ev → SR := (sSeq (sSet 3 (eM (eBin gMod (eVar 2) (eBin gPow (eC (.int 10)) (eC (.int 64)))) Ow.d))
    (sSeq (sSet 4 (eM (eM (eB (aCons (eBin gMod (eBin gMul (eVar 3) (eC (.int 48271))) (eC (.int 2147483647))) aNil) (m 9)) viewD) Ow.d))
    (sSeq (sSet 5 (eM (eM (eBinO gAdd (eBin gSub (eBin gMod (eBin gMul (eVar 3) (eC (.int 69621))) (eBin gSub (eBin gMul (eC (.int 2)) (eBin gPow (eC (.int 10)) (eC (.int 60)))) (eC (.int 1)))) (eBin gPow (eC (.int 10)) (eC (.int 60)))) (eC (.int 1))) viewD) Ow.d))
    (sSeq (sIf (eB (eBin gEq (eBin gMod (eBin gDiv (eVar 3) (eC (.int 3))) (eC (.int 4))) (eC (.int 1))) asB)
    (sSet 5 (eM (eC (.int 0)) Ow.d))
    sSkip)
    (sSeq (sIf (eB (eBin gEq (eBin gMod (eBin gDiv (eVar 3) (eC (.int 3))) (eC (.int 4))) (eC (.int 2))) asB)
    (sSet 5 (eM (eBin gSub (eBin gMod (eBin gDiv (eVar 3) (eC (.int 12))) (eC (.int 19))) (eC (.int 9))) Ow.d))
    sSkip)
    (sSeq (sSet 6 (eM (eC (.int 0)) Ow.d))
    (sSeq (sIf (eB (eBin gGt (eM (eCa gLen (aCons (eB (eVarO 1) shD) aNil)) viewD) (eC (.int 0))) asB)
    (sSeq (sSet 6 (eM (eBin gMod (eVar 3) (eM (eCa gLen (aCons (eB (eVarO 1) shD) aNil)) viewD)) Ow.d))
    (sIf (eB (eBin gEq (eBin gMod (eBin gDiv (eVar 3) (eC (.int 61))) (eC (.int 3))) (eC (.int 0))) asB)
    (sSet 6 (eM (eBin gSub (eM (eCa gLen (aCons (eB (eVarO 1) shD) aNil)) viewD) (eC (.int 1))) Ow.d))
    sSkip))
    sSkip)
    (sApp 1 (eM (eTup (aCons (eVar 4) (aCons (eVar 5) (aCons (eVar 6) (aCons (eBin gMod (eBin gMul (eVar 3) (eC (.int 40692))) (eC (.int 2147483399))) aNil))))) Ow.d)))))))))
theorem row_turn (n : Nat) (cells : PyData) (rs : List RW) (hl : rs.length ≤ 60) (c : Int) (x3 x4 x5 x6 : Option Ow) :
    ∃ (r : RW) (y3 y4 y5 y6 : Option Ow), RowOk rs.length r ∧ rowB (mir (n + 1)) [some (.d cells), some (.l (rs.map fun r => Ow.d (encW r))), some (.d (.int c)), x3, x4, x5, x6] =
      .nx [some (.d cells), some (.l ((rs ++ [r]).map fun r => Ow.d (encW r))), some (.d (.int c)), y3, y4, y5, y6] := by
  obtain ⟨T64, h64⟩ : ∃ T : Int, T = 10 ^ 64 := ⟨_, rfl⟩
  obtain ⟨T60, h60⟩ : ∃ T : Int, T = 10 ^ 60 := ⟨_, rfl⟩
  have p64 : gPow (.int 10) (.int 64) = some (.int T64) := by rw [h64]; exact gPow10 64 (by decide)
  have p60 : gPow (.int 10) (.int 60) = some (.int T60) := by rw [h60]; exact gPow10 60 (by decide)
  obtain ⟨N, hN⟩ : ∃ N : Int, N = c % T64 := ⟨_, rfl⟩
  have n0 : 0 ≤ N := by rw [hN]; exact Int.emod_nonneg _ (by rw [h64]; decide)
  have n1 : N < 10 ^ 64 := by rw [hN, h64]; exact Int.emod_lt_of_pos _ (by decide)
  have m1 : gMod (.int c) (.int T64) = some (.int N) := by rw [gMod_int (by rw [h64]; decide), hN]
  have m2 : gMul (.int N) (.int 48271) = some (.int (N * 48271)) := gMul_by (by decide) (by decide)
  have m3 : gMod (.int (N * 48271)) (.int 2147483647) = some (.int (N * 48271 % 2147483647)) := gMod_int (by decide)
  obtain ⟨z, m4, zn, zl, z8⟩ := name_ok n (N * 48271 % 2147483647) (Int.emod_nonneg _ (by decide)) (by
    have := Int.emod_lt_of_pos (N * 48271) (b := 2147483647) (by decide)
    omega)
  have m5 : gMul (.int N) (.int 69621) = some (.int (N * 69621)) := gMul_by (by decide) (by decide)
  obtain ⟨Q, hQ⟩ : ∃ Q : Int, Q = N * 69621 % (2 * T60 - 1) := ⟨_, rfl⟩
  have q0 : 0 ≤ Q := by rw [hQ]; exact Int.emod_nonneg _ (by rw [h60]; decide)
  have q1 : Q < 2 * T60 - 1 := by rw [hQ]; exact Int.emod_lt_of_pos _ (by rw [h60]; decide)
  have m6 : gMul (.int 2) (.int T60) = some (.int (2 * T60)) := gMul_small (by decide) (by rw [h60]; decide)
  have m7 : gMod (.int (N * 69621)) (.int (2 * T60 - 1)) = some (.int Q) := by rw [hQ]; exact gMod_int (by rw [h60]; decide)
  have m8 : gDiv (.int N) (.int 61) = some (.int (N / 61)) := gDiv_small (by decide) (by decide)
  have m9 : gMod (.int (N / 61)) (.int 3) = some (.int (N / 61 % 3)) := gMod_int (by decide)
  have d3 : gDiv (.int N) (.int 3) = some (.int (N / 3)) := gDiv_small (by decide) (by decide)
  have d4 : gMod (.int (N / 3)) (.int 4) = some (.int (N / 3 % 4)) := gMod_int (by decide)
  have d12 : gDiv (.int N) (.int 12) = some (.int (N / 12)) := gDiv_small (by decide) (by decide)
  have d19 : gMod (.int (N / 12)) (.int 19) = some (.int (N / 12 % 19)) := gMod_int (by decide)
  have m11 : gMul (.int N) (.int 40692) = some (.int (N * 40692)) := gMul_by (by decide) (by decide)
  obtain ⟨U, hU⟩ : ∃ U : Nat, N * 40692 % 2147483399 = (U : Int) := ⟨(N * 40692 % 2147483399).toNat, by have := Int.emod_nonneg (N * 40692) (b := 2147483399) (by decide); omega⟩
  have m12 : gMod (.int (N * 40692)) (.int 2147483399) = some (.int (U : Nat)) := by rw [gMod_int (by decide), hU]
  have sh := unDs_of encW rs
  -- the mark
  obtain ⟨k, kb, s5⟩ : ∃ k : Int, k.natAbs < 10 ^ 60 ∧ ∀ g : Ev → SR, ∀ r, g [some (.d cells), some (.l (rs.map fun r => Ow.d (encW r))), some (.d (.int c)), some (.d (.int N)), some (.d (.str (tx z))), some (.d (.int k)), x6] = r → (sSeq (sSet 5 (eM (eM (eBinO gAdd (eBin gSub (eBin gMod (eBin gMul (eVar 3) (eC (.int 69621))) (eBin gSub (eBin gMul (eC (.int 2)) (eBin gPow (eC (.int 10)) (eC (.int 60)))) (eC (.int 1)))) (eBin gPow (eC (.int 10)) (eC (.int 60)))) (eC (.int 1))) viewD) Ow.d))
    (sSeq (sIf (eB (eBin gEq (eBin gMod (eBin gDiv (eVar 3) (eC (.int 3))) (eC (.int 4))) (eC (.int 1))) asB)
    (sSet 5 (eM (eC (.int 0)) Ow.d))
    sSkip)
    (sSeq (sIf (eB (eBin gEq (eBin gMod (eBin gDiv (eVar 3) (eC (.int 3))) (eC (.int 4))) (eC (.int 2))) asB)
    (sSet 5 (eM (eBin gSub (eBin gMod (eBin gDiv (eVar 3) (eC (.int 12))) (eC (.int 19))) (eC (.int 9))) Ow.d))
    sSkip) g))) [some (.d cells), some (.l (rs.map fun r => Ow.d (encW r))), some (.d (.int c)), some (.d (.int N)), some (.d (.str (tx z))), x5, x6] = r := by
    clear sh hN hU
    generalize (rs.map fun r => Ow.d (encW r)) = os
    by_cases c1 : N / 3 % 4 = 1
    · refine ⟨0, by decide, fun g r hg => ?_⟩
      simp [p60, m5, m6, m7, d3, d4, c1, hg]
    · by_cases c2 : N / 3 % 4 = 2
      · refine ⟨N / 12 % 19 - 9, ?_, fun g r hg => ?_⟩
        · have := Int.emod_nonneg (N / 12) (b := 19) (by decide)
          have := Int.emod_lt_of_pos (N / 12) (b := 19) (by decide)
          have : (9 : Nat) < 10 ^ 60 := by decide
          omega
        · simp [p60, m5, m6, m7, d3, d4, d12, d19, c2, hg]
      · refine ⟨Q - T60 + 1, ?_, fun g r hg => ?_⟩
        · have e : (10 : Int) ^ 60 = ((10 ^ 60 : Nat) : Int) := by simp
          rw [e] at h60
          generalize (10 : Nat) ^ 60 = B at h60 ⊢
          omega
        · simp [p60, m5, m6, m7, d3, d4, c1, c2, hg]
  -- the row above
  obtain ⟨up, hup, s6⟩ : ∃ up : Nat, (up ≤ rs.length ∧ (0 < rs.length → up < rs.length)) ∧ ∀ g : Ev → SR, ∀ r, g [some (.d cells), some (.l (rs.map fun r => Ow.d (encW r))), some (.d (.int c)), some (.d (.int N)), some (.d (.str (tx z))), some (.d (.int k)), some (.d (.int (up : Nat)))] = r → (sSeq (sSet 6 (eM (eC (.int 0)) Ow.d))
    (sSeq (sIf (eB (eBin gGt (eM (eCa gLen (aCons (eB (eVarO 1) shD) aNil)) viewD) (eC (.int 0))) asB)
    (sSeq (sSet 6 (eM (eBin gMod (eVar 3) (eM (eCa gLen (aCons (eB (eVarO 1) shD) aNil)) viewD)) Ow.d))
    (sIf (eB (eBin gEq (eBin gMod (eBin gDiv (eVar 3) (eC (.int 61))) (eC (.int 3))) (eC (.int 0))) asB)
    (sSet 6 (eM (eBin gSub (eM (eCa gLen (aCons (eB (eVarO 1) shD) aNil)) viewD) (eC (.int 1))) Ow.d))
    sSkip))
    sSkip) g)) [some (.d cells), some (.l (rs.map fun r => Ow.d (encW r))), some (.d (.int c)), some (.d (.int N)), some (.d (.str (tx z))), some (.d (.int k)), x6] = r := by
    have gl : gLen [.list (rs.map encW)] = some (.d (.int (rs.length : Nat))) := by
      have : gLen [.list (rs.map encW)] = some (Ow.d (.int (rs.map encW).length)) := rfl
      rw [this, List.length_map]
    generalize (rs.map fun r => Ow.d (encW r)) = os at sh
    generalize (rs.map encW) = ds at sh gl
    clear hN hU
    by_cases hr : rs = []
    · subst hr
      refine ⟨0, ⟨Nat.zero_le _, fun h => absurd h (by simp)⟩, fun g r hg => ?_⟩
      simp at gl
      simp [sh, gl]
      exact hg
    · have L0 : 0 < rs.length := List.length_pos_iff.mpr hr
      obtain ⟨u0, hu0⟩ : ∃ u : Nat, N % (rs.length : Int) = (u : Int) := ⟨(N % (rs.length : Int)).toNat, by have := Int.emod_nonneg N (b := (rs.length : Int)) (by omega); omega⟩
      have u0l : u0 < rs.length := by
        have := Int.emod_lt_of_pos N (b := (rs.length : Int)) (by omega)
        omega
      have m10 : gMod (.int N) (.int (rs.length : Int)) = some (.int (u0 : Int)) := by rw [gMod_int (by omega), hu0]
      have Lp : (0 : Int) < rs.length := by omega
      by_cases c1 : N / 61 % 3 = 0
      · have hu1 : (rs.length : Int) - 1 = ((rs.length - 1 : Nat) : Int) := by omega
        refine ⟨rs.length - 1, ⟨by omega, fun _ => by omega⟩, fun g r hg => ?_⟩
        simp [sh, gl, Lp, L0, m8, m9, m10, c1, hu1, hg]
      · refine ⟨u0, ⟨by omega, fun _ => u0l⟩, fun g r hg => ?_⟩
        simp [sh, gl, Lp, L0, m8, m9, m10, c1, hg]
  refine ⟨⟨z, k, up, U⟩, some (.d (.int N)), some (.d (.str (tx z))), some (.d (.int k)), some (.d (.int (up : Nat))), ⟨⟨zn, zl, z8⟩, kb, hup⟩, ?_⟩
  have am : ((rs ++ [(⟨z, k, up, U⟩ : RW)]).map fun r => Ow.d (encW r)) = (rs.map fun r => Ow.d (encW r)) ++ [.d (.tuple [.str (tx z), .int k, .int (up : Nat), .int (U : Nat)])] := by simp [encW]
  have Ls : (rs.map fun r => Ow.d (encW r)).length < 16777216 := by rw [List.length_map]; omega
  rw [am]
  refine seq_nx (env1 := [some (.d cells), some (.l (rs.map fun r => Ow.d (encW r))), some (.d (.int c)), some (.d (.int N)), x4, x5, x6]) (by simp [p64, m1]) ?_
  refine seq_nx (env1 := [some (.d cells), some (.l (rs.map fun r => Ow.d (encW r))), some (.d (.int c)), some (.d (.int N)), some (.d (.str (tx z))), x5, x6]) (by simp [m2, m3, m4]) ?_
  refine s5 _ _ (s6 _ _ ?_)
  generalize (rs.map fun r => Ow.d (encW r)) = os at Ls
  simp [m11, m12, sizeLine_eq, Ls]
theorem rows_ok (n : Nat) (cs : List Int) (hl : cs.length ≤ 60) : ∃ rs : List RW, mir (n + 2) 10 [.list (cs.map .int)] = .ok (.l (rs.map fun r => .d (encW r))) ∧ rs.length = cs.length ∧ ∀ (i : Nat) (r : RW), rs[i]? = some r → RowOk i r := by
  have key := forL_ind (g := gtName 2) (f := rowB (mir (n + 1))) (cs.map PyData.int)
    (fun i env => ∃ (rs : List RW) (x2 x3 x4 x5 x6 : Option Ow), env = [some (.d (.list (cs.map .int))), some (.l (rs.map fun r => .d (encW r))), x2, x3, x4, x5, x6] ∧ rs.length = i ∧ ∀ (j : Nat) (r : RW), rs[j]? = some r → RowOk j r) (fun i d env hd ⟨rs, x2, x3, x4, x5, x6, he, hrl, hw⟩ => by
      obtain ⟨c, hc, rfl⟩ := map_at hd
      subst he
      have hil := (List.getElem?_eq_some_iff.mp hc).1
      obtain ⟨r, y3, y4, y5, y6, ok, e⟩ := row_turn n (.list (cs.map .int)) rs (by omega) c x3 x4 x5 x6
      refine ⟨_, rfl, _, .inl e, rs ++ [r], _, _, _, _, _, rfl, by simp [hrl], fun j x hx => ?_⟩
      by_cases hj : j < rs.length
      · rw [List.getElem?_append_left hj] at hx
        exact hw j x hx
      · have hl2 := (List.getElem?_eq_some_iff.mp hx).1
        have : j = rs.length := by simp at hl2; omega
        subst this
        simp at hx
        subst hx
        exact ok)
    [some (.d (.list (cs.map .int))), some (.l []), none, none, none, none, none] ⟨[], none, none, none, none, none, rfl, rfl, fun j r h => by simp at h⟩
  obtain ⟨env', e1, rs, x2, x3, x4, x5, x6, e2, h1, h2⟩ := key
  subst e2
  refine ⟨rs, ?_, by rw [h1]; simp, h2⟩
  rw [mir__law_rows, run__law_rows]
  rw [show envOf 6 [.list (cs.map .int)] = [some (.d (.list (cs.map .int))), none, none, none, none, none, none] from rfl]
  refine fin_step (env1 := [some (.d (.list (cs.map .int))), some (.l []), none, none, none, none, none]) (by simp [sizeLine_eq]) ?_
  refine fin_step (env1 := [some (.d (.list (cs.map .int))), some (.l (rs.map fun r => .d (encW r))), x2, x3, x4, x5, x6]) (by rw [sFor_eq]; simp only [eB_eq, eVar_0, R.bind_ok, itD_list, R.st_ok]; exact e1) ?_
  simp [sRetV]
end G
set_option Elab.async false
set_option linter.all false
set_option maxRecDepth 100000
set_option maxHeartbeats 4000000
namespace G
open PySem PySem.Spec L2 Mir
def hO (h : Nd → PyData) (f : List Nd) : Ow := .l (f.map fun d => .d (h d))
def kO (h : Nd → PyData) (ks : List (List Nd)) : Ow := .l (ks.map (hO h))
def hT (d : Nd) : PyData := .str (tx (txN (tig d)))
def hW (d : Nd) : PyData := .str (tx (txN (wid d)))
def hD (d : Nd) : PyData := encT (trD d)
theorem shD_hO (h : Nd → PyData) (f : List Nd) : shD (hO h f) = .ok (.list (f.map h)) := unDs_of h f
theorem viewD_hO (h : Nd → PyData) (f : List Nd) : viewD (hO h f) = .list (f.map h) := viewD_of h f
theorem at_kO (h : Nd → PyData) {ks : List (List Nd)} {k : Nat} {b : List Nd} (hk : ks[k]? = some b) : atI (ks.map (hO h)) (k : Int) = some (hO h b) := atI_natD (by rw [List.getElem?_map, hk]; rfl)
theorem ins1_ok (h : Nd → PyData) {i up : Nat} {env : Ev} {ks : List (List Nd)} {g : Ev → R PyData} {f : Ev → R Ow} {node : Nd} {b : List Nd} (he : env[i]? = some (some (kO h ks))) (hg : g env = .ok (.int (up : Nat))) (hf : f env = .ok (.d (h node))) (hk : ks[up]? = some b) (hl : b.length ≤ 1000) :
    sIns1 i g 0 f env = .nx (env.set i (some (kO h (ks.set up (node :: b))))) := by
  have hu := (List.getElem?_eq_some_iff.mp hk).1
  unfold sIns1 own1 ownL
  have e1 : env[i]? = some (some (.l (ks.map (hO h)))) := he
  rw [e1]
  simp only [hg, R.st_ok, hf]
  have e2 : ixN (ks.map (hO h)).length (up : Int) = some up := ixN_nat (by rw [List.length_map]; exact hu)
  have e3 : (ks.map (hO h))[up]? = some (.l (b.map fun d => .d (h d))) := by rw [List.getElem?_map, hk]; rfl
  rw [e2]
  simp only [e3]
  have e4 : insO (b.map fun d => Ow.d (h d)) (.d (h node)) 0 = some ((node :: b).map fun d => Ow.d (h d)) := by
    unfold insO
    rw [if_pos ⟨by rw [List.length_map, sizeLine_eq]; omega, by decide, by decide⟩]
    rfl
  rw [e4]
  unfold kO
  rw [List.map_set]
  rfl
theorem good_small : ∀ (segs : List (Nat × List Nat)) (t : Nat), Good segs t → ∀ c ∈ build segs t, c < 1000
  | [], t, _, c, hc => by
    rw [build] at hc
    have := List.eq_of_mem_replicate hc
    omega
  | (b, w) :: r, t, hg, c, hc => by
    rw [build] at hc
    rcases List.mem_append.mp hc with h | h
    · have := List.eq_of_mem_replicate h
      omega
    · rcases List.mem_append.mp h with h | h
      · rcases hg.1 with ⟨d, hs, rfl⟩ | ⟨_, h2, _⟩ | ⟨_, _, rfl, h2, _⟩ | ⟨d, r, rfl, h2, _⟩
        · rw [List.mem_singleton] at h
          subst h
          simp [sigs] at hs
          omega
        · exact isL_small (h2 c h)
        · exact isF_small (h2 c h)
        · rcases List.mem_cons.mp h with h1 | h1
          · omega
          · exact isF_small (h2 c h1)
      · exact good_small r t hg.2.2 c h
theorem strOk_txN {T : LN} (ok : okN T) : PyData.strOk (tx (txN T)) = true := strOk_tx (good_small _ _ (good_tree T 0 0 ok))
theorem ne_nil {f : List Nd} (h : Nd → PyData) (hh : ∀ d ∈ f, (h d).canLay0 = true ∧ (h d).depth ≤ 100) : gNe (.list (f.map h)) (.list []) = some (.bool (!f.isEmpty)) := by
  have n0 : Nice (.list []) := ⟨rfl, by simp [PyData.depth, PyData.depthAll]⟩
  have n1 : Nice (.list (f.map h)) := by
    refine ⟨?_, ?_⟩
    · rw [PyData.canLay0]
      exact canAll_of _ fun d hd => by
        obtain ⟨x, hx, rfl⟩ := List.mem_map.mp hd
        exact (hh x hx).1
    · rw [PyData.depth]
      have := depthAll_of (n := 100) (f.map h) fun d hd => by
        obtain ⟨x, hx, rfl⟩ := List.mem_map.mp hd
        exact (hh x hx).2
      omega
  rw [gNe_nice n1 n0]
  cases f with
  | nil => simp [PyData.eqv, PyData.eqvAll]
  | cons d ds => simp [PyData.eqv, PyData.eqvAll]
/-- so many blanks of a written row of them -/
theorem blanks (m : Nat) (hm : m ≤ 10) {b : Nat} (h : b ≤ m) : gSl (.str (tx (List.replicate m 32))) none (some (b : Int)) = some (.d (.str (tx (List.replicate b 32)))) := by
  rw [gSl_to (by rw [List.length_replicate]; omega)]
  congr 4
  rw [List.take_replicate, Nat.min_eq_left h]
theorem sp2_is : (Str.ofString "  ") = tx (List.replicate 2 32) := by rw [tx_of (Str.ofString "  ")]; congr 1
theorem sp3_is : (Str.ofString "   ") = tx (List.replicate 3 32) := by rw [tx_of (Str.ofString "   ")]; congr 1
noncomputable abbrev bodyB : Ev → SR := (sSeq (sAsg (gtTup 4 (gtCons (gtName 6) (gtCons (gtName 7) (gtCons (gtName 8) (gtCons (gtName 9) gtNil))))) (eBin gIx (eVar 0) (eVar 5)))
    (sSeq (sSet 10 (eM (eVar 6) Ow.d))
    (sSeq (sSet 11 (eM (eM (eBinO gAdd (eB (eBinO gAdd (eVar 6) (eB (eSl (eC (.str "  ")) oNone (eB (eBin gMod (eVar 9) (eC (.int 3))) asI)) shD)) shD) (eB (eCa gStr (aCons (eVar 7) aNil)) shD)) viewD) Ow.d))
    (sSeq (sIf (eB (eBin gNe (eVar 7) (eC (.int 0))) asB)
    (sSet 10 (eM (eM (eBinO gAdd (eVar 10) (eB (eCa gStr (aCons (eVar 7) aNil)) shD)) viewD) Ow.d))
    (sIf (eB (eBin gEq (eBin gMod (eBin gDiv (eVar 9) (eC (.int 3))) (eC (.int 2))) (eC (.int 0))) asB)
    (sSet 11 (eM (eVar 6) Ow.d))
    sSkip))
    (sSeq (sIf (eB (eBin gNe (eM (eIxO (eVarO 1) (eVar 5)) viewD) (eM (eLst aNil) viewD)) asB)
    (sSeq (sSet 10 (eM (eM (eBinO gAdd (eB (eBinO gAdd (eB (eBinO gAdd (eVar 10) (eC (.str "("))) shD) (eJoin (eC (.str " ")) (eB (eIxO (eVarO 1) (eVar 5)) shD))) shD) (eC (.str ")"))) viewD) Ow.d))
    (sSeq (sSet 11 (eM (eM (eBinO gAdd (eB (eBinO gAdd (eB (eBinO gAdd (eVar 11) (eB (eSl (eC (.str " ")) oNone (eB (eBin gMod (eBin gDiv (eVar 9) (eC (.int 6))) (eC (.int 2))) asI)) shD)) shD) (eC (.str "("))) shD) (eB (eSl (eC (.str " ")) oNone (eB (eBin gMod (eBin gDiv (eVar 9) (eC (.int 12))) (eC (.int 2))) asI)) shD)) viewD) Ow.d))
    (sSeq (sSet 12 (eM (eM (eSl (eC (.str "   ")) oNone (eB (eM (eBinO gAdd (eC (.int 1)) (eBin gMod (eBin gDiv (eVar 9) (eC (.int 24))) (eC (.int 3)))) viewD) asI)) viewD) Ow.d))
    (sSet 11 (eM (eM (eBinO gAdd (eB (eBinO gAdd (eB (eBinO gAdd (eVar 11) (eJoin (eVar 12) (eB (eIxO (eVarO 3) (eVar 5)) shD))) shD) (eB (eSl (eC (.str " ")) oNone (eB (eBin gMod (eBin gDiv (eVar 9) (eC (.int 72))) (eC (.int 2))) asI)) shD)) shD) (eC (.str ")"))) viewD) Ow.d)))))
    sSkip)
    (sSeq (sIns1 1 (eVar 8) 0 (eM (eVar 10) Ow.d))
    (sSeq (sIns1 3 (eVar 8) 0 (eM (eVar 11) Ow.d))
    (sSeq (sSet 13 (eM (eTup (aCons (eVar 6) (aCons (eVar 7) (aCons (eM (eCa gTuple (aCons (eB (eIxO (eVarO 4) (eVar 5)) shD) aNil)) viewD) aNil)))) Ow.d))
    (sIns1 4 (eVar 8) 0 (eM (eVar 13) Ow.d))))))))))
theorem gm (u k : Nat) (hk : 0 < k) : gMod (.int (u : Int)) (.int (k : Int)) = some (.int ((u % k : Nat) : Int)) := by
  rw [gMod_int (by omega), Int.natCast_emod]
theorem gd (u k : Nat) (hk : 0 < k) (hb : k < 1000) : gDiv (.int (u : Int)) (.int (k : Int)) = some (.int ((u / k : Nat) : Int)) := by
  rw [gDiv_small (by omega) (by
    have : (1000 : Nat) < 2 ^ 250 := by decide
    omega), Int.natCast_ediv]
theorem body_ok (RD : PyData) (r : RW) (i k : Nat) (ks : List (List Nd)) (b b' : List Nd) (hr : gIx RD (.int (k : Nat)) = some (encW r)) (ok : RowOk i r) (hb : ks[k]? = some b) (hb' : ks[r.up]? = some b') (hl' : b'.length ≤ 900) (okb : okDs b) (hz : sizeTs (trDs b) ≤ 900) (hbl : b.length ≤ 900) (hlv : levTs (trDs b) ≤ 45) (x2 x6 x7 x8 x9 x10 x11 x12 x13 : Option Ow) :
    ∃ y12, bodyB [some (.d RD), some (kO hT ks), x2, some (kO hW ks), some (kO hD ks), some (.d (.int (k : Nat))), x6, x7, x8, x9, x10, x11, x12, x13] =
      .nx [some (.d RD), some (kO hT (ks.set r.up (.mk r.nm r.k r.u b :: b'))), x2, some (kO hW (ks.set r.up (.mk r.nm r.k r.u b :: b'))), some (kO hD (ks.set r.up (.mk r.nm r.k r.u b :: b'))), some (.d (.int (k : Nat))), some (.d (.str (tx r.nm))), some (.d (.int r.k)), some (.d (.int (r.up : Nat))), some (.d (.int (r.u : Nat))), some (.d (hT (.mk r.nm r.k r.u b))), some (.d (hW (.mk r.nm r.k r.u b))), y12, some (.d (hD (.mk r.nm r.k r.u b)))] := by
  obtain ⟨nm, mk, up, u⟩ := r
  obtain ⟨okn, okk, _⟩ := ok
  simp only at okn okk hb' ⊢
  have okd : okD (.mk nm mk u b) := by rw [okD]; exact ⟨okn, okk, by omega, okb⟩
  have szd : sizeT (trD (.mk nm mk u b)) ≤ 1000 := by rw [trD, sizeT]; omega
  have lt := txN_len _ (ok_tig _ okd)
  have lw := txN_len _ (ok_wid _ okd)
  rw [tr_tig] at lt
  rw [tr_wid] at lw
  have st := gStr_ik (k := mk) (by
      have : (10 : Nat) ^ 60 < 2 ^ 1000 := by decide +kernel
      omega)
  have il := ik_len okk
  have m3 := gm u 3 (by decide)
  have d3 := gd u 3 (by decide) (by decide)
  have m32 := gm (u / 3) 2 (by decide)
  have d6 := gd u 6 (by decide) (by decide)
  have m6 := gm (u / 6) 2 (by decide)
  have d12 := gd u 12 (by decide) (by decide)
  have m12 := gm (u / 12) 2 (by decide)
  have d24 := gd u 24 (by decide) (by decide)
  have m24 := gm (u / 24) 3 (by decide)
  have d72 := gd u 72 (by decide) (by decide)
  have m72 := gm (u / 72) 2 (by decide)
  obtain ⟨T, hT'⟩ : ∃ T, T = hT (.mk nm mk u b) := ⟨_, rfl⟩
  obtain ⟨W, hW'⟩ : ∃ W, W = hW (.mk nm mk u b) := ⟨_, rfl⟩
  obtain ⟨D, hD'⟩ : ∃ D, D = hD (.mk nm mk u b) := ⟨_, rfl⟩
  rw [← hT', ← hW', ← hD']
  have eT : T = .str (tx (nm ++ (mtx mk (if mk = 0 then none else some 0) ++ btx 0 0 1 0 ((tigs b).map txN)))) := by rw [hT', hT, tig, txN_mk]
  have eW : W = .str (tx (nm ++ (mtx mk (if mk = 0 ∧ u / 3 % 2 = 0 then none else some (u % 3)) ++ btx (u / 6 % 2) (u / 12 % 2) (1 + u / 24 % 3) (u / 72 % 2) ((wids b).map txN)))) := by rw [hW', hW, wid, txN_mk]
  have eD : D = .tuple [.str (tx nm), .int mk, .tuple (b.map hD)] := by rw [hD', hD, trD, encT_mk, trDs_map, List.map_map]; rfl
  rw [tig, txN_mk] at lt
  rw [wid, txN_mk] at lw
  simp only [List.length_append] at lt lw
  -- the blanks
  obtain ⟨w3, hw3, w3b⟩ : ∃ w, u % 3 = w ∧ w < 3 := ⟨_, rfl, Nat.mod_lt _ (by decide)⟩
  rw [hw3] at m3 eW lw
  obtain ⟨v3, hv3⟩ : ∃ v, u / 3 = v := ⟨_, rfl⟩
  rw [hv3] at d3 m32 eW lw
  obtain ⟨w32, hw32, w32b⟩ : ∃ w, v3 % 2 = w ∧ w < 2 := ⟨_, rfl, Nat.mod_lt _ (by decide)⟩
  rw [hw32] at m32 eW lw
  obtain ⟨v6, hv6⟩ : ∃ v, u / 6 = v := ⟨_, rfl⟩
  rw [hv6] at d6 m6 eW lw
  obtain ⟨w6, hw6, w6b⟩ : ∃ w, v6 % 2 = w ∧ w < 2 := ⟨_, rfl, Nat.mod_lt _ (by decide)⟩
  rw [hw6] at m6 eW lw
  obtain ⟨v12, hv12⟩ : ∃ v, u / 12 = v := ⟨_, rfl⟩
  rw [hv12] at d12 m12 eW lw
  obtain ⟨w12, hw12, w12b⟩ : ∃ w, v12 % 2 = w ∧ w < 2 := ⟨_, rfl, Nat.mod_lt _ (by decide)⟩
  rw [hw12] at m12 eW lw
  obtain ⟨v24, hv24⟩ : ∃ v, u / 24 = v := ⟨_, rfl⟩
  rw [hv24] at d24 m24 eW lw
  obtain ⟨w24, hw24, w24b⟩ : ∃ w, v24 % 3 = w ∧ w < 3 := ⟨_, rfl, Nat.mod_lt _ (by decide)⟩
  rw [hw24] at m24 eW lw
  obtain ⟨v72, hv72⟩ : ∃ v, u / 72 = v := ⟨_, rfl⟩
  rw [hv72] at d72 m72 eW lw
  obtain ⟨w72, hw72, w72b⟩ : ∃ w, v72 % 2 = w ∧ w < 2 := ⟨_, rfl, Nat.mod_lt _ (by decide)⟩
  rw [hw72] at m72 eW lw
  clear hw3 hv3 hw32 hv6 hw6 hv12 hw12 hv24 hw24 hv72 hw72
  have b3 := blanks 2 (by decide) (b := w3) (by omega)
  have b6 := blanks 1 (by decide) (b := w6) (by omega)
  have b12 := blanks 1 (by decide) (b := w12) (by omega)
  have b24 := blanks 3 (by decide) (b := 1 + w24) (by omega)
  have b72 := blanks 1 (by decide) (b := w72) (by omega)
  rw [← sp2_is] at b3
  rw [← sp1_is] at b6 b12 b72
  rw [← sp3_is] at b24
  rw [show ((1 + w24 : Nat) : Int) = 1 + (w24 : Int) from by omega] at b24
  obtain ⟨B, hB⟩ : ∃ B, B = btx 0 0 1 0 ((tigs b).map txN) := ⟨_, rfl⟩
  obtain ⟨C, hC⟩ : ∃ C, C = btx w6 w12 (1 + w24) w72 ((wids b).map txN) := ⟨_, rfl⟩
  rw [← hB] at eT lt
  rw [← hC] at eW lw
  obtain ⟨M, hM⟩ : ∃ M, M = mtx mk (if mk = 0 then none else some 0) := ⟨_, rfl⟩
  obtain ⟨N, hN⟩ : ∃ N, N = mtx mk (if mk = 0 ∧ w32 = 0 then none else some w3) := ⟨_, rfl⟩
  rw [← hM] at eT lt
  rw [← hN] at eW lw
  have sT := shD_hO hT b
  have sW := shD_hO hW b
  have sD := shD_hO hD b
  have vT := viewD_hO hT b
  have aT := at_kO hT hb
  have aW := at_kO hW hb
  have aD := at_kO hD hb
  have ne := ne_nil (f := b) hT (fun d hd => ⟨by
    have := strOk_txN (ok_tig d ((okDs_iff b).mp okb d hd))
    simp [hT, PyData.canLay0, this], by simp [hT, PyData.depth]⟩)
  -- steps
  refine ⟨if b.isEmpty then x12 else some (.d (.str (tx (List.replicate (1 + w24) 32)))), ?_⟩
  refine seq_nx (env1 := [some (.d RD), some (kO hT ks), x2, some (kO hW ks), some (kO hD ks), some (.d (.int (k : Nat))), some (.d (.str (tx nm))), some (.d (.int mk)), some (.d (.int (up : Nat))), some (.d (.int (u : Nat))), x10, x11, x12, x13]) (by simp [hr, encW]) ?_
  refine seq_nx (env1 := [some (.d RD), some (kO hT ks), x2, some (kO hW ks), some (kO hD ks), some (.d (.int (k : Nat))), some (.d (.str (tx nm))), some (.d (.int mk)), some (.d (.int (up : Nat))), some (.d (.int (u : Nat))), some (.d (.str (tx nm))), x11, x12, x13]) (by simp) ?_
  obtain ⟨A3, hA3⟩ : ∃ A, A = nm ++ List.replicate w3 32 := ⟨_, rfl⟩
  obtain ⟨A4, hA4⟩ : ∃ A, A = A3 ++ ik mk := ⟨_, rfl⟩
  have g1 := gAdd_tx (a := nm) (b := List.replicate w3 32) (by rw [List.length_replicate]; omega)
  have g2 := gAdd_tx (a := A3) (b := ik mk) (by rw [hA3, List.length_append, List.length_replicate]; omega)
  rw [← hA3] at g1
  rw [← hA4] at g2
  refine seq_nx (env1 := [some (.d RD), some (kO hT ks), x2, some (kO hW ks), some (kO hD ks), some (.d (.int (k : Nat))), some (.d (.str (tx nm))), some (.d (.int mk)), some (.d (.int (up : Nat))), some (.d (.int (u : Nat))), some (.d (.str (tx nm))), some (.d (.str (tx A4))), x12, x13]) (by
    rw [show ((3 : Nat) : Int) = 3 from rfl] at m3
    simp [m3, b3, g1, g2, st]) ?_
  refine seq_nx (env1 := [some (.d RD), some (kO hT ks), x2, some (kO hW ks), some (kO hD ks), some (.d (.int (k : Nat))), some (.d (.str (tx nm))), some (.d (.int mk)), some (.d (.int (up : Nat))), some (.d (.int (u : Nat))), some (.d (.str (tx (nm ++ M)))), some (.d (.str (tx (nm ++ N)))), x12, x13]) (by
    rw [show ((3 : Nat) : Int) = 3 from rfl] at d3
    rw [show ((2 : Nat) : Int) = 2 from rfl] at m32
    by_cases c1 : mk = 0
    · have eM : M = [] := by rw [hM, if_pos c1]; rfl
      by_cases c2 : w32 = 0
      · have eN : N = [] := by rw [hN, if_pos ⟨c1, c2⟩]; rfl
        rw [eM, eN, List.append_nil]
        subst c1 c2
        simp [d3, m32]
      · have eN : nm ++ N = A4 := by rw [hN, if_neg (fun z => c2 z.2), hA4, hA3, mtx, List.append_assoc]
        have c3 : ¬ ((w32 : Int) = 0) := by omega
        rw [eM, eN, List.append_nil]
        subst c1
        simp [d3, m32, c3]
        exact fun h => absurd h c2
    · have eM : M = ik mk := by rw [hM, if_neg c1, mtx]; simp
      have eN : nm ++ N = A4 := by rw [hN, if_neg (fun z => c1 z.1), hA4, hA3, mtx, List.append_assoc]
      have g3 := gAdd_tx (a := nm) (b := ik mk) (by omega)
      rw [eM, eN]
      simp [c1, st, g3]) ?_
  have stepE : (sIf (eB (eBin gNe (eM (eIxO (eVarO 1) (eVar 5)) viewD) (eM (eLst aNil) viewD)) asB)
    (sSeq (sSet 10 (eM (eM (eBinO gAdd (eB (eBinO gAdd (eB (eBinO gAdd (eVar 10) (eC (.str "("))) shD) (eJoin (eC (.str " ")) (eB (eIxO (eVarO 1) (eVar 5)) shD))) shD) (eC (.str ")"))) viewD) Ow.d))
    (sSeq (sSet 11 (eM (eM (eBinO gAdd (eB (eBinO gAdd (eB (eBinO gAdd (eVar 11) (eB (eSl (eC (.str " ")) oNone (eB (eBin gMod (eBin gDiv (eVar 9) (eC (.int 6))) (eC (.int 2))) asI)) shD)) shD) (eC (.str "("))) shD) (eB (eSl (eC (.str " ")) oNone (eB (eBin gMod (eBin gDiv (eVar 9) (eC (.int 12))) (eC (.int 2))) asI)) shD)) viewD) Ow.d))
    (sSeq (sSet 12 (eM (eM (eSl (eC (.str "   ")) oNone (eB (eM (eBinO gAdd (eC (.int 1)) (eBin gMod (eBin gDiv (eVar 9) (eC (.int 24))) (eC (.int 3)))) viewD) asI)) viewD) Ow.d))
    (sSet 11 (eM (eM (eBinO gAdd (eB (eBinO gAdd (eB (eBinO gAdd (eVar 11) (eJoin (eVar 12) (eB (eIxO (eVarO 3) (eVar 5)) shD))) shD) (eB (eSl (eC (.str " ")) oNone (eB (eBin gMod (eBin gDiv (eVar 9) (eC (.int 72))) (eC (.int 2))) asI)) shD)) shD) (eC (.str ")"))) viewD) Ow.d)))))
    sSkip) [some (.d RD), some (kO hT ks), x2, some (kO hW ks), some (kO hD ks), some (.d (.int (k : Nat))), some (.d (.str (tx nm))), some (.d (.int mk)), some (.d (.int (up : Nat))), some (.d (.int (u : Nat))), some (.d (.str (tx (nm ++ M)))), some (.d (.str (tx (nm ++ N)))), x12, x13] =
      .nx [some (.d RD), some (kO hT ks), x2, some (kO hW ks), some (kO hD ks), some (.d (.int (k : Nat))), some (.d (.str (tx nm))), some (.d (.int mk)), some (.d (.int (up : Nat))), some (.d (.int (u : Nat))), some (.d T), some (.d W), if b.isEmpty then x12 else some (.d (.str (tx (List.replicate (1 + w24) 32)))), x13] := by
    obtain ⟨KT, hKT⟩ : ∃ K, K = ks.map (hO hT) := ⟨_, rfl⟩
    obtain ⟨KW, hKW⟩ : ∃ K, K = ks.map (hO hW) := ⟨_, rfl⟩
    obtain ⟨OT, hOT⟩ : ∃ K, K = hO hT b := ⟨_, rfl⟩
    obtain ⟨OW, hOW⟩ : ∃ K, K = hO hW b := ⟨_, rfl⟩
    have k1 : kO hT ks = .l KT := by rw [hKT]; rfl
    have k2 : kO hW ks = .l KW := by rw [hKW]; rfl
    rw [k1, k2]
    rw [← hKT, ← hOT] at aT
    rw [← hKW, ← hOW] at aW
    rw [← hOT] at sT vT
    rw [← hOW] at sW
    clear hKT hKW hOT hOW k1 k2
    have lsn : viewD (.l []) = .list [] := by simp
    cases hb0 : b with
    | nil =>
      rw [hb0] at ne hB hC vT
      have eB : B = [] := by rw [hB, tigs]; rfl
      have eC : C = [] := by rw [hC, wids]; rfl
      rw [eT, eW, eB, eC, List.append_nil, List.append_nil]
      simp only [List.map_nil, List.isEmpty_nil, Bool.not_true] at ne vT
      simp [aT, vT, ne, lsn, sizeLine_eq]
    | cons d ds =>
      have emp : b.isEmpty = false := by rw [hb0]; rfl
      rw [← hb0, emp]
      rw [emp] at ne
      have jo1 := join_ok 1 (by decide) (tigs b) (ok_tigs b okb) (by rw [tr_tigs]; omega)
      rw [tigs_map, List.map_map] at jo1
      have e3 : (b.map ((fun T => PyData.str (tx (txN T))) ∘ tig)) = b.map hT := rfl
      rw [e3, ← tigs_map] at jo1
      have jo2 := join_ok (1 + w24) (by omega) (wids b) (ok_wids b okb) (by rw [tr_wids]; omega)
      rw [wids_map, List.map_map] at jo2
      have e4 : (b.map ((fun T => PyData.str (tx (txN T))) ∘ wid)) = b.map hW := rfl
      rw [e4, ← wids_map] at jo2
      obtain ⟨GT, hGT⟩ : ∃ G, G = glue (List.replicate 1 32) ((tigs b).map txN) := ⟨_, rfl⟩
      obtain ⟨GW, hGW⟩ : ∃ G, G = glue (List.replicate (1 + w24) 32) ((wids b).map txN) := ⟨_, rfl⟩
      rw [← hGT] at jo1
      rw [← hGW] at jo2
      have eB : B = [40] ++ (GT ++ [41]) := by rw [hB, hGT, hb0, tigs, List.map_cons, btx]; simp
      have eC : C = List.replicate w6 32 ++ ([40] ++ (List.replicate w12 32 ++ (GW ++ (List.replicate w72 32 ++ [41])))) := by rw [hC, hGW, hb0, wids, List.map_cons, btx]
      rw [eB] at lt eT
      rw [eC] at lw eW
      simp only [List.length_append, List.length_replicate, List.length_cons, List.length_nil] at lt lw
      have LM : (nm ++ M).length = nm.length + M.length := List.length_append
      have LN' : (nm ++ N).length = nm.length + N.length := List.length_append
      obtain ⟨P0, hP0⟩ : ∃ A, A = nm ++ M := ⟨_, rfl⟩
      obtain ⟨Q0, hQ0⟩ : ∃ A, A = nm ++ N := ⟨_, rfl⟩
      rw [← hP0] at LM ⊢
      rw [← hQ0] at LN' ⊢
      obtain ⟨P1, hP1⟩ : ∃ A, A = P0 ++ [40] := ⟨_, rfl⟩
      obtain ⟨P2, hP2⟩ : ∃ A, A = P1 ++ GT := ⟨_, rfl⟩
      obtain ⟨P3, hP3⟩ : ∃ A, A = P2 ++ [41] := ⟨_, rfl⟩
      have p1 := gAdd_tx (a := P0) (b := [40]) (by simp; omega)
      rw [← hP1] at p1
      have L1 : P1.length = P0.length + 1 := by rw [hP1]; simp
      have p2 := gAdd_tx (a := P1) (b := GT) (by omega)
      rw [← hP2] at p2
      have L2' : P2.length = P1.length + GT.length := by rw [hP2]; simp
      have p3 := gAdd_tx (a := P2) (b := [41]) (by simp; omega)
      rw [← hP3] at p3
      have ePT : T = .str (tx P3) := by rw [eT, hP3, hP2, hP1, hP0]; simp
      obtain ⟨R6, hR6⟩ : ∃ A, A = List.replicate w6 32 := ⟨_, rfl⟩
      obtain ⟨R12, hR12⟩ : ∃ A, A = List.replicate w12 32 := ⟨_, rfl⟩
      obtain ⟨R72, hR72⟩ : ∃ A, A = List.replicate w72 32 := ⟨_, rfl⟩
      obtain ⟨R24, hR24⟩ : ∃ A, A = List.replicate (1 + w24) 32 := ⟨_, rfl⟩
      have l6 : R6.length = w6 := by rw [hR6, List.length_replicate]
      have l12 : R12.length = w12 := by rw [hR12, List.length_replicate]
      have l72 : R72.length = w72 := by rw [hR72, List.length_replicate]
      rw [← hR6] at b6 eW
      rw [← hR12] at b12 eW
      rw [← hR72] at b72 eW
      rw [← hR24] at b24 jo2 ⊢
      obtain ⟨Q1, hQ1⟩ : ∃ A, A = Q0 ++ R6 := ⟨_, rfl⟩
      obtain ⟨Q2, hQ2⟩ : ∃ A, A = Q1 ++ [40] := ⟨_, rfl⟩
      obtain ⟨Q3, hQ3⟩ : ∃ A, A = Q2 ++ R12 := ⟨_, rfl⟩
      obtain ⟨Q4, hQ4⟩ : ∃ A, A = Q3 ++ GW := ⟨_, rfl⟩
      obtain ⟨Q5, hQ5⟩ : ∃ A, A = Q4 ++ R72 := ⟨_, rfl⟩
      obtain ⟨Q6, hQ6⟩ : ∃ A, A = Q5 ++ [41] := ⟨_, rfl⟩
      have q1 := gAdd_tx (a := Q0) (b := R6) (by omega)
      rw [← hQ1] at q1
      have M1 : Q1.length = Q0.length + R6.length := by rw [hQ1]; simp
      have q2 := gAdd_tx (a := Q1) (b := [40]) (by simp; omega)
      rw [← hQ2] at q2
      have M2 : Q2.length = Q1.length + 1 := by rw [hQ2]; simp
      have q3 := gAdd_tx (a := Q2) (b := R12) (by omega)
      rw [← hQ3] at q3
      have M3 : Q3.length = Q2.length + R12.length := by rw [hQ3]; simp
      have q4 := gAdd_tx (a := Q3) (b := GW) (by omega)
      rw [← hQ4] at q4
      have M4 : Q4.length = Q3.length + GW.length := by rw [hQ4]; simp
      have q5 := gAdd_tx (a := Q4) (b := R72) (by omega)
      rw [← hQ5] at q5
      have M5 : Q5.length = Q4.length + R72.length := by rw [hQ5]; simp
      have q6 := gAdd_tx (a := Q5) (b := [41]) (by simp; omega)
      rw [← hQ6] at q6
      have eQW : W = .str (tx Q6) := by rw [eW, hQ6, hQ5, hQ4, hQ3, hQ2, hQ1, hQ0]; simp
      rw [ePT, eQW]
      clear ePT eQW eT eW eB eC hQ6 hQ5 hQ4 hQ3 hQ2 hQ1 hQ0 hP3 hP2 hP1 hP0 hR6 hR12 hR72 hR24 hGT hGW
      obtain ⟨LT, hLT⟩ : ∃ L, L = b.map hT := ⟨_, rfl⟩
      obtain ⟨LW, hLW⟩ : ∃ L, L = b.map hW := ⟨_, rfl⟩
      rw [← hLT] at sT vT ne jo1
      rw [← hLW] at sW jo2
      have c0 : (eB (eBin gNe (eM (eIxO (eVarO 1) (eVar 5)) viewD) (eM (eLst aNil) viewD)) asB) [some (.d RD), some (.l KT), x2, some (.l KW), some (kO hD ks), some (.d (.int (k : Nat))), some (.d (.str (tx nm))), some (.d (.int mk)), some (.d (.int (up : Nat))), some (.d (.int (u : Nat))), some (.d (.str (tx P0))), some (.d (.str (tx Q0))), x12, x13] = .ok true := by
        simp [aT, vT, ne, lsn, sizeLine_eq]
      rw [sIf_eq, c0, R.st_ok, if_pos rfl]
      have ej1 : eJoin (eC (.str " ")) (eB (eIxO (eVarO 1) (eVar 5)) shD) [some (.d RD), some (.l KT), x2, some (.l KW), some (kO hD ks), some (.d (.int (k : Nat))), some (.d (.str (tx nm))), some (.d (.int mk)), some (.d (.int (up : Nat))), some (.d (.int (u : Nat))), some (.d (.str (tx P0))), some (.d (.str (tx Q0))), x12, x13] = .ok (.str (tx GT)) := by
        rw [eJoin_eq (a := tx (List.replicate 1 32)) (d := .list LT) (by rw [← sp1_is]; rfl) (by simp [aT, sT]), jo1]
        rfl
      refine seq_nx (env1 := [some (.d RD), some (.l KT), x2, some (.l KW), some (kO hD ks), some (.d (.int (k : Nat))), some (.d (.str (tx nm))), some (.d (.int mk)), some (.d (.int (up : Nat))), some (.d (.int (u : Nat))), some (.d (.str (tx P3))), some (.d (.str (tx Q0))), x12, x13]) (by simp [ej1, op_is, cl_is, p1, p2, p3]) ?_
      refine seq_nx (env1 := [some (.d RD), some (.l KT), x2, some (.l KW), some (kO hD ks), some (.d (.int (k : Nat))), some (.d (.str (tx nm))), some (.d (.int mk)), some (.d (.int (up : Nat))), some (.d (.int (u : Nat))), some (.d (.str (tx P3))), some (.d (.str (tx Q3))), x12, x13]) (by
        rw [show ((6 : Nat) : Int) = 6 from rfl] at d6
        rw [show ((2 : Nat) : Int) = 2 from rfl] at m6 m12
        rw [show ((12 : Nat) : Int) = 12 from rfl] at d12
        simp [d6, m6, b6, d12, m12, b12, op_is, q1, q2, q3]) ?_
      refine seq_nx (env1 := [some (.d RD), some (.l KT), x2, some (.l KW), some (kO hD ks), some (.d (.int (k : Nat))), some (.d (.str (tx nm))), some (.d (.int mk)), some (.d (.int (up : Nat))), some (.d (.int (u : Nat))), some (.d (.str (tx P3))), some (.d (.str (tx Q3))), some (.d (.str (tx R24))), x13]) (by
        rw [show ((24 : Nat) : Int) = 24 from rfl] at d24
        rw [show ((3 : Nat) : Int) = 3 from rfl] at m24
        simp [d24, m24, b24]) ?_
      have ej2 : eJoin (eVar 12) (eB (eIxO (eVarO 3) (eVar 5)) shD) [some (.d RD), some (.l KT), x2, some (.l KW), some (kO hD ks), some (.d (.int (k : Nat))), some (.d (.str (tx nm))), some (.d (.int mk)), some (.d (.int (up : Nat))), some (.d (.int (u : Nat))), some (.d (.str (tx P3))), some (.d (.str (tx Q3))), some (.d (.str (tx R24))), x13] = .ok (.str (tx GW)) := by
        rw [eJoin_eq (a := tx R24) (d := .list LW) (by simp) (by simp [aW, sW]), jo2]
        rfl
      rw [show ((72 : Nat) : Int) = 72 from rfl] at d72
      rw [show ((2 : Nat) : Int) = 2 from rfl] at m72
      simp [ej2, d72, m72, b72, cl_is, q4, q5, q6]
  refine seq_nx stepE ?_
  generalize (if b.isEmpty = true then x12 else some (Ow.d (.str (tx (List.replicate (1 + w24) 32))))) = y12
  refine seq_nx (ins1_ok hT (node := .mk nm mk u b) rfl (by simp) (by rw [← hT']; simp) hb' (by omega)) ?_
  simp only [List.set_cons_succ, List.set_cons_zero]
  refine seq_nx (ins1_ok hW (node := .mk nm mk u b) rfl (by simp) (by rw [← hW']; simp) hb' (by omega)) ?_
  simp only [List.set_cons_succ, List.set_cons_zero]
  refine seq_nx (env1 := [some (.d RD), some (kO hT (ks.set up (.mk nm mk u b :: b'))), x2, some (kO hW (ks.set up (.mk nm mk u b :: b'))), some (kO hD ks), some (.d (.int (k : Nat))), some (.d (.str (tx nm))), some (.d (.int mk)), some (.d (.int (up : Nat))), some (.d (.int (u : Nat))), some (.d T), some (.d W), y12, some (.d D)]) (by
    obtain ⟨KD, hKD⟩ : ∃ K, K = ks.map (hO hD) := ⟨_, rfl⟩
    have k1 : kO hD ks = .l KD := by rw [hKD]; rfl
    rw [k1]
    rw [← hKD] at aD
    generalize hO hD b = OD at aD sD
    rw [eD]
    generalize b.map hD = LD at sD
    generalize kO hT (ks.set up (.mk nm mk u b :: b')) = Z1
    generalize kO hW (ks.set up (.mk nm mk u b :: b')) = Z2
    simp [aD, sD, sizeLine_eq]) ?_
  rw [ins1_ok hD (node := .mk nm mk u b) (up := up) (b := b') (ks := ks) rfl (by simp) (by rw [← hD']; simp) hb' (by omega)]
  rfl
end G
set_option Elab.async false
set_option linter.all false
set_option maxRecDepth 100000
set_option maxHeartbeats 4000000
namespace G
open PySem PySem.Spec L2 Mir
theorem sum_set {α : Type} (f : α → Nat) : ∀ (l : List α) (i : Nat) (x y : α), l[i]? = some y → ((l.set i x).map f).sum + f y = (l.map f).sum + f x
  | [], i, x, y, h => by simp at h
  | a :: l, 0, x, y, h => by
    simp at h
    subst h
    rw [List.set_cons_zero, List.map_cons, List.map_cons, List.sum_cons, List.sum_cons]
    omega
  | a :: l, i + 1, x, y, h => by
    rw [List.set_cons_succ, List.map_cons, List.map_cons, List.sum_cons, List.sum_cons]
    have := sum_set f l i x y (by simpa using h)
    omega
theorem mem_sum {α : Type} (f : α → Nat) : ∀ (l : List α) (y : α), y ∈ l → f y ≤ (l.map f).sum
  | [], y, h => by cases h
  | a :: l, y, h => by
    rw [List.map_cons, List.sum_cons]
    rcases List.mem_cons.mp h with rfl | h
    · omega
    · have := mem_sum f l y h
      omega
def szf (f : List Nd) : Nat := sizeTs (trDs f)
theorem sizeT_pos : ∀ t : Tr, 1 ≤ sizeT t
  | .mk nm k bs => by rw [sizeT]; omega
theorem len_szf : ∀ f : List Nd, f.length ≤ szf f
  | [] => by simp
  | d :: f => by
    unfold szf
    rw [trDs, sizeTs, List.length_cons]
    have := len_szf f
    unfold szf at this
    have := sizeT_pos (trD d)
    omega
mutual
theorem lev_size : ∀ t : Tr, levT t ≤ sizeT t
  | .mk nm k bs => by rw [levT, sizeT]; have := levs_size bs; omega
theorem levs_size : ∀ bs : List Tr, levTs bs ≤ sizeTs bs
  | [] => by rw [levTs]; omega
  | b :: bs => by rw [levTs, sizeTs]; have := lev_size b; have := levs_size bs; omega
end
mutual
theorem seg_len : ∀ (b : Nat) (T : LN), (sgN b T).length ≤ 4 * sizeT (trN T)
  | b, .mk nm k mb o i g c bs => by
    rw [sgN, trN, sizeT, List.length_cons, List.length_append]
    have h1 : (mkS k mb).length ≤ 1 := by cases mb <;> simp [mkS]
    have h2 : (brk o c (sgNs i g bs)).length ≤ (sgNs i g bs).length + 2 := by
      cases h : sgNs i g bs with
      | nil => simp [brk]
      | cons s ss => simp [brk]
    have := segs_len i g bs
    omega
theorem segs_len : ∀ (i g : Nat) (bs : List LN), (sgNs i g bs).length ≤ 4 * sizeTs (trNs bs)
  | i, g, [] => by rw [sgNs]; simp
  | i, g, b :: bs => by
    rw [sgNs, trNs, sizeTs, List.length_append]
    have := seg_len i b
    have := segs_len g g bs
    omega
end
theorem take_sum {α : Type} (f : α → Nat) {xs : List α} {i : Nat} {x : α} (h : xs[i]? = some x) : ((xs.map f).take (i + 1)).sum = ((xs.map f).take i).sum + f x := by
  rw [List.take_add_one, List.getElem?_map, h]
  simp
theorem size_run (m : Nat → List PyData → R Ow) (nm : Str) (k : Int) (bs : List Tr) (h : ∀ b ∈ bs, m 0 [encT b] = .ok (.d (.int (sizeT b)))) : runB 2 (b_size m) [encT (.mk nm k bs)] = .ok (.d (.int (sizeT (.mk nm k bs)))) := by
  have key := forL_ind (g := gtName 2) (f := sAug gAddA 1 (eM (eB (aCons (eVar 2) aNil) (m 0)) viewD)) (bs.map encT)
    (fun i env => ∃ x, env = [some (.d (encT (.mk nm k bs))), some (.d (.int ((1 + ((bs.map sizeT).take i).sum : Nat) : Int))), x]) (fun i d env hd ⟨x, he⟩ => by
      obtain ⟨b, hb, rfl⟩ := map_at hd
      subst he
      refine ⟨_, rfl, [some (.d (encT (.mk nm k bs))), some (.d (.int ((1 + ((bs.map sizeT).take (i + 1)).sum : Nat) : Int))), some (.d (encT b))], .inl ?_, _, rfl⟩
      have := h b (List.mem_of_getElem? hb)
      simp [this, take_sum sizeT hb]
      omega) [some (.d (encT (.mk nm k bs))), some (.d (.int 1)), none] ⟨none, by simp⟩
  obtain ⟨env', e1, x, e2⟩ := key
  subst e2
  rw [run_size]
  rw [List.length_map, List.take_of_length_le (by simp)] at e1
  rw [encT_mk] at e1 ⊢
  simp [e1]
  rw [sizeT, sizeTs_sum]
  omega
theorem size_ok : ∀ (n : Nat) (t : Tr), levT t ≤ n → mir n 0 [encT t] = .ok (.d (.int (sizeT t)))
  | 0, .mk nm k bs, h => by rw [levT] at h; omega
  | n + 1, .mk nm k bs, h => by
    rw [levT] at h
    exact size_run (mir n) nm k bs fun b hb => size_ok n b (levTs_le (by omega) b hb)
theorem read_ok (n : Nat) (T : LN) (b t : Nat) (ok : okN T) (hl : levT (trN T) ≤ 40) (hz : sizeT (trN T) ≤ 200) (hb : b ≤ 10) (ht : t ≤ 10) : mir (n + 45) 7 [.str (tx (build (sgN b T) t))] = .ok (.d (encT (trN T))) := by
  have hg := good_tree T b t ok
  have sl := seg_len b T
  have bl : (build (sgN b T) t).length ≤ 900000 := by
    have e : build (sgN b T) t = build (sgN b T) 0 ++ build [] t := by
      have := build_app (sgN b T) [] t
      rw [List.append_nil] at this
      exact this
    have := txN_len T ok
    rw [e, build_sgN, build]
    simp only [List.length_append, List.length_replicate]
    omega
  have wo := words_ok (n + 41) (sgN b T) t hg (by omega) bl
  have wo : mir (n + 44) 3 [.str (tx (build (sgN b T) t))] = .ok (.l ((sgN b T).map fun s => .d (.str (tx s.2)))) := wo
  have vw := viewD_of (fun s : Nat × List Nat => PyData.str (tx s.2)) (sgN b T)
  have er : PyData.list ((sgN b T).map fun s => .str (tx s.2)) = rowD (wN T) := by
    rw [← sgN_w b T, rowD, List.map_map]
    rfl
  rw [er] at vw
  have wl : (wN T).length ≤ 1000 := by rw [← sgN_w b T, List.length_map]; omega
  have rd := reads_ok (n + 43) T 1 (by omega) (by omega) ok (wN T) [] [] (by omega) (by simp) (fun w h => by simp at h)
  have rd : mir (n + 44) 6 [rowD (wN T), .int 0, .int 1] = .ok (.d (.tuple [encT (trN T), .int ((([] : List (List Nat)).length + (wN T).length : Nat) : Int)])) := rd
  rw [List.length_nil, Nat.zero_add] at rd
  have gl := gLen_row (wN T)
  have sz := size_ok (n + 44) (trN T) (by omega)
  rw [mir_read_tree, run_read_tree]
  generalize ((sgN b T).map fun s => Ow.d (PyData.str (tx s.2))) = os at wo vw
  generalize rowD (wN T) = RD at vw rd gl
  rw [show envOf 3 [PyData.str (tx (build (sgN b T) t))] = [some (.d (.str (tx (build (sgN b T) t)))), none, none, none] from rfl]
  refine fin_step (env1 := [some (.d (.str (tx (build (sgN b T) t)))), some (.d RD), none, none]) (by simp [wo, vw]) ?_
  refine fin_step (env1 := [some (.d (.str (tx (build (sgN b T) t)))), some (.d RD), some (.d (encT (trN T))), some (.d (.int ((wN T).length : Nat)))]) (by simp [rd]) ?_
  have z2 : ¬ ((200 : Int) < ((sizeT (trN T) : Nat) : Int)) := by omega
  refine fin_step (env1 := [some (.d (.str (tx (build (sgN b T) t)))), some (.d RD), some (.d (encT (trN T))), some (.d (.int ((wN T).length : Nat)))]) (by
    have : ((sizeT (trN T) : Nat) : Int) ≤ 200 := by omega
    simp [gl, sz, this]) ?_
  simp
theorem texts_ok (n : Nat) (rs : List RW) (hl : rs.length ≤ 40) (h0 : 0 < rs.length) (hr : ∀ (i : Nat) (r : RW), rs[i]? = some r → RowOk i r) :
    ∃ d : Nd, okD d ∧ sizeT (trD d) ≤ 40 ∧ mir (n + 1) 11 [.list (rs.map encW)] = .ok (.d (.tuple [hD d, hT d, hW d])) := by
  obtain ⟨RD, hRD⟩ : ∃ d, d = PyData.list (rs.map encW) := ⟨_, rfl⟩
  have row : ∀ (u : Nat) (r : RW), rs[u]? = some r → gIx RD (.int (u : Nat)) = some (encW r) := fun u r h => by
    rw [hRD]
    exact atI_natD (by rw [List.getElem?_map, h]; rfl)
  have key := forL_ind (g := gtName 5) (f := bodyB) (rangeCD ((rs.length : Int) - 1) (-1) rs.length)
    (fun i env => ∃ (ks : List (List Nd)) (x5 x6 x7 x8 x9 x10 x11 x12 x13 : Option Ow), env = [some (.d RD), some (kO hT ks), none, some (kO hW ks), some (kO hD ks), x5, x6, x7, x8, x9, x10, x11, x12, x13] ∧ ks.length = rs.length ∧ (∀ f ∈ ks, okDs f) ∧ ((ks.take (rs.length - i)).map szf).sum ≤ i ∧
      (0 < i → ∃ d : Nd, okD d ∧ sizeT (trD d) ≤ i ∧ x10 = some (.d (hT d)) ∧ x11 = some (.d (hW d)) ∧ x13 = some (.d (hD d)))) (fun i d env hd hI => by
      obtain ⟨ks, x5, x6, x7, x8, x9, x10, x11, x12, x13, he, kl, ko, ks0, hx⟩ := hI
      clear hx
      obtain ⟨hi, ed⟩ := rangeCD_at hd
      obtain ⟨k, hk⟩ : ∃ k : Nat, k = rs.length - 1 - i := ⟨_, rfl⟩
      have ed : d = .int (k : Nat) := by
        rw [ed]
        congr 1
        omega
      subst ed he
      have hkl : k < rs.length := by omega
      obtain ⟨r, hrk⟩ : ∃ r, rs[k]? = some r := ⟨_, List.getElem?_eq_getElem hkl⟩
      have rok := hr k r hrk
      have upk : r.up ≤ k := rok.2.2.1
      obtain ⟨b, hb⟩ : ∃ b, ks[k]? = some b := ⟨_, List.getElem?_eq_getElem (by omega)⟩
      obtain ⟨b', hb'⟩ : ∃ b', ks[r.up]? = some b' := ⟨_, List.getElem?_eq_getElem (by omega)⟩
      have ek : rs.length - i = k + 1 := by omega
      have ek2 : rs.length - (i + 1) = k := by omega
      rw [ek] at ks0
      have s1 : ((ks.take (k + 1)).map szf).sum = ((ks.take k).map szf).sum + szf b := by
        rw [List.take_add_one, hb, List.map_append, List.sum_append]
        simp
      have sb : szf b ≤ i := by omega
      have sb' : szf b' ≤ i := by
        have hm : b' ∈ ks.take (k + 1) := List.mem_of_getElem? (i := r.up) (by rw [List.getElem?_take_of_lt (by omega)]; exact hb')
        have := mem_sum szf _ _ hm
        omega
      have lb := len_szf b
      have lb' := len_szf b'
      have okb := ko b (List.mem_of_getElem? hb)
      have okb' := ko b' (List.mem_of_getElem? hb')
      have lvb := levs_size (trDs b)
      have okd : okD (.mk r.nm r.k r.u b) := by rw [okD]; exact ⟨rok.1, rok.2.1, by omega, okb⟩
      obtain ⟨y12, e⟩ := body_ok RD r k k ks b b' (row k r hrk) rok hb hb' (by omega) okb (by unfold szf at sb; omega) (by omega) (by unfold szf at sb; omega) none x6 x7 x8 x9 x10 x11 x12 x13
      refine ⟨_, rfl, _, .inl e, ks.set r.up (.mk r.nm r.k r.u b :: b'), _, _, _, _, _, _, _, _, _, rfl, by rw [List.length_set]; exact kl, fun f hf => ?_, ?_, fun _ => ⟨_, okd, ?_, rfl, rfl, rfl⟩⟩
      · rcases List.mem_or_eq_of_mem_set hf with h | h
        · exact ko f h
        · rw [h, okDs]; exact ⟨okd, okb'⟩
      · rw [ek2]
        rw [List.take_set]
        by_cases z : r.up < k
        · have := sum_set szf (ks.take k) r.up (.mk r.nm r.k r.u b :: b') b' (by rw [List.getElem?_take_of_lt z]; exact hb')
          have e3 : szf (.mk r.nm r.k r.u b :: b') = 1 + szf b + szf b' := by
            unfold szf
            rw [trDs, sizeTs, trD, sizeT]
          omega
        · have z2 : (ks.take k).length ≤ r.up := by rw [List.length_take]; omega
          rw [List.set_eq_of_length_le z2]
          omega
      · rw [trD, sizeT]
        unfold szf at sb
        omega)
    [some (.d RD), some (kO hT (List.replicate rs.length [])), none, some (kO hW (List.replicate rs.length [])), some (kO hD (List.replicate rs.length [])), none, none, none, none, none, none, none, none, none]
    ⟨List.replicate rs.length [], none, none, none, none, none, none, none, none, none, rfl, List.length_replicate, fun f hf => by rw [List.eq_of_mem_replicate hf, okDs]; trivial, by
      rw [Nat.sub_zero, List.take_replicate, Nat.min_self, List.map_replicate]
      have : szf [] = 0 := by unfold szf; rw [trDs, sizeTs]
      rw [this]
      simp, fun h => absurd h (by decide)⟩
  obtain ⟨env', e1, ks, x5, x6, x7, x8, x9, x10, x11, x12, x13, e2, kl, ko, ks0, kd⟩ := key
  subst e2
  have hlen : (rangeCD ((rs.length : Int) - 1) (-1) rs.length).length = rs.length := by simp [rangeCD]
  rw [hlen] at kd
  obtain ⟨d, okd, szd, rfl, rfl, rfl⟩ := kd h0
  refine ⟨d, okd, by omega, ?_⟩
  rw [mir__law_texts, run__law_texts]
  have rl : (rs.map encW).length = rs.length := List.length_map _
  have gl : gLen [RD] = some (.d (.int (rs.length : Nat))) := by
    have : gLen [RD] = some (Ow.d (.int (rs.map encW).length)) := by rw [hRD]; rfl
    rw [this, rl]
  have lc : ∀ (h : Nd → PyData) (x1 x3 : Option Ow), eLc (eB (eVar 0) itD) (gtName 2) cYes (eLst aNil) [2] [some (.d RD), x1, none, x3, none, none, none, none, none, none, none, none, none, none] = .ok (kO h (List.replicate rs.length [])) := fun h x1 x3 => by
    unfold kO
    refine eLc_of (ds := rs.map encW) (by rw [hRD]; simp) (by rw [rl, sizeLine_eq]; omega) ?_
    rw [lcR_all (g := gtName 2) (c := cYes) (e := eLst aNil) (fun _ => .l []) (rs.map encW) fun d hd => ⟨[some (.d RD), x1, some (.d d), x3, none, none, none, none, none, none, none, none, none, none], by simp [wipeE], rfl, by simp [sizeLine_eq]⟩]
    congr 1
    rw [List.map_replicate]
    exact List.eq_replicate_iff.mpr ⟨by simp, fun b hb => by
      obtain ⟨_, _, rfl⟩ := List.mem_map.mp hb
      rfl⟩
  rw [← hRD, show envOf 13 [RD] = [some (.d RD), none, none, none, none, none, none, none, none, none, none, none, none, none] from rfl]
  have rg := rg3_all rs.length (by omega)
  refine fin_step (env1 := [some (.d RD), some (kO hT (List.replicate rs.length [])), none, none, none, none, none, none, none, none, none, none, none, none]) (by rw [sSet_eq]; have := lc hT none none; rw [show (List.map (·.2) ([("_law_row", 2)] : List (Str × Nat))) = [2] from rfl, this]; rfl) ?_
  refine fin_step (env1 := [some (.d RD), some (kO hT (List.replicate rs.length [])), none, some (kO hW (List.replicate rs.length [])), none, none, none, none, none, none, none, none, none, none]) (by rw [sSet_eq]; have := lc hW (some (kO hT (List.replicate rs.length []))) none; rw [show (List.map (·.2) ([("_law_row", 2)] : List (Str × Nat))) = [2] from rfl, this]; rfl) ?_
  refine fin_step (env1 := [some (.d RD), some (kO hT (List.replicate rs.length [])), none, some (kO hW (List.replicate rs.length [])), some (kO hD (List.replicate rs.length [])), none, none, none, none, none, none, none, none, none]) (by rw [sSet_eq]; have := lc hD (some (kO hT (List.replicate rs.length []))) (some (kO hW (List.replicate rs.length []))); rw [show (List.map (·.2) ([("_law_row", 2)] : List (Str × Nat))) = [2] from rfl, this]; rfl) ?_
  refine fin_step (env1 := [some (.d RD), some (kO hT ks), none, some (kO hW ks), some (kO hD ks), x5, x6, x7, x8, x9, some (.d (hT d)), some (.d (hW d)), x12, some (.d (hD d))]) (by
    rw [sFor_eq]
    have e3 : (eB (aCons (eBin gSub (eM (eCa gLen (aCons (eVar 0) aNil)) viewD) (eC (.int 1))) (aCons (eB (eC (.int 1)) gNeg) (aCons (eB (eC (.int 1)) gNeg) aNil))) rg3) [some (.d RD), some (kO hT (List.replicate rs.length [])), none, some (kO hW (List.replicate rs.length [])), some (kO hD (List.replicate rs.length [])), none, none, none, none, none, none, none, none, none] = .ok (rangeCD ((rs.length : Int) - 1) (-1) rs.length) := by
      simp [gl, rg]
    rw [e3, R.st_ok]
    exact e1) ?_
  simp [sizeLine_eq]
theorem law_true (L : Nat) (hL : 60 ≤ L) (ns : List Int) (hn : ns.length ≤ 63) : mir L 12 [.list (ns.map PyData.int)] = .ok (.d (.bool true)) := by
  obtain ⟨n, rfl⟩ : ∃ n, L = n + 47 := ⟨L - 47, by omega⟩
  obtain ⟨cs, hcs⟩ : ∃ cs : List Int, cs = (ns ++ [0]).take 36 := ⟨_, rfl⟩
  have hcl : cs.length ≤ 36 := by rw [hcs, List.length_take]; omega
  have hc0 : 0 < cs.length := by rw [hcs, List.length_take, List.length_append, List.length_singleton]; omega
  obtain ⟨rs, e1, l1, hr⟩ := rows_ok (n + 44) cs (by omega)
  obtain ⟨d, okd, szd, e2⟩ := texts_ok (n + 45) rs (by omega) (by omega) hr
  have e1 : mir (n + 46) 10 [.list (cs.map .int)] = .ok (.l (rs.map fun r => .d (encW r))) := e1
  have e2 : mir (n + 46) 11 [.list (rs.map encW)] = .ok (.d (.tuple [hD d, hT d, hW d])) := e2
  have lv := lev_size (trD d)
  have e3 := show_ok (n + 46) d (by omega) okd (by omega)
  have r1 := read_ok (n + 1) (tig d) 0 0 (ok_tig d okd) (by rw [tr_tig]; omega) (by rw [tr_tig]; omega) (by decide) (by decide)
  have r2 := read_ok (n + 1) (wid d) 0 0 (ok_wid d okd) (by rw [tr_wid]; omega) (by rw [tr_wid]; omega) (by decide) (by decide)
  have r3 := read_ok (n + 1) (tig d) 1 1 (ok_tig d okd) (by rw [tr_tig]; omega) (by rw [tr_tig]; omega) (by decide) (by decide)
  rw [tr_tig] at r1 r3
  rw [tr_wid] at r2
  have b1 : build (sgN 1 (tig d)) 1 = [32] ++ txN (tig d) ++ [32] := by
    have := build_app (sgN 1 (tig d)) [] 1
    rw [List.append_nil, build_sgN] at this
    rw [this]
    rfl
  rw [b1] at r3
  have r1 : mir (n + 46) 7 [.str (tx (txN (tig d)))] = .ok (.d (encT (trD d))) := r1
  have r2 : mir (n + 46) 7 [.str (tx (txN (wid d)))] = .ok (.d (encT (trD d))) := r2
  have r3 : mir (n + 46) 7 [.str (tx ([32] ++ txN (tig d) ++ [32]))] = .ok (.d (encT (trD d))) := r3
  have ltx := txN_len _ (ok_tig d okd)
  rw [tr_tig] at ltx
  obtain ⟨A, hA⟩ : ∃ A, A = txN (tig d) := ⟨_, rfl⟩
  obtain ⟨B, hB⟩ : ∃ B, B = txN (wid d) := ⟨_, rfl⟩
  have okt : okT (trD d) := by rw [← tr_tig]; exact okTr _ (ok_tig d okd)
  have ne := gNe_self (nice_encT okt (by omega))
  have ti : gIsi "tuple" (encT (trD d)) = .ok (.bool true) := by
    cases h : trD d with
    | mk nm k bs => rw [encT_mk]; rfl
  unfold hD hT hW at e2
  rw [← hA] at e2 e3 r1 r3 ltx
  rw [← hB] at e2 r2
  obtain ⟨ET, hET⟩ : ∃ ET, ET = encT (trD d) := ⟨_, rfl⟩
  rw [← hET] at e2 e3 r1 r2 r3 ne ti
  obtain ⟨C1, hC1⟩ : ∃ C, C = [32] ++ A := ⟨_, rfl⟩
  obtain ⟨C2, hC2⟩ : ∃ C, C = C1 ++ [32] := ⟨_, rfl⟩
  rw [← hC1, ← hC2] at r3
  have g1 := gAdd_tx (a := [32]) (b := A) (by simp; omega)
  rw [← hC1] at g1
  have g2 := gAdd_tx (a := C1) (b := [32]) (by rw [hC1]; simp; omega)
  rw [← hC2] at g2
  have nea := gNe_tx A A
  rw [decide_eq_true rfl] at nea
  rw [mir_law, run_law]
  rw [show envOf 6 [.list (ns.map PyData.int)] = [some (.d (.list (ns.map PyData.int))), none, none, none, none, none, none] from rfl]
  refine fin_step (env1 := [some (.d (.list (ns.map PyData.int))), some (.d (.list (rs.map encW))), none, none, none, none, none]) (by
    rw [sSet_eq]
    have a1 : gAdd (.list (ns.map .int)) (.list [PyData.int 0]) = some (.l ((ns.map PyData.int ++ [PyData.int 0]).map Ow.d)) := gAdd_lst (by rw [List.length_map, List.length_singleton, sizeLine_eq]; omega)
    have a2 : cutL (ns.map PyData.int ++ [PyData.int 0]) none (some 36) = cs.map PyData.int := by
      have := cutL_take (ns.map PyData.int ++ [PyData.int 0]) 36
      rw [show ((36 : Nat) : Int) = 36 from rfl] at this
      rw [this, hcs, List.map_take, List.map_append]
      rfl
    have a3 : (eB (eBinO gAdd (eVar 0) (eB (eLst (aCons (eC (.int 0)) aNil)) shD)) shD) [some (.d (.list (ns.map PyData.int))), none, none, none, none, none, none] = .ok (.list (ns.map PyData.int ++ [PyData.int 0])) := by
      have : shD (.l [.d (.int 0)]) = .ok (.list [PyData.int 0]) := rfl
      simp only [eB_eq, eBinO_eq, eVar_0, eLst_eq, aCons_eq, eC_eq, aNil_eq, R.bind_ok, R.map_ok, List.map_cons, List.map_nil, this, List.length_singleton, guard_ok (show 1 ≤ sizeLine by rw [sizeLine_eq]; decide)]
      rw [a1]
      exact shD_l _
    have a4 : (eSl (eB (eBinO gAdd (eVar 0) (eB (eLst (aCons (eC (.int 0)) aNil)) shD)) shD) oNone (eB (eC (.int 36)) asI)) [some (.d (.list (ns.map PyData.int))), none, none, none, none, none, none] = .ok (.l ((cs.map PyData.int).map Ow.d)) := by
      rw [eSl_eq, a3]
      simp only [R.bind_ok, oNone_eq, eB_eq, eC_eq, asI_eq, gSl_list, a2]
      rfl
    have a5 : viewD (.l ((cs.map PyData.int).map Ow.d)) = .list (cs.map .int) := by rw [viewD_l, viewAll_mapd]
    simp only [eM_eq, eB_eq, aCons_eq, aNil_eq, a4, R.map_ok, R.bind_ok, a5, e1, viewD_of]
    rfl) ?_
  generalize PyData.list (rs.map encW) = RD at e2
  generalize PyData.list (ns.map PyData.int) = S0
  refine fin_step (env1 := [some (.d S0), some (.d RD), some (.d ET), some (.d (.str (tx A))), some (.d (.str (tx B))), none, none]) (by simp [e2]) ?_
  refine fin_step (env1 := [some (.d S0), some (.d RD), some (.d ET), some (.d (.str (tx A))), some (.d (.str (tx B))), some (.d (.str (tx A))), none]) (by simp [e3]) ?_
  refine fin_step (env1 := [some (.d S0), some (.d RD), some (.d ET), some (.d (.str (tx A))), some (.d (.str (tx B))), some (.d (.str (tx A))), none]) (by
    have si : gIsi "str" (.str (tx A)) = .ok (.bool true) := rfl
    simp [nea, si]) ?_
  have round : ∀ (w : List Nat) (x5 : Option Ow), mir (n + 46) 7 [.str (tx w)] = .ok (.d ET) → (sSeq (sSet 5 (eM (eM (eB (aCons (eVar 6) aNil) (mir (n + 46) 7)) viewD) Ow.d))
    (sIf (tOrE (tNotE (eB (eB (eVar 5) (gIsi "tuple")) asB)) (tOrE (eB (eBin gNe (eVar 5) (eVar 2)) asB) (eB (eBin gNe (eM (eB (aCons (eVar 5) aNil) (mir (n + 46) 8)) viewD) (eVar 3)) asB)))
    (sRet (eM (eC (.bool false)) Ow.d))
    sSkip)) [some (.d S0), some (.d RD), some (.d ET), some (.d (.str (tx A))), some (.d (.str (tx B))), x5, some (.d (.str (tx w)))] = .nx [some (.d S0), some (.d RD), some (.d ET), some (.d (.str (tx A))), some (.d (.str (tx B))), some (.d ET), some (.d (.str (tx w)))] := fun w x5 h => by
    simp [h, ti, ne, e3, nea]
  refine fin_step (env1 := [some (.d S0), some (.d RD), some (.d ET), some (.d (.str (tx A))), some (.d (.str (tx B))), some (.d ET), some (.d (.str (tx C2)))]) (by
    rw [sFor_eq]
    have e4 : (eB (eM (eLst (aCons (eVar 3) (aCons (eVar 4) (aCons (eM (eBinO gAdd (eB (eBinO gAdd (eC (.str " ")) (eVar 3)) shD) (eC (.str " "))) viewD) aNil)))) viewD) itD) [some (.d S0), some (.d RD), some (.d ET), some (.d (.str (tx A))), some (.d (.str (tx B))), some (.d (.str (tx A))), none] = .ok [.str (tx A), .str (tx B), .str (tx C2)] := by
      simp [sp_is, g1, g2, sizeLine_eq, viewAll, viewD]
    rw [e4, R.st_ok]
    have g : ∀ (w : List Nat) (x5 x6 : Option Ow), gtName 6 (.str (tx w)) [some (.d S0), some (.d RD), some (.d ET), some (.d (.str (tx A))), some (.d (.str (tx B))), x5, x6] = some [some (.d S0), some (.d RD), some (.d ET), some (.d (.str (tx A))), some (.d (.str (tx B))), x5, some (.d (.str (tx w)))] := fun w x5 x6 => rfl
    rw [forL, g A]
    simp only [round A _ r1]
    rw [forL, g B]
    simp only [round B _ r2]
    rw [forL, g C2]
    simp only [round C2 _ r3]
    rfl) ?_
  simp
end G
open PySem PySem.W PyProof.Rows
set_option maxRecDepth 100000 in
set_option maxHeartbeats 0 in
theorem PySem.Challenge.cw_turnery_k05_trees_shown_and_read_holds : PySem.Challenge.rw_turnery_k05_trees_shown_and_read.Holds := by
  w_on; o_law; k_head; (case hw => w_witness2)
  k_fill
  refine Mir.law_end (l := PySem.Challenge.rw_turnery_k05_trees_shown_and_read) (m := G.mir 70 12) 70 "_law_script" rfl rfl ⟨rfl, by decide, by decide⟩ (fun w h Y => PySem.W.kIn_of Y) (fun ns h _ => G.law_true 70 (by decide) ns h) ?F
  case F =>
    intro w mg fa h KX Gn hmg
    refine' G.all_mk 70 KX Gn hmg ?a0 ?l0 ?c0 ?k0 ?a1 ?l1 ?c1 ?k1 ?a2 ?l2 ?c2 ?k2 ?a3 ?l3 ?c3 ?k3 ?a4 ?l4 ?c4 ?k4 ?a5 ?l5 ?c5 ?k5 ?a6 ?l6 ?c6 ?k6 ?a7 ?l7 ?c7 ?k7 ?a8 ?l8 ?c8 ?k8 ?a9 ?l9 ?c9 ?k9 ?a10 ?l10 ?c10 ?k10 ?a11 ?l11 ?c11 ?k11 ?a12 ?l12 ?c12 ?k12 ?z_int ?z_isinstance ?z_len ?z_range ?z_str ?z_tuple ?g_FIGURES ?r_FIGURES ?g_LETTERS ?r_LETTERS ?g_SIGNS ?r_SIGNS
    (case a0 => k_is)
    (case l0 => k_is)
    (case c0 => k_is)
    (case k0 => k_is)
    (case a1 => k_is)
    (case l1 => k_is)
    (case c1 => k_is)
    (case k1 => k_is)
    (case a2 => k_is)
    (case l2 => k_is)
    (case c2 => k_is)
    (case k2 => k_is)
    (case a3 => k_is)
    (case l3 => k_is)
    (case c3 => k_is)
    (case k3 => k_is)
    (case a4 => k_is)
    (case l4 => k_is)
    (case c4 => k_is)
    (case k4 => k_is)
    (case a5 => k_is)
    (case l5 => k_is)
    (case c5 => k_is)
    (case k5 => k_is)
    (case a6 => k_is)
    (case l6 => k_is)
    (case c6 => k_is)
    (case k6 => k_is)
    (case a7 => k_is)
    (case l7 => k_is)
    (case c7 => k_is)
    (case k7 => k_is)
    (case a8 => k_is)
    (case l8 => k_is)
    (case c8 => k_is)
    (case k8 => k_is)
    (case a9 => k_is)
    (case l9 => k_is)
    (case c9 => k_is)
    (case k9 => k_is)
    (case a10 => k_is)
    (case l10 => k_is)
    (case c10 => k_is)
    (case k10 => k_is)
    (case a11 => k_is)
    (case l11 => k_is)
    (case c11 => k_is)
    (case k11 => k_is)
    (case a12 => k_is)
    (case l12 => k_is)
    (case c12 => k_is)
    (case k12 => k_is)
    (case z_int => k_is)
    (case z_isinstance => k_is)
    (case z_len => k_is)
    (case z_range => k_is)
    (case z_str => k_is)
    (case z_tuple => k_is)
    (case g_FIGURES => k_is)
    (case g_LETTERS => k_is)
    (case g_SIGNS => k_is)
    (case r_FIGURES => exact ⟨_, rfl⟩)
    (case r_LETTERS => exact ⟨_, rfl⟩)
    (case r_SIGNS => exact ⟨_, rfl⟩)

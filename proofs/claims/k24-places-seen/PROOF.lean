import PyProof.Rows.All
import Wide.All
import OpenK.AllK
import Wide.FinOn
import HandS.ForMost
import HandS.ForExc
import HandS.Walk
import HandS.TupAny
import HandS.Wide
import HandS.IsInst
import PyProof.P3Eq
import PyProof.NeData
import PyProof.Rows.SeqMore
import KE.GoesNew
import KE.GoesMore
import KE.GoesEnum
import HandS.Zip
import PyProof.AutoSeq1
import HandS.More
import KE.SortData
import HandS.EndBits
import HandS.Steps
import HandS.Rev
import PyProof.StrOps2
import HandS.Text
import HandS.Dict
import KE.KDictSum
import HandS.ExcIs
import HandS.TryOnly
import HandS.RevRange
import PySem.Challenge.RW_turnery_k24_places_seen
set_option Elab.async false
set_option linter.all false
set_option maxRecDepth 100000
set_option maxHeartbeats 4000000
noncomputable section
namespace Mir
open PySem PySem.Spec L2

abbrev D := PyData
/-- a value in a mirror: data that stays, or a list or a dict that the def owns -/
inductive Ow where
  | d (x : D)
  | l (xs : List Ow)
  | m (kvs : List (D × D))
abbrev Ev := List (Option Ow)

/-- a pure outcome: none (not mirrored), a value, an exception's class -/
inductive R (α : Type) where
  | no
  | ok (a : α)
  | ex (c : Str)
def R.bind {α β : Type} : R α → (α → R β) → R β
  | .no, _ => .no
  | .ok a, f => f a
  | .ex c, _ => .ex c
@[simp] theorem R.bind_ok {α β : Type} (a : α) (f : α → R β) : (R.ok a).bind f = f a := rfl
@[simp] theorem R.bind_no {α β : Type} (f : α → R β) : (R.no : R α).bind f = .no := rfl
@[simp] theorem R.bind_ex {α β : Type} (c : Str) (f : α → R β) : (R.ex c : R α).bind f = .ex c := rfl
def R.map {α β : Type} (f : α → β) (r : R α) : R β := r.bind fun a => .ok (f a)
@[simp] theorem R.map_ok {α β : Type} (a : α) (f : α → β) : (R.ok a).map f = .ok (f a) := rfl
/-- r where c holds (by a choice that nothing reckons with) -/
def guard (c : Prop) {α : Type} (r : R α) : R α := @ite _ c (Classical.propDecidable c) r .no
@[simp] theorem guard_pos {c : Prop} {α : Type} {r : R α} (h : c) : guard c r = r := @if_pos _ (Classical.propDecidable c) h _ _ _

mutual
def viewD : Ow → D
  | .d x => x
  | .l xs => .list (viewAll xs)
  | .m kvs => .dict kvs
def viewAll : List Ow → List D
  | [] => []
  | x :: xs => viewD x :: viewAll xs
end
@[simp] theorem viewD_d (x : D) : viewD (.d x) = x := by unfold viewD; rfl
@[simp] theorem viewD_m (kvs : List (D × D)) : viewD (.m kvs) = .dict kvs := by rw [viewD]
@[simp] theorem viewD_l (xs : List Ow) : viewD (.l xs) = .list (viewAll xs) := by rw [viewD]
@[simp] theorem viewAll_nil : viewAll [] = [] := by rw [viewAll]
@[simp] theorem viewAll_cons (x : Ow) (xs : List Ow) : viewAll (x :: xs) = viewD x :: viewAll xs := by rw [viewAll]
theorem viewAll_map : ∀ xs : List Ow, viewAll xs = xs.map viewD
  | [] => by rw [viewAll]; rfl
  | x :: xs => by rw [viewAll, viewAll_map xs]; rfl
@[simp] theorem viewAll_mapd : ∀ xs : List D, viewAll (xs.map Ow.d) = xs
  | [] => by simp
  | x :: xs => by simp [viewAll_mapd xs]

/-- a dict's key as data -/
def keyD : Key → D
  | .inl i => .int i
  | .inr z => .str z
mutual
inductive Dp (K : PySem.W.Frag) (H : Hp) : V → PyData → Prop
  | non : Dp K H .non .none
  | bl (b : Bool) : Dp K H (.bl b) (.bool b)
  | int (i : Int) : Dp K H (.int i) (.int i)
  | str (x : Str) : Dp K H (.str x) (.str x)
  | lst {a : Addr} {xs : List V} {ds : List PyData} : SqL K H a xs → DpAll K H xs ds → Dp K H (.ref a) (.list ds)
  | tup {a : Addr} {xs : List V} {ds : List PyData} : SqT K H a xs → DpAll K H xs ds → Dp K H (.ref a) (.tuple ds)
  | dct {a : Addr} {kvs : List (Key × V)} {ps : List (PyData × PyData)} : H a = some (.dK kvs) → DpKv K H kvs ps → Dp K H (.ref a) (.dict ps)
inductive DpAll (K : PySem.W.Frag) (H : Hp) : List V → List PyData → Prop
  | nil : DpAll K H [] []
  | cons {v : V} {vs : List V} {d : PyData} {ds : List PyData} : Dp K H v d → DpAll K H vs ds → DpAll K H (v :: vs) (d :: ds)
inductive DpKv (K : PySem.W.Frag) (H : Hp) : List (Key × V) → List (PyData × PyData) → Prop
  | nil : DpKv K H [] []
  | cons {k : Key} {v : V} {kvs : List (Key × V)} {d : PyData} {ps : List (PyData × PyData)} : Dp K H v d → DpKv K H kvs ps → DpKv K H ((k, v) :: kvs) ((keyD k, d) :: ps)
end
section
variable {K : PySem.W.Frag}
theorem SqT_mono {H H' : Hp} {a : Addr} {xs : List V} (e : Same H H') (h : SqT K H a xs) : SqT K H' a xs := by
  rcases h with (h | ⟨o, h⟩) | h
  · exact .inl (.inl (e _ _ h))
  · exact .inl (.inr ⟨o, e _ _ h⟩)
  · exact .inr h
mutual
theorem Dp.mono {H H' : Hp} (e : Same H H') : ∀ (d : D) (v : V), Dp K H v d → Dp K H' v d
  | .none, _, h => by cases h; exact .non
  | .bool b, _, h => by cases h; exact .bl b
  | .int b, _, h => by cases h; exact .int b
  | .str b, _, h => by cases h; exact .str b
  | .list ds, _, h => by
    cases h with
    | lst hs ha => exact .lst (e.seq hs) (DpAll.mono e ds _ ha)
  | .tuple ds, _, h => by
    cases h with
    | tup hs ha => exact .tup (SqT_mono e hs) (DpAll.mono e ds _ ha)
  | .dict ps, _, h => by
    cases h with
    | dct hs ha => exact .dct (e _ _ hs) (DpKv.mono e ps _ ha)
theorem DpAll.mono {H H' : Hp} (e : Same H H') : ∀ (ds : List D) (vs : List V), DpAll K H vs ds → DpAll K H' vs ds
  | [], _, h => by cases h; exact .nil
  | d :: ds, _, h => by
    cases h with
    | cons h1 h2 => exact .cons (Dp.mono e d _ h1) (DpAll.mono e ds _ h2)
theorem DpKv.mono {H H' : Hp} (e : Same H H') : ∀ (ps : List (D × D)) (kvs : List (Key × V)), DpKv K H kvs ps → DpKv K H' kvs ps
  | [], _, h => by cases h; exact .nil
  | (x, d) :: ps, _, h => by
    cases h with
    | cons h1 h2 => exact .cons (Dp.mono e d _ h1) (DpKv.mono e ps _ h2)
end
mutual
/-- as the kit has it, where no dict is within -/
theorem Dp.kit {H : Hp} : ∀ (d : D) (v : V), Dp K H v d → d.canLay0 = true → L2.Dp K H v d
  | .none, _, h, _ => by cases h; exact .non
  | .bool b, _, h, _ => by cases h; exact .bl b
  | .int b, _, h, _ => by cases h; exact .int b
  | .str b, _, h, _ => by cases h; exact .str b
  | .list ds, _, h, c => by
    cases h with
    | lst hs ha => exact .lst hs (DpAll.kit ds _ ha (by rw [PyData.canLay0] at c; exact c))
  | .tuple ds, _, h, c => by
    cases h with
    | tup hs ha => exact .tup hs (DpAll.kit ds _ ha (by rw [PyData.canLay0] at c; exact c))
  | .dict _, _, _, c => by rw [PyData.canLay0] at c; cases c
theorem DpAll.kit {H : Hp} : ∀ (ds : List D) (vs : List V), DpAll K H vs ds → PyData.canLayAll0 ds = true → L2.DpAll K H vs ds
  | [], _, h, _ => by cases h; exact .nil
  | d :: ds, _, h, c => by
    rw [PyData.canLayAll0, Bool.and_eq_true] at c
    cases h with
    | cons h1 h2 => exact .cons (Dp.kit d _ h1 c.1) (DpAll.kit ds _ h2 c.2)
end
theorem dpUp {H H' : Hp} {v : V} {d : D} (h : Dp K H v d) (e : Same H H') : Dp K H' v d := Dp.mono e d v h
theorem dpaUp {H H' : Hp} {v : List V} {d : List D} (h : DpAll K H v d) (e : Same H H') : DpAll K H' v d := DpAll.mono e d v h
theorem DpAll.len {H : Hp} : ∀ {vs : List V} {ds : List D}, DpAll K H vs ds → vs.length = ds.length
  | _, [], h => by cases h; rfl
  | _, d :: ds, h => by
    cases h with
    | cons h1 h2 => simp [DpAll.len h2]
theorem DpAll.get {H : Hp} : ∀ {vs : List V} {ds : List D} {i : Nat} {d : D}, DpAll K H vs ds → ds[i]? = some d → ∃ v, vs[i]? = some v ∧ Dp K H v d
  | _, [], i, d, h, e => by simp at e
  | _, x :: ds, 0, d, h, e => by
    cases h with
    | cons h1 h2 => simp at e; subst e; exact ⟨_, rfl, h1⟩
  | _, x :: ds, i + 1, d, h, e => by
    cases h with
    | cons h1 h2 =>
      obtain ⟨v, q, r⟩ := DpAll.get (i := i) h2 (by simpa using e)
      exact ⟨v, by simpa using q, r⟩
theorem DpAll.getV {H : Hp} : ∀ {vs : List V} {ds : List D} {i : Nat} {v : V}, DpAll K H vs ds → vs[i]? = some v → ∃ d, ds[i]? = some d ∧ Dp K H v d
  | _, [], i, v, h, e => by cases h; simp at e
  | _, x :: ds, 0, v, h, e => by
    cases h with
    | cons h1 h2 => simp at e; subst e; exact ⟨_, rfl, h1⟩
  | _, x :: ds, i + 1, v, h, e => by
    cases h with
    | cons h1 h2 =>
      obtain ⟨d, q, r⟩ := DpAll.getV (i := i) h2 (by simpa using e)
      exact ⟨d, by simpa using q, r⟩
theorem DpAll.append {H : Hp} : ∀ {vs ws : List V} {ds es : List D}, DpAll K H vs ds → DpAll K H ws es → DpAll K H (vs ++ ws) (ds ++ es)
  | _, _, [], _, h, g => by cases h; exact g
  | _, _, d :: ds, _, h, g => by
    cases h with
    | cons h1 h2 => exact .cons h1 (DpAll.append h2 g)
theorem DpAll.take {H : Hp} : ∀ {vs : List V} {ds : List D} (n : Nat), DpAll K H vs ds → DpAll K H (vs.take n) (ds.take n)
  | _, [], n, h => by cases h; simp; exact .nil
  | _, d :: ds, 0, h => by simp; exact .nil
  | _, d :: ds, n + 1, h => by
    cases h with
    | cons h1 h2 => exact .cons h1 (DpAll.take n h2)
theorem DpAll.drop {H : Hp} : ∀ {vs : List V} {ds : List D} (n : Nat), DpAll K H vs ds → DpAll K H (vs.drop n) (ds.drop n)
  | _, [], n, h => by cases h; simp; exact .nil
  | _, d :: ds, 0, h => h
  | _, d :: ds, n + 1, h => by
    cases h with
    | cons h1 h2 => exact DpAll.drop n h2
theorem DpAll.of_ints {H : Hp} : ∀ (ns : List Int), DpAll K H (ns.map V.int) (ns.map PyData.int)
  | [] => .nil
  | n :: ns => .cons (.int n) (DpAll.of_ints ns)

/-- frozen facts F, the tracked heap H, behind a step that changes nothing that stood -/
structure Ext (F H F' H' : Hp) : Prop where
  ff : Same F F'
  hh : Same H H'
  fn : ∀ b o, F' b = some o → F b = some o ∨ H b = none
  fh : Same F' H'
theorem Ext.refl {F H : Hp} (h : Same F H) : Ext F H F H := ⟨Same.refl _, Same.refl _, fun _ _ h => .inl h, h⟩
theorem Ext.trans {F H F1 H1 F2 H2 : Hp} (a : Ext F H F1 H1) (b : Ext F1 H1 F2 H2) : Ext F H F2 H2 :=
  ⟨a.ff.trans b.ff, a.hh.trans b.hh, fun c o h => by
    rcases b.fn c o h with q | q
    · exact a.fn c o q
    · exact .inr (a.hh.free q), b.fh⟩
theorem free_of {F H : Hp} (s : Same F H) {p : Addr} (h : H p = none) : F p = none := s.free h
theorem same_upd {H : Hp} {p : Addr} (h : H p = none) (o : HO) : Same H (upd H p o) := fun b u q => by rw [upd_ne (ne_of_none q h)]; exact q
theorem same_upd2 {F H : Hp} (s : Same F H) {p : Addr} (h : H p = none) (o : HO) : Same (upd F p o) (upd H p o) := fun b u q => by
  by_cases e : b = p
  · subst e; rw [upd_same] at q ⊢; exact q
  · rw [upd_ne e] at q ⊢; exact s _ _ q
/-- a new object, frozen at once -/
theorem Ext.frz {F H : Hp} (s : Same F H) {p : Addr} (h : H p = none) (o : HO) : Ext F H (upd F p o) (upd H p o) :=
  ⟨same_upd (free_of s h) o, same_upd h o, fun b u q => by
    by_cases e : b = p
    · subst e; exact .inr h
    · rw [upd_ne e] at q; exact .inl q, same_upd2 s h o⟩
/-- a new object of the def's own -/
theorem Ext.own {F H : Hp} (s : Same F H) {p : Addr} (h : H p = none) (o : HO) : Ext F H F (upd H p o) :=
  ⟨Same.refl _, same_upd h o, fun _ _ q => .inl q, s.trans (same_upd h o)⟩

mutual
inductive OwnAt (K : PySem.W.Frag) (F H : Hp) : V → Ow → List Addr → Prop
  | d {v : V} {x : D} : Dp K F v x → OwnAt K F H v (.d x) []
  | l {a : Addr} {vs : List V} {os : List Ow} {fp : List Addr} : F a = none → H a = some (.lst vs) → OwnAll K F H vs os fp → OwnAt K F H (.ref a) (.l os) (a :: fp)
  | m {a : Addr} {kvs : List (Key × V)} {ps : List (D × D)} : F a = none → H a = some (.dK kvs) → DpKv K F kvs ps → OwnAt K F H (.ref a) (.m ps) [a]
inductive OwnAll (K : PySem.W.Frag) (F H : Hp) : List V → List Ow → List Addr → Prop
  | nil : OwnAll K F H [] [] []
  | cons {v : V} {vs : List V} {o : Ow} {os : List Ow} {fp fps : List Addr} : OwnAt K F H v o fp → OwnAll K F H vs os fps → OwnAll K F H (v :: vs) (o :: os) (fp ++ fps)
end
/-- the step of a statement: what is owned (fp) may change -/
structure StepS (F H : Hp) (fp : List Addr) (F' H' : Hp) (fp' : List Addr) : Prop where
  ff : Same F F'
  fr : ∀ b o, H b = some o → b ∉ fp → H' b = some o
  fn : ∀ b o, F' b = some o → F b = some o ∨ b ∈ fp ∨ H b = none
  sub : ∀ b ∈ fp', b ∈ fp ∨ H b = none
theorem StepS.of_ext {F H F' H' : Hp} (e : Ext F H F' H') (fp : List Addr) : StepS F H fp F' H' fp :=
  ⟨e.ff, fun b o h _ => e.hh b o h, fun b o h => (e.fn b o h).imp id .inr, fun b h => .inl h⟩
theorem StepS.trans {F H F1 H1 F2 H2 : Hp} {fp fp1 fp2 : List Addr} (a : StepS F H fp F1 H1 fp1) (b : StepS F1 H1 fp1 F2 H2 fp2) : StepS F H fp F2 H2 fp2 := by
  have nn : ∀ c, H1 c = none → c ∈ fp ∨ H c = none := fun c h => by
    cases q : H c with
    | none => exact .inr rfl
    | some o =>
      by_cases hc : c ∈ fp
      · exact .inl hc
      · rw [a.fr c o q hc] at h; cases h
  refine ⟨a.ff.trans b.ff, fun c o h hc => b.fr c o (a.fr c o h hc) fun z => ?_, fun c o h => ?_, fun c h => ?_⟩
  · rcases a.sub c z with q | q
    · exact hc q
    · rw [h] at q; cases q
  · rcases b.fn c o h with q | q | q
    · exact a.fn c o q
    · exact .inr (a.sub c q)
    · exact .inr (nn c q)
  · rcases b.sub c h with q | q
    · exact a.sub c q
    · exact nn c q
theorem StepS.mono {F H F1 H1 : Hp} {fp fp' fp1 : List Addr} (a : StepS F H fp F1 H1 fp1) (h : ∀ b ∈ fp, b ∈ fp') : StepS F H fp' F1 H1 fp1 :=
  ⟨a.ff, fun b o q n => a.fr b o q fun z => n (h b z), fun b o q => (a.fn b o q).imp id (.imp (h b) id), fun b q => (a.sub b q).imp (h b) id⟩
theorem StepS.subset {F H F1 H1 : Hp} {fp fp1 fp2 : List Addr} (a : StepS F H fp F1 H1 fp1) (h : ∀ b ∈ fp2, b ∈ fp1) : StepS F H fp F1 H1 fp2 :=
  ⟨a.ff, a.fr, a.fn, fun b q => a.sub b (h b q)⟩

mutual
/-- what is owned apart from what changes stays -/
theorem OwnAt.keep {F H F' H' : Hp} {fx fy : List Addr} (s : StepS F H fx F' H' fy) : ∀ (o : Ow) (v : V) (fp : List Addr), OwnAt K F H v o fp → (∀ b ∈ fp, b ∉ fx) → OwnAt K F' H' v o fp
  | .d x, v, fp, h, _ => by
    cases h with
    | d q => exact .d (dpUp q s.ff)
  | .l os, v, fp, h, n => by
    cases h with
    | @l a vs _ fps h1 h2 h3 =>
      have na : a ∉ fx := n a List.mem_cons_self
      refine .l ?_ (s.fr _ _ h2 na) (OwnAll.keep s os vs fps h3 fun b hb => n b (List.mem_cons_of_mem _ hb))
      cases q : F' a with
      | none => rfl
      | some u =>
        rcases s.fn a u q with z | z | z
        · rw [h1] at z; cases z
        · exact absurd z na
        · rw [h2] at z; cases z
  | .m ps, v, fp, h, n => by
    cases h with
    | @m a kvs _ h1 h2 h3 =>
      have na : a ∉ fx := n a List.mem_cons_self
      refine .m ?_ (s.fr _ _ h2 na) (DpKv.mono s.ff ps _ h3)
      cases q : F' a with
      | none => rfl
      | some u =>
        rcases s.fn a u q with z | z | z
        · rw [h1] at z; cases z
        · exact absurd z na
        · rw [h2] at z; cases z
theorem OwnAll.keep {F H F' H' : Hp} {fx fy : List Addr} (s : StepS F H fx F' H' fy) : ∀ (os : List Ow) (vs : List V) (fp : List Addr), OwnAll K F H vs os fp → (∀ b ∈ fp, b ∉ fx) → OwnAll K F' H' vs os fp
  | [], vs, fp, h, _ => by cases h; exact .nil
  | o :: os, vs, fp, h, n => by
    cases h with
    | cons h1 h2 => exact .cons (OwnAt.keep s o _ _ h1 fun b hb => n b (List.mem_append_left _ hb)) (OwnAll.keep s os _ _ h2 fun b hb => n b (List.mem_append_right _ hb))
end
theorem OwnAt.ext {F H F' H' : Hp} {v : V} {o : Ow} {fp : List Addr} (h : OwnAt K F H v o fp) (e : Ext F H F' H') : OwnAt K F' H' v o fp :=
  OwnAt.keep (StepS.of_ext e []) o v fp h fun _ _ => by simp
theorem OwnAll.ext {F H F' H' : Hp} {v : List V} {o : List Ow} {fp : List Addr} (h : OwnAll K F H v o fp) (e : Ext F H F' H') : OwnAll K F' H' v o fp :=
  OwnAll.keep (StepS.of_ext e []) o v fp h fun _ _ => by simp
mutual
theorem OwnAt.there {F H : Hp} : ∀ (o : Ow) (v : V) (fp : List Addr), OwnAt K F H v o fp → ∀ b ∈ fp, F b = none ∧ ∃ o, H b = some o
  | .d x, v, fp, h, b, hb => by cases h; cases hb
  | .l os, v, fp, h, b, hb => by
    cases h with
    | l h1 h2 h3 =>
      rcases List.mem_cons.mp hb with e | e
      · subst e; exact ⟨h1, _, h2⟩
      · exact OwnAll.there os _ _ h3 b e
  | .m ps, v, fp, h, b, hb => by
    cases h with
    | m h1 h2 h3 =>
      rw [List.mem_singleton] at hb
      subst hb; exact ⟨h1, _, h2⟩
theorem OwnAll.there {F H : Hp} : ∀ (o : List Ow) (v : List V) (fp : List Addr), OwnAll K F H v o fp → ∀ b ∈ fp, F b = none ∧ ∃ o, H b = some o
  | [], v, fp, h, b, hb => by cases h; cases hb
  | o :: os, v, fp, h, b, hb => by
    cases h with
    | cons h1 h2 =>
      rcases List.mem_append.mp hb with e | e
      · exact OwnAt.there o _ _ h1 b e
      · exact OwnAll.there os _ _ h2 b e
end
mutual
theorem OwnAt.view {F H : Hp} (s : Same F H) : ∀ (o : Ow) (v : V) (fp : List Addr), OwnAt K F H v o fp → Dp K H v (viewD o)
  | .d x, v, fp, h => by
    cases h with
    | d q => rw [viewD]; exact dpUp q s
  | .l os, v, fp, h => by
    cases h with
    | l h1 h2 h3 => rw [viewD]; exact .lst (SqL.of h2) (OwnAll.view s os _ _ h3)
  | .m ps, v, fp, h => by
    cases h with
    | m h1 h2 h3 => rw [viewD]; exact .dct h2 (DpKv.mono s ps _ h3)
theorem OwnAll.view {F H : Hp} (s : Same F H) : ∀ (o : List Ow) (v : List V) (fp : List Addr), OwnAll K F H v o fp → DpAll K H v (viewAll o)
  | [], v, fp, h => by cases h; rw [viewAll]; exact .nil
  | o :: os, v, fp, h => by
    cases h with
    | cons h1 h2 => rw [viewAll]; exact .cons (OwnAt.view s o _ _ h1) (OwnAll.view s os _ _ h2)
end
theorem OwnAll.len {F H : Hp} : ∀ {os : List Ow} {vs : List V} {fp : List Addr}, OwnAll K F H vs os fp → vs.length = os.length
  | [], _, _, h => by cases h; rfl
  | o :: os, _, _, h => by
    cases h with
    | cons h1 h2 => simp [OwnAll.len h2]
/-- F with the objects at fp as they stand in H -/
def frzAt (F H : Hp) (fp : List Addr) : Hp := fun b => if b ∈ fp then H b else F b
theorem frzAt_same {F H : Hp} {fp : List Addr} (n : ∀ b ∈ fp, F b = none) : Same F (frzAt F H fp) := fun b o h => by
  have : b ∉ fp := fun z => by rw [n b z] at h; cases h
  simp [frzAt, this, h]
theorem frzAt_in {F H : Hp} {fp : List Addr} (s : Same F H) : Same (frzAt F H fp) H := fun b o h => by
  unfold frzAt at h
  split at h
  · exact h
  · exact s _ _ h
theorem frzAt_of {F H : Hp} {fp : List Addr} {b : Addr} {o : HO} (h : frzAt F H fp b = some o) : F b = some o ∨ b ∈ fp := by
  unfold frzAt at h
  split at h
  · exact .inr ‹_›
  · exact .inl h
mutual
theorem OwnAt.frz {F H : Hp} {fx : List Addr} (nx : ∀ b ∈ fx, F b = none) : ∀ (o : Ow) (v : V) (fp : List Addr), OwnAt K F H v o fp → (∀ b ∈ fp, b ∈ fx) → Dp K (frzAt F H fx) v (viewD o)
  | .d x, v, fp, h, _ => by
    cases h with
    | d q => rw [viewD]; exact dpUp q (frzAt_same nx)
  | .l os, v, fp, h, hs => by
    cases h with
    | @l a _ _ _ h1 h2 h3 =>
      rw [viewD]
      have e : frzAt F H fx a = some (.lst _) := (if_pos (hs a List.mem_cons_self)).trans h2
      exact .lst (SqL.of e) (OwnAll.frz nx os _ _ h3 fun b hb => hs b (List.mem_cons_of_mem _ hb))
  | .m ps, v, fp, h, hs => by
    cases h with
    | @m a _ _ h1 h2 h3 =>
      rw [viewD]
      have e : frzAt F H fx a = some (.dK _) := (if_pos (hs a List.mem_cons_self)).trans h2
      exact .dct e (DpKv.mono (frzAt_same nx) ps _ h3)
theorem OwnAll.frz {F H : Hp} {fx : List Addr} (nx : ∀ b ∈ fx, F b = none) : ∀ (o : List Ow) (v : List V) (fp : List Addr), OwnAll K F H v o fp → (∀ b ∈ fp, b ∈ fx) → DpAll K (frzAt F H fx) v (viewAll o)
  | [], v, fp, h, _ => by cases h; rw [viewAll]; exact .nil
  | o :: os, v, fp, h, hs => by
    cases h with
    | cons h1 h2 => rw [viewAll]; exact .cons (OwnAt.frz nx o _ _ h1 fun b hb => hs b (List.mem_append_left _ hb)) (OwnAll.frz nx os _ _ h2 fun b hb => hs b (List.mem_append_right _ hb))
end
/-- a fresh owned value made data -/
theorem Ext.freeze {F H F' H' : Hp} {v : V} {o : Ow} {fp : List Addr} (e : Ext F H F' H') (h : OwnAt K F' H' v o fp) (n : ∀ b ∈ fp, H b = none) :
    ∃ F2, Ext F H F2 H' ∧ Dp K F2 v (viewD o) := by
  have nx : ∀ b ∈ fp, F' b = none := fun b hb => (OwnAt.there o v fp h b hb).1
  refine ⟨frzAt F' H' fp, ⟨e.ff.trans (frzAt_same nx), e.hh, fun b u q => ?_, frzAt_in e.fh⟩, OwnAt.frz nx o v fp h fun _ z => z⟩
  rcases frzAt_of q with z | z
  · exact e.fn b u z
  · exact .inr (n b z)

inductive EnvAt (K : PySem.W.Frag) (F H : Hp) : St → Ev → List Addr → Prop
  | nil : EnvAt K F H [] [] []
  | non {x : Option V} {σ : St} {env : Ev} {fp : List Addr} : EnvAt K F H σ env fp → EnvAt K F H (x :: σ) (none :: env) fp
  | som {v : V} {o : Ow} {σ : St} {env : Ev} {fp fps : List Addr} : OwnAt K F H v o fp → EnvAt K F H σ env fps → EnvAt K F H (some v :: σ) (some o :: env) (fp ++ fps)
theorem EnvAt.keep {F H F' H' : Hp} {fx fy : List Addr} (s : StepS F H fx F' H' fy) : ∀ {σ : St} {env : Ev} {fp : List Addr}, EnvAt K F H σ env fp → (∀ b ∈ fp, b ∉ fx) → EnvAt K F' H' σ env fp := by
  intro σ env fp h
  induction h with
  | nil => intro _; exact .nil
  | non h ih => intro n; exact .non (ih n)
  | som h1 h2 ih => intro n; exact .som (OwnAt.keep s _ _ _ h1 fun b hb => n b (List.mem_append_left _ hb)) (ih fun b hb => n b (List.mem_append_right _ hb))
theorem EnvAt.ext {F H F' H' : Hp} {σ : St} {env : Ev} {fp : List Addr} (h : EnvAt K F H σ env fp) (e : Ext F H F' H') : EnvAt K F' H' σ env fp :=
  h.keep (StepS.of_ext e []) fun _ _ => by simp
theorem EnvAt.there {F H : Hp} {σ : St} {env : Ev} {fp : List Addr} (h : EnvAt K F H σ env fp) : ∀ b ∈ fp, F b = none ∧ ∃ o, H b = some o := by
  induction h with
  | nil => intro b hb; cases hb
  | non h ih => exact ih
  | som h1 h2 ih =>
    intro b hb
    rcases List.mem_append.mp hb with e | e
    · exact OwnAt.there _ _ _ h1 b e
    · exact ih b e
theorem EnvAt.len {F H : Hp} {σ : St} {env : Ev} {fp : List Addr} (h : EnvAt K F H σ env fp) : σ.length = env.length := by
  induction h with
  | nil => rfl
  | non h ih => simp [ih]
  | som h1 h2 ih => simp [ih]
/-- a slot read: its own footprint, and the others' -/
theorem EnvAt.get {F H : Hp} {σ : St} {env : Ev} {fp : List Addr} (h : EnvAt K F H σ env fp) : ∀ {i : Nat} {o : Ow}, env[i]? = some (some o) → ∃ v fo, σ[i]? = some (some v) ∧ OwnAt K F H v o fo ∧ (∀ b ∈ fo, b ∈ fp) := by
  induction h with
  | nil => intro i o e; simp at e
  | non h ih =>
    intro i o e
    cases i with
    | zero => simp at e
    | succ i => simpa using ih (i := i) (by simpa using e)
  | @som v o' σ' env' fp1 fps h1 h2 ih =>
    intro i o e
    cases i with
    | zero =>
      simp at e; subst e
      exact ⟨v, fp1, rfl, h1, fun b hb => List.mem_append_left _ hb⟩
    | succ i =>
      obtain ⟨v2, fo, a, b, c⟩ := ih (i := i) (by simpa using e)
      exact ⟨v2, fo, by simpa using a, b, fun b hb => List.mem_append_right _ (c b hb)⟩
/-- a slot changed: the rest keeps; fo what stood there, fr the rest (F, H may have moved by a step within fo) -/
theorem EnvAt.put {F H : Hp} {σ : St} {env : Ev} {fp : List Addr} (h : EnvAt K F H σ env fp) : ∀ {i : Nat}, i < env.length → fp.Nodup → ∃ fr fo, (∀ b ∈ fr, b ∈ fp) ∧ (∀ b ∈ fo, b ∈ fp) ∧ fr.Nodup ∧ fo.Nodup ∧ (∀ b ∈ fo, b ∉ fr) ∧
    (∀ o, env[i]? = some (some o) → ∃ v, σ[i]? = some (some v) ∧ OwnAt K F H v o fo) ∧
    ∀ (F' H' : Hp) (fx fy : List Addr), StepS F H fx F' H' fy → (∀ b ∈ fr, b ∉ fx) → (∀ (x : Option V), EnvAt K F' H' (σ.set i x) (env.set i none) fr) ∧ ∀ (v : V) (o : Ow) (fn : List Addr), OwnAt K F' H' v o fn → fn.Nodup → (∀ b ∈ fn, b ∉ fr) → ∃ fp', fp'.Nodup ∧ (∀ b ∈ fp', b ∈ fn ∨ b ∈ fr) ∧ EnvAt K F' H' (σ.set i (some v)) (env.set i (some o)) fp' := by
  induction h with
  | nil => intro i hi; simp at hi
  | @non x σ' env' fps h ih =>
    intro i hi hn
    cases i with
    | zero =>
      refine ⟨fps, [], fun b z => z, (fun b z => nomatch z), hn, List.nodup_nil, fun b z => (nomatch z), fun o e => by simp at e, fun F' H' fx fy s n => ⟨fun x => .non (h.keep s n), fun v o fn ho hd hx => ?_⟩⟩
      refine ⟨fn ++ fps, ?_, fun b hb => List.mem_append.mp hb, .som ho (h.keep s n)⟩
      rw [List.nodup_append]
      exact ⟨hd, hn, fun a ha b hb e => hx a ha (e ▸ hb)⟩
    | succ i =>
      obtain ⟨fr, fo, a1, a2, a3, a3', a4, a5, a6⟩ := ih (i := i) (by simpa using hi) hn
      refine ⟨fr, fo, a1, a2, a3, a3', a4, by simpa using a5, fun F' H' fx fy s n => ⟨fun x => .non ((a6 F' H' fx fy s n).1 x), fun v o fn ho hd hx => ?_⟩⟩
      obtain ⟨fp', b1, b2, b3⟩ := (a6 F' H' fx fy s n).2 v o fn ho hd hx
      exact ⟨fp', b1, b2, .non b3⟩
  | @som v0 o0 σ' env' f1 fps h1 h2 ih =>
    intro i hi hn
    rw [List.nodup_append] at hn
    obtain ⟨n1, n2, n3⟩ := hn
    cases i with
    | zero =>
      refine ⟨fps, f1, fun b z => List.mem_append_right _ z, fun b z => List.mem_append_left _ z, n2, n1, fun b z q => n3 b z b q rfl, fun o e => ?_, fun F' H' fx fy s n => ⟨fun x => .non (h2.keep s n), fun v o fn ho hd hx => ?_⟩⟩
      · simp at e; subst e; exact ⟨v0, rfl, h1⟩
      · refine ⟨fn ++ fps, ?_, fun b hb => List.mem_append.mp hb, .som ho (h2.keep s n)⟩
        rw [List.nodup_append]
        exact ⟨hd, n2, fun a ha b hb e => hx a ha (e ▸ hb)⟩
    | succ i =>
      obtain ⟨fr, fo, a1, a2, a3, a3', a4, a5, a6⟩ := ih (i := i) (by simpa using hi) n2
      have dis : ∀ b ∈ f1, b ∉ fr := fun b z q => n3 b z b (a1 b q) rfl
      have key : ∀ (F' H' : Hp) (fx fy : List Addr), StepS F H fx F' H' fy → (∀ b ∈ f1 ++ fr, b ∉ fx) → OwnAt K F' H' v0 o0 f1 := fun F' H' fx fy s n => OwnAt.keep s _ _ _ h1 fun b hb => n b (List.mem_append_left _ hb)
      refine ⟨f1 ++ fr, fo, fun b z => ?_, fun b z => List.mem_append_right _ (a2 b z), ?_, a3', fun b z q => ?_, by simpa using a5, fun F' H' fx fy s n => ⟨fun x => .som (key F' H' fx fy s n) ((a6 F' H' fx fy s fun b hb => n b (List.mem_append_right _ hb)).1 x), fun v o fn ho hd hx => ?_⟩⟩
      · rcases List.mem_append.mp z with z | z
        · exact List.mem_append_left _ z
        · exact List.mem_append_right _ (a1 b z)
      · rw [List.nodup_append]; exact ⟨n1, a3, fun a ha b hb e => dis a ha (e ▸ hb)⟩
      · rcases List.mem_append.mp q with q | q
        · exact n3 b q b (a2 b z) rfl
        · exact a4 b z q
      · obtain ⟨fp', b1, b2, b3⟩ := (a6 F' H' fx fy s fun b hb => n b (List.mem_append_right _ hb)).2 v o fn ho hd fun b hb q => hx b hb (List.mem_append_right _ q)
        have dj : ∀ b ∈ f1, b ∉ fp' := fun b z q => by
          rcases b2 b q with r | r
          · exact hx b r (List.mem_append_left _ z)
          · exact dis b z r
        refine ⟨f1 ++ fp', ?_, fun b hb => ?_, .som (key F' H' fx fy s n) b3⟩
        · rw [List.nodup_append]; exact ⟨n1, b1, fun a ha b hb e => dj a ha (e ▸ hb)⟩
        · rcases List.mem_append.mp hb with r | r
          · exact .inr (List.mem_append_left _ r)
          · exact (b2 b r).imp id (List.mem_append_right _)

structure Sat (K : PySem.W.Frag) (F H : Hp) (σ : St) (env : Ev) (fp : List Addr) : Prop where
  fh : Same F H
  en : EnvAt K F H σ env fp
  nd : fp.Nodup
theorem Sat.ext {F H F' H' : Hp} {σ : St} {env : Ev} {fp : List Addr} (s : Sat K F H σ env fp) (e : Ext F H F' H') : Sat K F' H' σ env fp := ⟨e.fh, s.en.ext e, s.nd⟩
end
end Mir
end
set_option Elab.async false
set_option linter.all false
set_option maxRecDepth 100000
set_option maxHeartbeats 4000000
noncomputable section
namespace Mir
open PySem PySem.Spec L2

def Post (X : Cx) (W : WX) {α β : Type} (P : Hp → α → β → Hp → Hp → Prop) (F H : Hp) (σ : L2.St) : R α → (β → Hp → Prop) → Prop
  | .no, _ => False
  | .ok a, Q => ∀ v F' H', Ext F H F' H' → P H a v F' H' → Q v H'
  | .ex c, _ => ∀ C F' H', X.mg c = some (.ref C) → Ext F H F' H' → W (.ref C) none σ H'
class Anti {α β : Type} (P : Hp → α → β → Hp → Hp → Prop) : Prop where
  anti : ∀ {H H1 : Hp} {a : α} {v : β} {F' H' : Hp}, Same H H1 → P H1 a v F' H' → P H a v F' H'
def PVw (K : PySem.W.Frag) (_ : Hp) (d : D) (v : V) (_ H' : Hp) : Prop := Dp K H' v d
def PFz (K : PySem.W.Frag) (_ : Hp) (d : D) (v : V) (F' _ : Hp) : Prop := Dp K F' v d
def POw (K : PySem.W.Frag) (H : Hp) (r : Ow) (v : V) (F' H' : Hp) : Prop := ∃ fp, OwnAt K F' H' v r fp ∧ fp.Nodup ∧ ∀ b ∈ fp, H b = none
/-- a list or tuple whose items are frozen, though it may itself change; other data -/
def PSq (K : PySem.W.Frag) (_ : Hp) (d : D) (v : V) (F' H' : Hp) : Prop := match d with
  | .list ds => ∃ a vs, v = .ref a ∧ SqL K H' a vs ∧ DpAll K F' vs ds
  | d => Dp K F' v d
def PTb (_ : Hp) (b : Bool) (v : Bool) (_ _ : Hp) : Prop := v = b
def PAv (K : PySem.W.Frag) (_ : Hp) (ds : List D) (vs : List V) (_ H' : Hp) : Prop := DpAll K H' vs ds
def PAf (K : PySem.W.Frag) (_ : Hp) (ds : List D) (vs : List V) (F' _ : Hp) : Prop := DpAll K F' vs ds
variable {K : PySem.W.Frag}
instance : Anti (PVw K) := ⟨fun _ h => h⟩
instance : Anti (PFz K) := ⟨fun _ h => h⟩
instance : Anti (PSq K) := ⟨fun {_ _ _ _ _ _} _ h => h⟩
instance : Anti PTb := ⟨fun _ h => h⟩
instance : Anti (PAv K) := ⟨fun _ h => h⟩
instance : Anti (PAf K) := ⟨fun _ h => h⟩
instance : Anti (POw K) := ⟨fun s ⟨fp, a, b, c⟩ => ⟨fp, a, b, fun x hx => s.free (c x hx)⟩⟩

/-- the semantics: t (a reading) is implied by the mirror f -/
def Sm (X : Cx) (W : WX) {α β : Type} (P : Hp → α → β → Hp → Hp → Prop) (t : L2.St → Hp → (β → Hp → Prop) → Prop) (f : Ev → R α) : Prop :=
  ∀ F H σ env fp Q, Sat X.K F H σ env fp → Post X W P F H σ (f env) Q → t σ H Q
section
variable {X : Cx} {W : WX} {α β γ δ : Type}
theorem Post.ext {P : Hp → α → β → Hp → Hp → Prop} [Anti P] {F H F1 H1 : Hp} {σ : L2.St} {r : R α} {Q : β → Hp → Prop} (h : Post X W P F H σ r Q) (e : Ext F H F1 H1) : Post X W P F1 H1 σ r Q := by
  cases r with
  | no => exact h
  | ok a => exact fun v F' H' e' p => h v F' H' (e.trans e') (Anti.anti e.hh p)
  | ex c => exact fun C F' H' m e' => h C F' H' m (e.trans e')
/-- evaluate one part, go on -/
theorem Sm.go {P : Hp → α → β → Hp → Hp → Prop} {P2 : Hp → γ → δ → Hp → Hp → Prop} [Anti P2] {t : L2.St → Hp → (β → Hp → Prop) → Prop} {f : Ev → R α} (s : Sm X W P t f) {g : α → R γ} {F H : Hp} {σ : L2.St} {env : Ev} {fp : List Addr} {Q : δ → Hp → Prop} {T : β → Hp → Prop}
    (sat : Sat X.K F H σ env fp) (h : Post X W P2 F H σ ((f env).bind g) Q) (k : ∀ a v F1 H1, Sat X.K F1 H1 σ env fp → P H a v F1 H1 → Ext F H F1 H1 → Post X W P2 F1 H1 σ (g a) Q → T v H1) : t σ H T := by
  refine s F H σ env fp T sat ?_
  cases e : f env with
  | no => rw [e] at h; exact h
  | ok a =>
    rw [e] at h
    exact fun v F' H' x p => k a v F' H' (sat.ext x) p x (Post.ext (show Post X W P2 F H σ (g a) Q from h) x)
  | ex c => rw [e] at h; exact h
theorem Post.thru {β' : Type} {P : Hp → α → β → Hp → Hp → Prop} {P2 : Hp → γ → β' → Hp → Hp → Prop} {F H : Hp} {σ : L2.St} {r : R α} {g : α → R γ} {Q : β → Hp → Prop} {Q2 : β' → Hp → Prop} (h : Post X W P2 F H σ (r.bind g) Q2)
    (k : ∀ a, r = .ok a → Post X W P2 F H σ (g a) Q2 → ∀ v F' H', Ext F H F' H' → P H a v F' H' → Q v H') : Post X W P F H σ r Q := by
  cases r with
  | no => exact h
  | ok a => exact k a rfl h
  | ex c => exact h
theorem Sm.map {P : Hp → α → β → Hp → Hp → Prop} {P2 : Hp → γ → β → Hp → Hp → Prop} {t : L2.St → Hp → (β → Hp → Prop) → Prop} {f : Ev → R α} (s : Sm X W P t f) {g : α → R γ} (k : ∀ H a v F' H', Same F' H' → P H a v F' H' → ∃ c, g a = .ok c ∧ P2 H c v F' H') :
    Sm X W P2 t fun env => (f env).bind g := by
  intro F H σ env fp Q sat h
  refine s F H σ env fp Q sat (Post.thru h fun a _ h' v F' H' x p => ?_)
  obtain ⟨c, hc, q⟩ := k H a v F' H' x.fh p
  rw [hc] at h'
  exact h' v F' H' x q
end

def eB {α β : Type} (f : Ev → R α) (g : α → R β) (env : Ev) : R β := (f env).bind g
def eM {α β : Type} (f : Ev → R α) (g : α → β) (env : Ev) : R β := (f env).map g

section
variable (X : Cx) (W : WX)
def DV (e : Expr) (f : Ev → R D) : Prop := ∃ t, PE X e t ∧ Sm X W (PVw X.K) t f
def DF (e : Expr) (f : Ev → R D) : Prop := ∃ t, PE X e t ∧ Sm X W (PFz X.K) t f
def DE (e : Expr) (f : Ev → R Ow) : Prop := ∃ t, PE X e t ∧ Sm X W (POw X.K) t f
def DL (e : Expr) (f : Ev → R D) : Prop := ∃ t, PE X e t ∧ Sm X W (PSq X.K) t f
def DT (e : Expr) (f : Ev → R Bool) : Prop := ∃ t, PT X e t ∧ Sm X W PTb t f
def DW (e : Expr) (f : Ev → R Bool) : Prop := ∃ t, PW X e t ∧ Sm X W PTb t f
def DA (es : List Expr) (f : Ev → R (List D)) : Prop := ∃ t, PA X es t ∧ Sm X W (PAf X.K) t f
end
def unD : Ow → Option D
  | .d x => some x
  | .l _ => none
  | .m _ => none
def unDs : List Ow → Option (List D)
  | [] => some []
  | o :: os => (unD o).bind fun x => (unDs os).map fun xs => x :: xs
@[simp] theorem unDs_map : ∀ ds : List D, unDs (ds.map Ow.d) = some ds
  | [] => rfl
  | d :: ds => by simp [unDs, unD, unDs_map ds]
theorem unDs_eq : ∀ {os : List Ow} {ds : List D}, unDs os = some ds → os = ds.map Ow.d
  | [], ds, h => by simp [unDs] at h; subst h; rfl
  | .d x :: os, ds, h => by
    simp only [unDs, unD, Option.bind_some, Option.map_eq_some_iff] at h
    obtain ⟨xs, h1, h2⟩ := h
    subst h2
    rw [unDs_eq h1]; rfl
  | .l _ :: os, ds, h => by simp [unDs, unD] at h
  | .m _ :: os, ds, h => by simp [unDs, unD] at h
def shD : Ow → R D
  | .d x => .ok x
  | .l os => match unDs os with
    | some ds => .ok (.list ds)
    | none => .no
  | .m _ => .no
@[simp] theorem shD_d (x : D) : shD (.d x) = .ok x := rfl
@[simp] theorem shD_l (ds : List D) : shD (.l (ds.map Ow.d)) = .ok (.list ds) := by simp [shD]
@[simp] theorem shD_nil : shD (.l []) = .ok (.list []) := rfl
theorem OwnAll.dp {F H : Hp} : ∀ {ds : List D} {vs : List V} {fp : List Addr}, OwnAll K F H vs (ds.map Ow.d) fp → DpAll K F vs ds ∧ fp = []
  | [], _, _, h => by cases h; exact ⟨.nil, rfl⟩
  | d :: ds, _, _, h => by
    cases h with
    | cons h1 h2 =>
      cases h1 with
      | d q =>
        obtain ⟨a, b⟩ := OwnAll.dp (ds := ds) h2
        exact ⟨.cons q a, by rw [b]; rfl⟩
theorem OwnAll.of_dp {F H : Hp} : ∀ {ds : List D} {vs : List V}, DpAll K F vs ds → OwnAll K F H vs (ds.map Ow.d) []
  | [], _, h => by cases h; exact .nil
  | d :: ds, _, h => by
    cases h with
    | cons h1 h2 => exact .cons (fp := []) (.d h1) (OwnAll.of_dp h2)
theorem PSq.of {F H : Hp} {v : V} {d : D} {H0 : Hp} (s : Same F H) (h : Dp K F v d) : PSq K H0 d v F H := by
  cases d with
  | list ds =>
    cases h with
    | lst hs ha => exact ⟨_, _, rfl, s.seq hs, ha⟩
  | _ => exact h
theorem PSq.view {F H : Hp} {v : V} {d : D} {H0 : Hp} (s : Same F H) (h : PSq K H0 d v F H) : Dp K H v d := by
  cases d with
  | list ds =>
    obtain ⟨a, vs, rfl, h1, h2⟩ := h
    exact .lst h1 (dpaUp h2 s)
  | _ => exact dpUp (show Dp K F v _ from h) s
theorem PSq.ext {F H F1 H1 : Hp} {v : V} {d : D} {H0 H2 : Hp} (e : Ext F H F1 H1) (h : PSq K H0 d v F H) : PSq K H2 d v F1 H1 := by
  cases d with
  | list ds =>
    obtain ⟨a, vs, rfl, h1, h2⟩ := h
    exact ⟨_, _, rfl, e.hh.seq h1, dpaUp h2 e.ff⟩
  | _ => exact dpUp (show Dp K F v _ from h) e.ff
theorem own_seq {F H : Hp} {v : V} {o : Ow} {fp : List Addr} {d : D} {H0 : Hp} (s : Same F H) (h : OwnAt K F H v o fp) (e : shD o = .ok d) : PSq K H0 d v F H := by
  cases o with
  | d x =>
    cases h with
    | d p =>
      cases e
      exact .of s p
  | l os =>
    cases h with
    | l h1 h2 h3 =>
      have e' : (match unDs os with | some ds => (R.ok (.list ds) : R D) | none => .no) = .ok d := e
      clear e
      cases u : unDs os with
      | none => rw [u] at e'; cases e'
      | some ds =>
        rw [u] at e'
        cases e'
        rw [unDs_eq u] at h3
        exact ⟨_, _, rfl, SqL.of h2, (OwnAll.dp h3).1⟩
  | m ps => cases e
theorem shD_ex (o : Ow) (c : Str) : shD o ≠ .ex c := fun e => by
  cases o with
  | d x => cases e
  | l os =>
    have e' : (match unDs os with | some ds => (R.ok (.list ds) : R D) | none => .no) = .ex c := e
    split at e' <;> cases e'
  | m ps => cases e
theorem shD_ok {X : Cx} {W : WX} {β : Type} {P : Hp → D → β → Hp → Hp → Prop} {F H : Hp} {σ : L2.St} {o : Ow} {Q : β → Hp → Prop} (h : Post X W P F H σ (shD o) Q) : ∃ r, shD o = .ok r := by
  cases e2 : shD o with
  | no => rw [e2] at h; exact h.elim
  | ex c => exact absurd e2 (shD_ex o c)
  | ok r => exact ⟨r, rfl⟩
section
variable {X : Cx} {W : WX} {e a b : Expr} {es : List Expr} {pos : Pos}
theorem dv_df {f : Ev → R D} (h : DF X W e f) : DV X W e f := by
  obtain ⟨t, p, s⟩ := h
  refine ⟨t, p, fun F H σ env fp Q sat h => s F H σ env fp Q sat ?_⟩
  cases e : f env with
  | no => rw [e] at h; exact h
  | ex c => rw [e] at h; exact h
  | ok d => rw [e] at h; exact fun v F' H' x q => h v F' H' x (dpUp q x.fh)
theorem dv_de {f : Ev → R Ow} (h : DE X W e f) : DV X W e (eM f viewD) := by
  obtain ⟨t, p, s⟩ := h
  refine ⟨t, p, Sm.map s fun H o v F' H' sm ⟨fp, q, _⟩ => ⟨viewD o, rfl, OwnAt.view sm o v fp q⟩⟩
theorem de_df {f : Ev → R D} (h : DF X W e f) : DE X W e (eM f Ow.d) := by
  obtain ⟨t, p, s⟩ := h
  refine ⟨t, p, Sm.map s fun H d v F' H' sm q => ⟨.d d, rfl, [], .d q, List.nodup_nil, fun b z => nomatch z⟩⟩
theorem df_de {f : Ev → R Ow} (h : DE X W e f) : DF X W e (eM f viewD) := by
  obtain ⟨t, p, s⟩ := h
  refine ⟨t, p, fun F H σ env fp Q sat h => s F H σ env fp Q sat (Post.thru h fun d _ h' v F' H' x ⟨fp, q, _, n⟩ => ?_)⟩
  obtain ⟨F2, x2, q2⟩ := x.freeze q n
  exact h' v F2 H' x2 q2
theorem dl_df {f : Ev → R D} (h : DF X W e f) : DL X W e f := by
  obtain ⟨t, p, s⟩ := h
  refine ⟨t, p, fun F H σ env fp Q sat h => s F H σ env fp Q sat ?_⟩
  cases e : f env with
  | no => rw [e] at h; exact h
  | ex c => rw [e] at h; exact h
  | ok d => rw [e] at h; exact fun v F' H' x q => h v F' H' x (.of x.fh q)
theorem dl_de {f : Ev → R Ow} (h : DE X W e f) : DL X W e (eB f shD) := by
  obtain ⟨t, p, s⟩ := h
  refine ⟨t, p, fun F H σ env fp Q sat h => s F H σ env fp Q sat (Post.thru h fun d _ h' v F' H' x ⟨fp, q, _, n⟩ => ?_)⟩
  obtain ⟨r, e2⟩ := shD_ok h'
  rw [e2] at h'
  exact h' v F' H' x (own_seq x.fh q e2)
def eVar (i : Nat) (env : Ev) : R D := match env[i]? with
  | some (some (.d x)) => .ok x
  | _ => .no
def eVarO (i : Nat) (env : Ev) : R Ow := match env[i]? with
  | some (some o) => .ok o
  | _ => .no
theorem eVar_ok {P : Hp → D → V → Hp → Hp → Prop} {F H : Hp} {σ : L2.St} {i : Nat} {env : Ev} {Q : VK} (h : Post X W P F H σ (eVar i env) Q) : ∃ d, env[i]? = some (some (.d d)) ∧ eVar i env = .ok d := by
  unfold eVar at h ⊢
  split at h
  · rename_i d he
    exact ⟨d, he, rfl⟩
  · exact h.elim
theorem eVarO_ok {γ : Type} {P : Hp → γ → V → Hp → Hp → Prop} {F H : Hp} {σ : L2.St} {i : Nat} {env : Ev} {Q : VK} {g : Ow → R γ} (h : Post X W P F H σ ((eVarO i env).bind g) Q) : ∃ d, env[i]? = some (some d) ∧ eVarO i env = .ok d ∧ Post X W P F H σ (g d) Q := by
  unfold eVarO at h ⊢
  cases e : env[i]? with
  | none => rw [e] at h; exact h.elim
  | some o =>
    cases o with
    | none => rw [e] at h; exact h.elim
    | some o => rw [e] at h; exact ⟨o, rfl, rfl, h⟩
theorem df_var (i : Nat) {x : Str} (hN : X.N[i]? = some x := by rfl) (hv : Vis X.env.scope x := by first | exact Or.inl rfl | exact Or.inr (Or.inl rfl) | exact Or.inr (Or.inr rfl)) (hd : (x == ("__debug__" : Str)) = false := by decide)
    (hcd : (x == ("__classdict__" : Str)) = false := by decide) : DF X W (.Name x pos) (eVar i) := by
  refine ⟨_, pe_var hN hv hd hcd, fun F H σ env fp Q sat h => ?_⟩
  obtain ⟨d, he, e2⟩ := eVar_ok h
  rw [e2] at h
  obtain ⟨v, fo, h1, h2, _⟩ := sat.en.get he
  cases h2 with
  | d q => exact ⟨v, h1, h v F H (.refl sat.fh) q⟩
def eC (d : D) (_ : Ev) : R D := .ok d
theorem df_int {i j} : DF X W (.Constant (.int i) j pos) (eC (.int i)) := ⟨_, pe_int, fun F H σ env fp Q sat h => h _ F H (.refl sat.fh) (.int i)⟩
theorem df_bl {i j} : DF X W (.Constant (.bool i) j pos) (eC (.bool i)) := ⟨_, pe_bl, fun F H σ env fp Q sat h => h _ F H (.refl sat.fh) (.bl i)⟩
theorem df_non {j} : DF X W (.Constant .none j pos) (eC .none) := ⟨_, pe_non, fun F H σ env fp Q sat h => h _ F H (.refl sat.fh) .non⟩
theorem df_str {i j} : DF X W (.Constant (.str i) j pos) (eC (.str i)) := ⟨_, pe_str, fun F H σ env fp Q sat h => h _ F H (.refl sat.fh) (.str i)⟩
def aNil (_ : Ev) : R (List D) := .ok []
def aCons (f : Ev → R D) (g : Ev → R (List D)) (env : Ev) : R (List D) := (f env).bind fun d => (g env).map fun ds => d :: ds
theorem da_nil : DA X W [] aNil := ⟨_, pa_nil, fun F H σ env fp Q sat h => h _ F H (.refl sat.fh) .nil⟩
theorem da_cons {f : Ev → R D} {g : Ev → R (List D)} (hf : DF X W e f) (hg : DA X W es g) (hs : starEach (e :: es) X.env = (false, eval e X.env) :: starEach es X.env := by rfl) : DA X W (e :: es) (aCons f g) := by
  obtain ⟨t, p, s⟩ := hf
  obtain ⟨t', p', s'⟩ := hg
  refine ⟨_, pa_cons p p' hs, fun F H σ env fp Q sat h => ?_⟩
  refine s.go sat h fun d v F1 H1 sat1 q _ h1 => ?_
  refine s'.go sat1 h1 fun ds vs F2 H2 sat2 q' x2 h2 => ?_
  exact h2 _ F2 H2 (.refl sat2.fh) (.cons (dpUp q x2.ff) q')
def eTup (f : Ev → R (List D)) (env : Ev) : R D := (f env).bind fun ds => guard (ds.length ≤ sizeLine) (.ok (.tuple ds))
def eLst (f : Ev → R (List D)) (env : Ev) : R Ow := (f env).bind fun ds => guard (ds.length ≤ sizeLine) (.ok (.l (ds.map Ow.d)))
theorem guard_post {P : Hp → α → β → Hp → Hp → Prop} {F H : Hp} {σ : L2.St} {c : Prop} {r : R α} {Q : β → Hp → Prop} (h : Post X W P F H σ (guard c r) Q) : c ∧ Post X W P F H σ r Q := by
  unfold guard at h
  split at h
  · exact ⟨‹_›, h⟩
  · exact h.elim
theorem df_tup {x1} {f : Ev → R (List D)} (hf : DA X W es f) : DF X W (.Tuple es x1 pos) (eTup f) := by
  obtain ⟨t, p, s⟩ := hf
  refine ⟨_, pe_tup p, fun F H σ env fp Q sat h => ?_⟩
  refine s.go sat h fun ds vs F1 H1 sat1 q _ h1 => ?_
  obtain ⟨hl, h2⟩ := guard_post h1
  refine ⟨by rw [DpAll.len q]; exact hl, fun p hp => ?_⟩
  have x := Ext.frz sat1.fh hp (.tup vs)
  exact h2 _ _ _ x (.tup (SqT.of upd_same) (dpaUp q x.ff))
theorem de_lst {f : Ev → R (List D)} (hf : DA X W es f) : DE X W (.List es pos) (eLst f) := by
  obtain ⟨t, p, s⟩ := hf
  refine ⟨_, pe_lst p, fun F H σ env fp Q sat h => ?_⟩
  refine s.go sat h fun ds vs F1 H1 sat1 q _ h1 => ?_
  obtain ⟨hl, h2⟩ := guard_post h1
  refine ⟨by rw [DpAll.len q]; exact hl, fun p hp => ?_⟩
  have x := Ext.own sat1.fh hp (.lst vs)
  exact h2 _ _ _ x ⟨[p], .l (free_of sat1.fh hp) upd_same (OwnAll.of_dp q), by simp, by simpa using hp⟩

def R.of {α : Type} : Option α → R α
  | some a => .ok a
  | none => .no
@[simp] theorem R.of_some (a : α) : R.of (some a) = .ok a := rfl
@[simp] theorem R.of_none : R.of (none : Option α) = .no := rfl
/-- data in, flat data out, the heap as it was -/
def OpS (K : PySem.W.Frag) (r : R2) (g : D → D → Option D) : Prop := ∀ H x y dx dy d Q, Dp K H x dx → Dp K H y dy → g dx dy = some d → (∀ v, (∀ F, Dp K F v d) → Q v H) → r x y H Q
def eBin (g : D → D → Option D) (f h : Ev → R D) (env : Ev) : R D := (f env).bind fun x => (h env).bind fun y => R.of (g x y)
theorem post_of {P : Hp → α → β → Hp → Hp → Prop} {F H : Hp} {σ : L2.St} {o : Option α} {Q : β → Hp → Prop} (h : Post X W P F H σ (R.of o) Q) : ∃ a, o = some a ∧ ∀ v F' H', Ext F H F' H' → P H a v F' H' → Q v H' := by
  cases o with
  | none => exact h.elim
  | some a => exact ⟨a, rfl, h⟩
theorem op_sm {r : R2} {g : D → D → Option D} (hs : OpS X.K r g) {ta tb : TE} {f h : Ev → R D} (sa : Sm X W (PVw X.K) ta f) (sb : Sm X W (PVw X.K) tb h) : Sm X W (PFz X.K) (tOp r ta tb) (eBin g f h) := by
  intro F H σ env fp Q sat hp
  refine sa.go sat hp fun d v F1 H1 sat1 q _ h1 => ?_
  refine sb.go sat1 h1 fun d' v' F2 H2 sat2 q' x2 h2 => ?_
  obtain ⟨z, hz, h3⟩ := post_of h2
  exact hs H2 v v' d d' z Q (dpUp q x2.hh) q' hz fun u hu => h3 u F2 H2 (.refl sat2.fh) (hu _)
theorem df_bin {op : Operator} {r : R2} {g : D → D → Option D} (ho : OpR X (binaryOp op) r) (hs : OpS X.K r g) {f h : Ev → R D} (ha : DV X W a f) (hb : DV X W b h) : DF X W (.BinOp a op b pos) (eBin g f h) := by
  obtain ⟨ta, pa, sa⟩ := ha
  obtain ⟨tb, pb, sb⟩ := hb
  exact ⟨_, pe_op ho pa pb, op_sm hs sa sb⟩
theorem df_cmp {op : CmpOp} {r : R2} {g : D → D → Option D} (ho : OpR X (compareOp op) r) (hs : OpS X.K r g) {f h : Ev → R D} (ha : DV X W a f) (hb : DV X W b h) (hm : behindInMarks op b = false := by first | exact nomark _ | rfl) :
    DF X W (.Compare a [op] [b] pos) (eBin g f h) := by
  obtain ⟨ta, pa, sa⟩ := ha
  obtain ⟨tb, pb, sb⟩ := hb
  exact ⟨_, pe_cmpR ho pa pb hm, op_sm hs sa sb⟩
def asB : D → R Bool
  | .bool b => .ok b
  | _ => .no
@[simp] theorem asB_bool (b : Bool) : asB (.bool b) = .ok b := rfl
theorem tb_sm {t : TE} {f : Ev → R D} (s : Sm X W (PVw X.K) t f) : Sm X W PTb (fun σ H Q => t σ H fun x H' => ∃ k, x = .bl k ∧ Q k H') (eB f asB) := by
  intro F H σ env fp Q sat hp
  refine s.go sat hp fun d v F1 H1 sat1 q _ h1 => ?_
  cases d with
  | bool b =>
    cases q
    exact ⟨b, rfl, h1 b F1 H1 (.refl sat1.fh) rfl⟩
  | _ => exact h1.elim
theorem dt_cmp {op : CmpOp} {r : R2} {g : D → D → Option D} (ho : OpR X (compareOp op) r) (hs : OpS X.K r g) {f h : Ev → R D} (ha : DV X W a f) (hb : DV X W b h) (hm : behindInMarks op b = false := by first | exact nomark _ | rfl) :
    DT X W (.Compare a [op] [b] pos) (eB (eBin g f h) asB) := by
  obtain ⟨ta, pa, sa⟩ := ha
  obtain ⟨tb, pb, sb⟩ := hb
  refine ⟨_, pt_cmpR ho pa pb hm, tb_sm ?_⟩
  intro F H σ env fp Q sat hp
  refine op_sm hs sa sb F H σ env fp Q sat ?_
  cases e : eBin g f h env with
  | no => rw [e] at hp; exact hp
  | ex c => rw [e] at hp; exact hp
  | ok d => rw [e] at hp; exact fun v F' H' x q => hp v F' H' x (dpUp q x.fh)
theorem dt_val {f : Ev → R D} (h : DV X W e f) (he : ∀ whole, isTrue e X.env whole = (do let v ← whole; standAt e.pos; holding [v] (truthy v)) := by intro _; rfl) : DT X W e (eB f asB) := by
  obtain ⟨t, p, s⟩ := h
  exact ⟨_, pt_val p he, tb_sm s⟩
def tNotE (f : Ev → R Bool) (env : Ev) : R Bool := (f env).map (!·)
theorem dt_not {f : Ev → R Bool} (h : DT X W a f) : DT X W (.UnaryOp .Not a pos) (tNotE f) := by
  obtain ⟨t, p, s⟩ := h
  refine ⟨_, pt_not p, fun F H σ env fp Q sat hp => ?_⟩
  refine s.go sat hp fun b v F1 H1 sat1 q _ h1 => ?_
  obtain rfl : v = b := q
  exact h1 _ F1 H1 (.refl sat1.fh) rfl
def tAndE (f g : Ev → R Bool) (env : Ev) : R Bool := (f env).bind fun b => if b = true then g env else .ok false
def tOrE (f g : Ev → R Bool) (env : Ev) : R Bool := (f env).bind fun b => if b = true then .ok true else g env
theorem dw_and1 {f : Ev → R Bool} (h : DT X W a f) : DW X W (.BoolOp .And [a] pos) f := by
  obtain ⟨t, p, s⟩ := h
  exact ⟨_, pw_and1 p, s⟩
theorem dw_or1 {f : Ev → R Bool} (h : DT X W a f) : DW X W (.BoolOp .Or [a] pos) f := by
  obtain ⟨t, p, s⟩ := h
  exact ⟨_, pw_or1 p, s⟩
theorem dw_and {rest : List Expr} {f g : Ev → R Bool} (h : DT X W a f) (h2 : DW X W (.BoolOp .And (b :: rest) pos) g) : DW X W (.BoolOp .And (a :: b :: rest) pos) (tAndE f g) := by
  obtain ⟨t, p, s⟩ := h
  obtain ⟨t', p', s'⟩ := h2
  refine ⟨_, pw_and p p', fun F H σ env fp Q sat hp => ?_⟩
  refine s.go sat hp fun b v F1 H1 sat1 q _ h1 => ?_
  obtain rfl : v = b := q
  cases v with
  | true => exact s' F1 H1 σ env fp Q sat1 h1
  | false => exact h1 false F1 H1 (.refl sat1.fh) rfl
theorem dw_or {rest : List Expr} {f g : Ev → R Bool} (h : DT X W a f) (h2 : DW X W (.BoolOp .Or (b :: rest) pos) g) : DW X W (.BoolOp .Or (a :: b :: rest) pos) (tOrE f g) := by
  obtain ⟨t, p, s⟩ := h
  obtain ⟨t', p', s'⟩ := h2
  refine ⟨_, pw_or p p', fun F H σ env fp Q sat hp => ?_⟩
  refine s.go sat hp fun b v F1 H1 sat1 q _ h1 => ?_
  obtain rfl : v = b := q
  cases v with
  | false => exact s' F1 H1 σ env fp Q sat1 h1
  | true => exact h1 true F1 H1 (.refl sat1.fh) rfl
theorem dt_dw {f : Ev → R Bool} (h : DW X W a f) : DT X W a f := by
  obtain ⟨t, p, s⟩ := h
  exact ⟨_, p.pt, s⟩
def eAnd (f g : Ev → R D) (env : Ev) : R D := ((f env).bind asB).bind fun b => if b = true then g env else .ok (.bool false)
def eOr (f g : Ev → R D) (env : Ev) : R D := ((f env).bind asB).bind fun b => if b = true then .ok (.bool true) else g env
def eNot (f : Ev → R D) (env : Ev) : R D := ((f env).bind asB).bind fun b => .ok (.bool !b)
theorem R.bind_assoc {α β γ : Type} (r : R α) (f : α → R β) (g : β → R γ) : (r.bind f).bind g = r.bind fun a => (f a).bind g := by cases r <;> rfl
theorem df_one {op} {f : Ev → R D} (h : DF X W a f) : DF X W (.BoolOp op [a] pos) f := by
  obtain ⟨t, p, s⟩ := h
  exact ⟨_, pe_one p, s⟩
theorem df_and {rest : List Expr} {f g : Ev → R D} (h : DV X W a f) (h2 : DF X W (.BoolOp .And (b :: rest) pos) g) : DF X W (.BoolOp .And (a :: b :: rest) pos) (eAnd f g) := by
  obtain ⟨t, p, s⟩ := h
  obtain ⟨t', p', s'⟩ := h2
  refine ⟨_, pe_and p p', fun F H σ env fp Q sat hp => ?_⟩
  unfold eAnd at hp
  rw [R.bind_assoc] at hp
  refine s.go sat hp fun d v F1 H1 sat1 q _ h1 => ?_
  cases d with
  | bool b =>
    cases q
    refine ⟨b, rfl, ?_⟩
    cases b with
    | true => exact s' F1 H1 σ env fp Q sat1 h1
    | false => exact h1 _ F1 H1 (.refl sat1.fh) (.bl false)
  | _ => exact h1.elim
theorem df_not {f : Ev → R D} (h : DV X W a f) : DF X W (.UnaryOp .Not a pos) (eNot f) := by
  obtain ⟨t, p, s⟩ := h
  refine ⟨_, pe_not p, fun F H σ env fp Q sat hp => ?_⟩
  unfold eNot at hp
  rw [R.bind_assoc] at hp
  refine s.go sat hp fun d v F1 H1 sat1 q _ h1 => ?_
  cases d with
  | bool b =>
    cases q
    exact ⟨b, rfl, h1 _ F1 H1 (.refl sat1.fh) (.bl _)⟩
  | _ => exact h1.elim
def eIf (c : Ev → R Bool) (f g : Ev → R D) (env : Ev) : R D := (c env).bind fun b => if b = true then f env else g env
end
end Mir
end
set_option Elab.async false
set_option linter.all false
set_option maxRecDepth 100000
set_option maxHeartbeats 4000000
noncomputable section
namespace Mir
open PySem PySem.Spec L2

section
variable {K : PySem.W.Frag}
theorem dp_int {H : Hp} {v : V} {i : Int} (h : Dp K H v (.int i)) : v = .int i := by cases h; rfl
theorem dp_str {H : Hp} {v : V} {z : Str} (h : Dp K H v (.str z)) : v = .str z := by cases h; rfl
theorem dp_bool {H : Hp} {v : V} {z : Bool} (h : Dp K H v (.bool z)) : v = .bl z := by cases h; rfl
theorem dp_none {H : Hp} {v : V} (h : Dp K H v .none) : v = .non := by cases h; rfl
theorem dp_tup {H : Hp} {v : V} {ds : List D} (h : Dp K H v (.tuple ds)) : ∃ a vs, v = .ref a ∧ SqT K H a vs ∧ DpAll K H vs ds := by cases h with | tup a b => exact ⟨_, _, rfl, a, b⟩
theorem dp_lst {H : Hp} {v : V} {ds : List D} (h : Dp K H v (.list ds)) : ∃ a vs, v = .ref a ∧ SqL K H a vs ∧ DpAll K H vs ds := by cases h with | lst a b => exact ⟨_, _, rfl, a, b⟩

open Classical in
def gI (C : Int → Int → Prop) (f : Int → Int → Int) : D → D → Option D
  | .int i, .int j => if C i j then some (.int (f i j)) else none
  | _, _ => none
def gI0 (f : Int → Int → Int) : D → D → Option D
  | .int i, .int j => some (.int (f i j))
  | _, _ => none
def gIB (f : Int → Int → Bool) : D → D → Option D
  | .int i, .int j => some (.bool (f i j))
  | _, _ => none
theorem opS_I {C : Int → Int → Prop} {f : Int → Int → Int} : OpS K (rI C fun i j => .int (f i j)) (gI C f) := by
  intro H x y dx dy d Q hx hy e q
  unfold gI at e
  split at e
  · rename_i i j
    split at e
    · rename_i c
      cases e
      cases dp_int hx
      cases dp_int hy
      exact ⟨i, j, rfl, rfl, c, q _ fun _ => .int _⟩
    · cases e
  · cases e
theorem opS_I0 {f : Int → Int → Int} : OpS K (rI0 fun i j => .int (f i j)) (gI0 f) := by
  intro H x y dx dy d Q hx hy e q
  unfold gI0 at e
  split at e
  · cases e
    cases dp_int hx
    cases dp_int hy
    exact ⟨_, _, rfl, rfl, q _ fun _ => .int _⟩
  · cases e
theorem opS_IB {f : Int → Int → Bool} : OpS K (rI0 fun i j => .bl (f i j)) (gIB f) := by
  intro H x y dx dy d Q hx hy e q
  unfold gIB at e
  split at e
  · cases e
    cases dp_int hx
    cases dp_int hy
    exact ⟨_, _, rfl, rfl, q _ fun _ => .bl _⟩
  · cases e
def gSub := gI0 fun i j => i - j
def gMul := gI (fun i j => CMul i j ∨ CMulW i j) fun i j => i * j
def gDiv := gI CDivW fun i j => i / j
def gMod := gI (fun _ j => 0 < j) fun i j => i % j
def gPow := gI CPow fun i j => i ^ j.toNat
def gLt := gIB fun i j => decide (i < j)
def gLe := gIB fun i j => decide (i ≤ j)
def gGt := gIB fun i j => decide (j < i)
def gGe := gIB fun i j => decide (j ≤ i)
@[simp] theorem gSub_int (i j : Int) : gSub (.int i) (.int j) = some (.int (i - j)) := rfl
theorem gMul_int {i j : Int} (h : CMulW i j) : gMul (.int i) (.int j) = some (.int (i * j)) := if_pos (.inr h)
theorem gMul_by {i j : Int} (h1 : -(2 ^ 64) < j) (h2 : j < 2 ^ 64) : gMul (.int i) (.int j) = some (.int (i * j)) := if_pos (.inl (.inr ⟨h1, h2⟩))
theorem gDiv_int {i j : Int} (h : CDivW i j) : gDiv (.int i) (.int j) = some (.int (i / j)) := if_pos h
theorem gMod_int {i j : Int} (h : 0 < j) : gMod (.int i) (.int j) = some (.int (i % j)) := if_pos h
theorem gPow_int {i j : Int} (h : CPow i j) : gPow (.int i) (.int j) = some (.int (i ^ j.toNat)) := if_pos h
@[simp] theorem gLt_int (i j : Int) : gLt (.int i) (.int j) = some (.bool (decide (i < j))) := rfl
@[simp] theorem gLe_int (i j : Int) : gLe (.int i) (.int j) = some (.bool (decide (i ≤ j))) := rfl
@[simp] theorem gGt_int (i j : Int) : gGt (.int i) (.int j) = some (.bool (decide (j < i))) := rfl
@[simp] theorem gGe_int (i j : Int) : gGe (.int i) (.int j) = some (.bool (decide (j ≤ i))) := rfl
end

section
variable {X : Cx} {W : WX} {e a b : Expr} {es : List Expr} {pos : Pos} {f g : Ev → R D}
theorem df_sub (ha : DV X W a f) (hb : DV X W b g) : DF X W (.BinOp a .Sub b pos) (eBin gSub f g) := df_bin op_sub opS_I0 ha hb
theorem op_mulV : OpR X (binaryOp .Mult) (rI (fun i j => CMul i j ∨ CMulW i j) fun i j => .int (i * j)) := by
  intro pins s σ H x y v u Q I rx ry h
  obtain ⟨i, j, e1, e2, c, q⟩ := h
  rcases c with c | c
  · exact op_mul pins s σ H x y v u Q I rx ry ⟨i, j, e1, e2, c, q⟩
  · exact op_mulW pins s σ H x y v u Q I rx ry ⟨i, j, e1, e2, c, q⟩
theorem df_mul (ha : DV X W a f) (hb : DV X W b g) : DF X W (.BinOp a .Mult b pos) (eBin gMul f g) := df_bin op_mulV opS_I ha hb
theorem df_div (ha : DV X W a f) (hb : DV X W b g) : DF X W (.BinOp a .FloorDiv b pos) (eBin gDiv f g) := df_bin op_fdivW opS_I ha hb
theorem df_mod (ha : DV X W a f) (hb : DV X W b g) : DF X W (.BinOp a .Mod b pos) (eBin gMod f g) := df_bin op_mod opS_I ha hb
theorem df_pow (ha : DV X W a f) (hb : DV X W b g) : DF X W (.BinOp a .Pow b pos) (eBin gPow f g) := df_bin op_pow opS_I ha hb
theorem df_gt (ha : DV X W a f) (hb : DV X W b g) : DF X W (.Compare a [.Gt] [b] pos) (eBin gGt f g) := df_cmp op_gt opS_IB ha hb
theorem dt_lt (ha : DV X W a f) (hb : DV X W b g) : DT X W (.Compare a [.Lt] [b] pos) (eB (eBin gLt f g) asB) := dt_cmp op_lt opS_IB ha hb
theorem dt_gt (ha : DV X W a f) (hb : DV X W b g) : DT X W (.Compare a [.Gt] [b] pos) (eB (eBin gGt f g) asB) := dt_cmp op_gt opS_IB ha hb
theorem dt_ge (ha : DV X W a f) (hb : DV X W b g) : DT X W (.Compare a [.GtE] [b] pos) (eB (eBin gGe f g) asB) := dt_cmp op_ge opS_IB ha hb
def gNeg : D → R D
  | .int i => .ok (.int (-i))
  | _ => .no
theorem df_neg (ha : DV X W a f) : DF X W (.UnaryOp .USub a pos) (eB f gNeg) := by
  obtain ⟨t, p, s⟩ := ha
  refine ⟨_, pe_un un_neg p, fun F H σ env fp Q sat hp => ?_⟩
  refine s.go sat hp fun d v F1 H1 sat1 q _ h1 => ?_
  cases d with
  | int i => cases dp_int q; exact ⟨i, rfl, h1 _ F1 H1 (.refl sat1.fh) (.int _)⟩
  | _ => exact h1.elim

def scalD : D → Bool
  | .none => true
  | .bool _ => true
  | .int _ => true
  | .str _ => true
  | _ => false
/-- a bool beside an int is left to the deep rule -/
def scal2 : D → D → Bool
  | .bool _, .int _ => false
  | .int _, .bool _ => false
  | a, b => scalD a && scalD b
def eqOk (a b : D) : Bool := a.canLay0 && b.canLay0 && decide (a.depth ≤ 130)
def gEq (a b : D) : Option D := if (scal2 a b || eqOk a b) = true then some (.bool (PyData.eqv a b)) else none
def gNe (a b : D) : Option D := if (scal2 a b || eqOk a b) = true then some (.bool (!PyData.eqv a b)) else none
def rEqA (K : PySem.W.Frag) (neg : Bool) : R2 := fun x y H Q => ∃ d e, Dp K H x d ∧ Dp K H y e ∧ eqOk d e = true ∧ Q (.bl (if neg then !PyData.eqv d e else PyData.eqv d e)) H
theorem eqOk_cases {a b : D} (h : eqOk a b = true) : a.canLay0 = true ∧ b.canLay0 = true ∧ a.depth ≤ 130 := by
  unfold eqOk at h
  simp only [Bool.and_eq_true, decide_eq_true_eq] at h
  exact ⟨h.1.1, h.1.2, h.2⟩
theorem op_eqA (hu : X.A.units + 140 < cLine) : OpR X (compareOp .Eq) (rEqA X.K false) := by
  intro pins s σ H x y v u Q I rx ry h
  obtain ⟨d, e, hd, he, sd, q⟩ := h
  obtain ⟨as, r1⟩ := L2.Dp.reads I d x v (Dp.kit _ _ hd (eqOk_cases sd).1) rx
  obtain ⟨bs, r2⟩ := L2.Dp.reads I e y u (Dp.kit _ _ he (eqOk_cases sd).2.1) ry
  obtain ⟨c1, c2, c3⟩ := eqOk_cases sd
  exact SeqAt.compareEq_reads r1 r2 c1 c2 (by have := Nat.min_le_left d.depth e.depth; omega) ⟨.bl _, H, I, rfl, q⟩
theorem op_neA (hu : X.A.units + 140 < cLine) : OpR X (compareOp .NotEq) (rEqA X.K true) := by
  intro pins s σ H x y v u Q I rx ry h
  obtain ⟨d, e, hd, he, sd, q⟩ := h
  obtain ⟨as, r1⟩ := L2.Dp.reads I d x v (Dp.kit _ _ hd (eqOk_cases sd).1) rx
  obtain ⟨bs, r2⟩ := L2.Dp.reads I e y u (Dp.kit _ _ he (eqOk_cases sd).2.1) ry
  obtain ⟨c1, c2, c3⟩ := eqOk_cases sd
  exact SeqAt.compareNe_reads r1 r2 c1 c2 (by have := Nat.min_le_left d.depth e.depth; omega) ⟨.bl _, H, I, rfl, q⟩
theorem scal_dp {K : PySem.W.Frag} {H : Hp} {x y : V} {a b : D} (ha : Dp K H x a) (hb : Dp K H y b) (h : scal2 a b = true) : scal x y = true ∧ decide (x = y) = PyData.eqv a b := by
  cases a <;> cases b <;> first
    | (cases h; done)
    | (cases ha; cases hb; refine ⟨rfl, ?_⟩; simp [PyData.eqv]; try rfl)
    | (cases ha; cases hb; refine ⟨rfl, ?_⟩; simp [PyData.eqv, dec_int, dec_bl, dec_str])
theorem opS_eq {K : PySem.W.Frag} : OpS K (fun x y H Q => rEq x y H Q ∨ rEqA K false x y H Q) gEq := by
  intro H x y dx dy d Q hx hy e q
  unfold gEq at e
  split at e
  · rename_i c
    cases e
    cases c1 : scal2 dx dy with
    | true =>
      obtain ⟨h1, h2⟩ := scal_dp hx hy c1
      exact .inl ⟨h1, by rw [h2]; exact q _ fun _ => .bl _⟩
    | false =>
      rw [c1, Bool.false_or] at c
      exact .inr ⟨dx, dy, hx, hy, c, q _ fun _ => .bl _⟩
  · cases e
theorem opS_ne {K : PySem.W.Frag} : OpS K (fun x y H Q => rNe x y H Q ∨ rEqA K true x y H Q) gNe := by
  intro H x y dx dy d Q hx hy e q
  unfold gNe at e
  split at e
  · rename_i c
    cases e
    cases c1 : scal2 dx dy with
    | true =>
      obtain ⟨h1, h2⟩ := scal_dp hx hy c1
      exact .inl ⟨h1, by rw [h2]; exact q _ fun _ => .bl _⟩
    | false =>
      rw [c1, Bool.false_or] at c
      exact .inr ⟨dx, dy, hx, hy, c, q _ fun _ => .bl _⟩
  · cases e
theorem df_eq (hu : X.A.units + 140 < cLine) (ha : DV X W a f) (hb : DV X W b g) : DF X W (.Compare a [.Eq] [b] pos) (eBin gEq f g) := df_cmp (OpR.or op_eq (op_eqA hu)) opS_eq ha hb
theorem dt_eq (hu : X.A.units + 140 < cLine) (ha : DV X W a f) (hb : DV X W b g) : DT X W (.Compare a [.Eq] [b] pos) (eB (eBin gEq f g) asB) := dt_cmp (OpR.or op_eq (op_eqA hu)) opS_eq ha hb
theorem dt_ne (hu : X.A.units + 140 < cLine) (ha : DV X W a f) (hb : DV X W b g) : DT X W (.Compare a [.NotEq] [b] pos) (eB (eBin gNe f g) asB) := dt_cmp (OpR.or op_ne (op_neA hu)) opS_ne ha hb
def isNone : D → Bool
  | .none => true
  | _ => false
def gIsN : D → D → Option D
  | x, .none => some (.bool (isNone x))
  | _, _ => none
def gNotN : D → D → Option D
  | x, .none => some (.bool (!isNone x))
  | _, _ => none
@[simp] theorem gIsN_none (x : D) : gIsN x .none = some (.bool (isNone x)) := by cases x <;> rfl
@[simp] theorem gNotN_none (x : D) : gNotN x .none = some (.bool (!isNone x)) := by cases x <;> rfl
theorem isNone_dp {K : PySem.W.Frag} {H : Hp} {x : V} {d : D} (h : Dp K H x d) : decide (x = .non) = isNone d := by
  cases h <;> first | rfl | (simp [isNone]; done)
theorem opS_isN {K : PySem.W.Frag} : OpS K (fun x y H Q => y = .non ∧ Q (.bl (decide (x = .non))) H) gIsN := by
  intro H x y dx dy d Q hx hy e q
  cases dy with
  | none =>
    rw [gIsN_none] at e
    cases e
    exact ⟨dp_none hy, by rw [isNone_dp hx]; exact q _ fun _ => .bl _⟩
  | _ => cases dx <;> cases e
theorem opS_notN {K : PySem.W.Frag} : OpS K (fun x y H Q => y = .non ∧ Q (.bl (!decide (x = .non))) H) gNotN := by
  intro H x y dx dy d Q hx hy e q
  cases dy with
  | none =>
    rw [gNotN_none] at e
    cases e
    exact ⟨dp_none hy, by rw [isNone_dp hx]; exact q _ fun _ => .bl _⟩
  | _ => cases dx <;> cases e
theorem df_isN (ha : DV X W a f) (hb : DV X W b g) : DF X W (.Compare a [.Is] [b] pos) (eBin gIsN f g) := df_cmp op_isN opS_isN ha hb
theorem dt_isN (ha : DV X W a f) (hb : DV X W b g) : DT X W (.Compare a [.Is] [b] pos) (eB (eBin gIsN f g) asB) := dt_cmp op_isN opS_isN ha hb
theorem dt_notN (ha : DV X W a f) (hb : DV X W b g) : DT X W (.Compare a [.IsNot] [b] pos) (eB (eBin gNotN f g) asB) := dt_cmp op_notN opS_notN ha hb

def gAdd : D → D → Option Ow
  | .int i, .int j => some (.d (.int (i + j)))
  | .str x, .str y => if x.length + y.length ≤ sizeLine then some (.d (.str (x ++ y))) else none
  | .tuple xs, .tuple ys => if xs.length + ys.length ≤ sizeLine then some (.d (.tuple (xs ++ ys))) else none
  | .list xs, .list ys => if xs.length + ys.length ≤ sizeLine then some (.l ((xs ++ ys).map Ow.d)) else none
  | _, _ => none
@[simp] theorem gAdd_int (i j : Int) : gAdd (.int i) (.int j) = some (.d (.int (i + j))) := rfl
theorem gAdd_tup {xs ys : List D} (h : xs.length + ys.length ≤ sizeLine) : gAdd (.tuple xs) (.tuple ys) = some (.d (.tuple (xs ++ ys))) := if_pos h
theorem gAdd_lst {xs ys : List D} (h : xs.length + ys.length ≤ sizeLine) : gAdd (.list xs) (.list ys) = some (.l ((xs ++ ys).map Ow.d)) := if_pos h
def rCatL (K : PySem.W.Frag) : R2 := fun x y H Q => ∃ a b xs ys, x = .ref a ∧ y = .ref b ∧ SqL K H a xs ∧ SqL K H b ys ∧ xs.length + ys.length ≤ sizeLine ∧ ∀ p, H p = none → Q (.ref p) (upd H p (.lst (xs ++ ys)))
theorem op_catL : OpR X (binaryOp .Add) (rCatL X.K) := by
  intro pins s σ H x y v u Q I rx ry h
  obtain ⟨l, b, xs, zs, rfl, rfl, hH, hB, hz, q⟩ := h
  cases rx
  cases ry
  obtain ⟨its, r, pl, hl⟩ := I.list hH
  obtain ⟨its2, r2, pl2, hl2⟩ := I.list hB
  obtain ⟨⟨c1, d1, t1, s1⟩, g1, k1, n1, m1⟩ := pl.isList
  obtain ⟨⟨c2, d2, t2, s2⟩, g2, k2, n2, m2⟩ := pl2.isList
  simp only at k1 m1 k2 m2
  subst k1 m1 k2 m2
  refine PySem.concat_meets ⟨_, g1, rfl⟩ ⟨_, g2, rfl⟩ PySem.noFill_list_add PySem.seq_list_add PySem.F.slot_list_add PySem.F.entry_list_add (PySem.F.args_list_add_2 _ _)
    (PyProof.Rows.list_addW l b its.toArray its2.toArray n1 n2 d1 d2 s1 s2 (by rw [List.size_toArray, List.size_toArray, ← r.length, ← r2.length]; exact hz)) ⟨g1, g2, ?_⟩
  have ea : its.toArray ++ its2.toArray = (its ++ its2).toArray := by simp
  rw [ea]
  exact ⟨.ref _, _, I.lnew (t' := s.toks) (r.append r2) (by rw [List.length_append]; omega), rfl, q _ I.fresh⟩
abbrev rAddAll (K : PySem.W.Frag) : R2 := fun x y H Q => rI0 (fun i j => .int (i + j)) x y H Q ∨ (fun x y H Q => (∃ i j, x = V.str i ∧ y = V.str j ∧ i.length + j.length ≤ sizeLine ∧ Q (.str (i ++ j)) H) ∨ (fun x y H Q => rCatA K x y H Q ∨ rCatL K x y H Q) x y H Q) x y H Q
theorem op_addAll : OpR X (binaryOp .Add) (rAddAll X.K) := OpR.or op_add (OpR.or op_add_str (OpR.or op_catA op_catL))
def eBinO (g : D → D → Option Ow) (f h : Ev → R D) (env : Ev) : R Ow := (f env).bind fun x => (h env).bind fun y => R.of (g x y)
/-- two operands with frozen items, a new value -/
def OpG (K : PySem.W.Frag) (r : R2) (g : D → D → Option Ow) : Prop := ∀ F H x y dx dy o Q, Same F H → PSq K H dx x F H → PSq K H dy y F H → g dx dy = some o → (∀ v F' H', Ext F H F' H' → POw K H o v F' H' → Q v H') → r x y H Q
theorem opG_sm {r : R2} {g : D → D → Option Ow} (hs : OpG X.K r g) {ta tb : TE} {f h : Ev → R D} (sa : Sm X W (PSq X.K) ta f) (sb : Sm X W (PSq X.K) tb h) : Sm X W (POw X.K) (tOp r ta tb) (eBinO g f h) := by
  intro F H σ env fp Q sat hp
  refine sa.go sat hp fun d v F1 H1 sat1 q _ h1 => ?_
  refine sb.go sat1 h1 fun d' v' F2 H2 sat2 q' x2 h2 => ?_
  obtain ⟨z, hz, h3⟩ := post_of h2
  exact hs F2 H2 v v' d d' z Q sat2.fh (q.ext x2) q' hz h3
theorem de_bin {op : Operator} {r : R2} {g : D → D → Option Ow} (ho : OpR X (binaryOp op) r) (hs : OpG X.K r g) {f h : Ev → R D} (ha : DL X W a f) (hb : DL X W b h) : DE X W (.BinOp a op b pos) (eBinO g f h) := by
  obtain ⟨ta, pa, sa⟩ := ha
  obtain ⟨tb, pb, sb⟩ := hb
  exact ⟨_, pe_op ho pa pb, opG_sm hs sa sb⟩
theorem own_d {K : PySem.W.Frag} {H0 F H : Hp} {v : V} {d : D} (h : Dp K F v d) : POw K H0 (.d d) v F H := ⟨[], .d h, List.nodup_nil, fun _ z => nomatch z⟩
theorem own_l {K : PySem.W.Frag} {F H : Hp} {p : Addr} {vs : List V} {ds : List D} (s : Same F H) (hp : H p = none) (h : DpAll K F vs ds) : POw K H (.l (ds.map Ow.d)) (.ref p) F (upd H p (.lst vs)) :=
  ⟨[p], .l (free_of s hp) upd_same (OwnAll.of_dp h), by simp, by simpa using hp⟩
theorem opG_add {K : PySem.W.Frag} : OpG K (rAddAll K) gAdd := by
  intro F H x y dx dy o Q s hx hy e q
  unfold gAdd at e
  split at e
  · cases e
    cases dp_int hx
    cases dp_int hy
    exact .inl ⟨_, _, rfl, rfl, q _ _ _ (.refl s) (own_d (.int _))⟩
  · split at e
    · cases e
      cases dp_str hx
      cases dp_str hy
      exact .inr (.inl ⟨_, _, rfl, rfl, ‹_›, q _ _ _ (.refl s) (own_d (.str _))⟩)
    · cases e
  · split at e
    · rename_i xs ys c
      cases e
      obtain ⟨a, vs, rfl, h1, h2⟩ := dp_tup hx
      obtain ⟨b, ws, rfl, g1, g2⟩ := dp_tup hy
      refine .inr (.inr (.inl ⟨a, b, vs, ws, rfl, rfl, SqT_mono s h1, SqT_mono s g1, by rw [DpAll.len h2, DpAll.len g2]; exact c, fun e0 => ?_, fun n0 e0 => ?_, fun n0 n1 p hp => ?_⟩))
      · have l := DpAll.len h2
        rw [e0] at l
        have z : xs = [] := List.length_eq_zero_iff.mp l.symm
        subst z
        exact q _ _ _ (.refl s) (own_d hy)
      · have l := DpAll.len g2
        rw [e0] at l
        have z : ys = [] := List.length_eq_zero_iff.mp l.symm
        subst z
        rw [List.append_nil] at q
        exact q _ _ _ (.refl s) (own_d hx)
      · have x := Ext.frz s hp (.tup (vs ++ ws))
        exact q _ _ _ x (own_d (.tup (SqT.of upd_same) (dpaUp (DpAll.append h2 g2) x.ff)))
    · cases e
  · split at e
    · rename_i xs ys c
      cases e
      obtain ⟨a, vs, rfl, h1, h2⟩ := hx
      obtain ⟨b, ws, rfl, g1, g2⟩ := hy
      refine .inr (.inr (.inr ⟨a, b, vs, ws, rfl, rfl, h1, g1, by rw [DpAll.len h2, DpAll.len g2]; exact c, fun p hp => ?_⟩))
      exact q _ _ _ (Ext.own s hp _) (own_l s hp (DpAll.append h2 g2))
    · cases e
  · cases e
theorem de_add (ha : DL X W a f) (hb : DL X W b g) : DE X W (.BinOp a .Add b pos) (eBinO gAdd f g) := de_bin op_addAll opG_add ha hb
end
end Mir
end
set_option Elab.async false
set_option linter.all false
set_option maxRecDepth 100000
set_option maxHeartbeats 4000000
noncomputable section
namespace Mir
open PySem PySem.Spec L2

section
variable {X : Cx} {W : WX} {e a b : Expr} {es : List Expr} {pos : Pos} {f g : Ev → R D}
theorem atI_dp {K : PySem.W.Frag} {F : Hp} {vs : List V} {ds : List D} {i : Int} {d : D} (h : DpAll K F vs ds) (e : atI ds i = some d) : ∃ v, atI vs i = some v ∧ Dp K F v d := by
  unfold atI at e ⊢
  rw [DpAll.len h]
  cases q : ixN ds.length i with
  | none => rw [q] at e; cases e
  | some j =>
    rw [q] at e
    exact DpAll.get h e
def gIx : D → D → Option D
  | .list ds, .int i => atI ds i
  | .tuple ds, .int i => atI ds i
  | .str z, .int i => if z.length ≤ sizeLine then (atI z.cps.toList i).map fun c => .str ⟨#[c]⟩ else none
  | _, _ => none
@[simp] theorem gIx_list (ds : List D) (i : Int) : gIx (.list ds) (.int i) = atI ds i := rfl
@[simp] theorem gIx_tup (ds : List D) (i : Int) : gIx (.tuple ds) (.int i) = atI ds i := rfl
theorem df_ix (ha : DL X W a f) (hb : DV X W b g) (hs : PlainIx b := by exact fun _ _ => rfl) : DF X W (.Subscript a b pos) (eBin gIx f g) := by
  obtain ⟨ta, pa, sa⟩ := ha
  obtain ⟨tb, pb, sb⟩ := hb
  refine ⟨_, pe_ix ix_seq pa pb hs, fun F H σ env fp Q sat hp => ?_⟩
  refine sa.go sat hp fun d v F1 H1 sat1 q _ h1 => ?_
  refine sb.go sat1 h1 fun d' v' F2 H2 sat2 q' x2 h2 => ?_
  obtain ⟨z, hz, h3⟩ := post_of h2
  unfold gIx at hz
  split at hz
  · rename_i ds i
    cases dp_int q'
    obtain ⟨p, vs, rfl, p1, p2⟩ := q
    obtain ⟨w, w1, w2⟩ := atI_dp p2 hz
    exact .inl ⟨p, vs, i, w, rfl, rfl, x2.hh.seq p1, w1, h3 _ _ _ (.refl sat2.fh) (dpUp w2 x2.ff)⟩
  · rename_i ds i
    cases dp_int q'
    obtain ⟨p, vs, rfl, p1, p2⟩ := dp_tup q
    obtain ⟨w, w1, w2⟩ := atI_dp p2 hz
    exact .inr (.inl ⟨p, vs, i, w, rfl, rfl, SqT_mono (x2.ff.trans sat2.fh) p1, w1, h3 _ _ _ (.refl sat2.fh) (dpUp w2 x2.ff)⟩)
  · split at hz
    · rename_i zz i c
      cases dp_int q'
      cases dp_str q
      obtain ⟨cc, c1, c2⟩ := Option.map_eq_some_iff.mp hz
      subst c2
      exact .inr (.inr ⟨_, _, cc, rfl, rfl, c, c1, h3 _ _ _ (.refl sat2.fh) (.str _)⟩)
    · cases hz
  · cases hz
/-- a slice's part -/
def DO (X : Cx) (W : WX) (e : Option Expr) (f : Ev → R (Option Int)) : Prop := ∃ t, PO X e t ∧ Sm X W (fun _ a v _ _ => v = a) t f
instance : Anti (fun (_ : Hp) (a v : Option Int) (_ _ : Hp) => v = a) := ⟨fun _ h => h⟩
def oNone (_ : Ev) : R (Option Int) := .ok none
def asI : D → R (Option Int)
  | .int i => .ok (some i)
  | _ => .no
@[simp] theorem asI_int (i : Int) : asI (.int i) = .ok (some i) := rfl
theorem do_none : DO X W none oNone := ⟨_, po_none, fun F H σ env fp Q sat hp => hp none F H (.refl sat.fh) rfl⟩
theorem do_some (h : DV X W e f) : DO X W (some e) (eB f asI) := by
  obtain ⟨t, p, s⟩ := h
  refine ⟨_, po_some p, fun F H σ env fp Q sat hp => ?_⟩
  refine s.go sat hp fun d v F1 H1 sat1 q _ h1 => ?_
  cases d with
  | int i => cases dp_int q; exact ⟨i, rfl, h1 _ F1 H1 (.refl sat1.fh) rfl⟩
  | _ => exact h1.elim
def cutL {α : Type} (xs : List α) (lo hi : Option Int) : List α := (xs.drop (HT.sIx xs.length 0 lo)).take (HT.sIx xs.length xs.length hi - HT.sIx xs.length 0 lo)
theorem cutL_dp {K : PySem.W.Frag} {F : Hp} {vs : List V} {ds : List D} {lo hi : Option Int} (h : DpAll K F vs ds) : DpAll K F (cutV vs lo hi) (cutL ds lo hi) := by
  unfold cutV cutL
  rw [DpAll.len h]
  exact DpAll.take _ (DpAll.drop _ h)
def gSl : D → Option Int → Option Int → Option Ow
  | .list ds, lo, hi => some (.l ((cutL ds lo hi).map Ow.d))
  | .tuple ds, lo, hi => some (.d (.tuple (cutL ds lo hi)))
  | .str z, lo, hi => if z.length ≤ sizeLine then some (.d (.str (cutS z lo hi))) else none
  | _, _, _ => none
@[simp] theorem gSl_list (ds : List D) (lo hi : Option Int) : gSl (.list ds) lo hi = some (.l ((cutL ds lo hi).map Ow.d)) := rfl
@[simp] theorem gSl_tup (ds : List D) (lo hi : Option Int) : gSl (.tuple ds) lo hi = some (.d (.tuple (cutL ds lo hi))) := rfl
def eSl (f : Ev → R D) (l h : Ev → R (Option Int)) (env : Ev) : R Ow := (f env).bind fun x => (l env).bind fun i => (h env).bind fun j => R.of (gSl x i j)
theorem de_slice {lo hi : Option Expr} {l h : Ev → R (Option Int)} {p2 : Pos} (ha : DL X W a f) (hl : DO X W lo l) (hh : DO X W hi h) : DE X W (.Subscript a (.Slice lo hi none p2) pos) (eSl f l h) := by
  obtain ⟨ta, pa, sa⟩ := ha
  obtain ⟨tl, pl, sl⟩ := hl
  obtain ⟨th, ph, sh⟩ := hh
  refine ⟨_, pe_slice (SlR.or sl_list (SlR.or sl_tupA sl_str)) pa pl ph, fun F H σ env fp Q sat hp => ?_⟩
  refine sa.go sat hp fun d v F1 H1 sat1 q _ h1 => ?_
  refine sl.go sat1 h1 fun i i' F2 H2 sat2 q' x2 h2 => ?_
  obtain rfl : i' = i := q'
  refine sh.go sat2 h2 fun j j' F3 H3 sat3 q' x3 h3 => ?_
  obtain rfl : j' = j := q'
  obtain ⟨z, hz, h4⟩ := post_of h3
  have x := x2.trans x3
  unfold gSl at hz
  split at hz
  · cases hz
    obtain ⟨p, vs, rfl, p1, p2⟩ := q
    refine .inl ⟨p, vs, rfl, x.hh.seq p1, fun r hr => ?_⟩
    exact h4 _ _ _ (Ext.own sat3.fh hr _) (own_l sat3.fh hr (cutL_dp (dpaUp p2 x.ff)))
  · cases hz
    obtain ⟨p, vs, rfl, p1, p2⟩ := dp_tup q
    have p3 := DpAll.len p2
    refine .inr (.inl ⟨p, vs, rfl, SqT_mono (x.ff.trans sat3.fh) p1, fun c => ?_, fun _ r hr => ?_⟩)
    · refine h4 _ _ _ (.refl sat3.fh) (own_d ?_)
      rename_i ds
      have e : cutL ds i' j' = ds := by
        unfold cutL
        rw [← p3, c.1, c.2, List.drop_zero, Nat.sub_zero, p3, List.take_length]
      rw [e]
      exact dpUp q x.ff
    · have y := Ext.frz sat3.fh hr (.tup (cutV vs i' j'))
      exact h4 _ _ _ y (own_d (.tup (SqT.of upd_same) (cutL_dp (dpaUp p2 (x.ff.trans y.ff)))))
  · split at hz
    · cases hz
      cases dp_str q
      exact .inr (.inr ⟨_, rfl, ‹_›, h4 _ _ _ (.refl sat3.fh) (own_d (.str _))⟩)
    · cases hz
  · cases hz

inductive PSqs (K : PySem.W.Frag) (F H : Hp) : List D → List V → Prop
  | nil : PSqs K F H [] []
  | cons {d : D} {ds : List D} {v : V} {vs : List V} : PSq K H d v F H → PSqs K F H ds vs → PSqs K F H (d :: ds) (v :: vs)
def PAl (K : PySem.W.Frag) (_ : Hp) (ds : List D) (vs : List V) (F' H' : Hp) : Prop := PSqs K F' H' ds vs
instance {K : PySem.W.Frag} : Anti (PAl K) := ⟨fun _ h => h⟩
def DAl (X : Cx) (W : WX) (es : List Expr) (f : Ev → R (List D)) : Prop := ∃ t, PA X es t ∧ Sm X W (PAl X.K) t f
theorem dal_nil : DAl X W [] aNil := ⟨_, pa_nil, fun F H σ env fp Q sat h => h _ F H (.refl sat.fh) .nil⟩
theorem dal_cons {f : Ev → R D} {g : Ev → R (List D)} (hf : DL X W e f) (hg : DAl X W es g) (hs : starEach (e :: es) X.env = (false, eval e X.env) :: starEach es X.env := by rfl) : DAl X W (e :: es) (aCons f g) := by
  obtain ⟨t, p, s⟩ := hf
  obtain ⟨t', p', s'⟩ := hg
  refine ⟨_, pa_cons p p' hs, fun F H σ env fp Q sat h => ?_⟩
  refine s.go sat h fun d v F1 H1 sat1 q _ h1 => ?_
  refine s'.go sat1 h1 fun ds vs F2 H2 sat2 q' x2 h2 => ?_
  exact h2 _ F2 H2 (.refl sat2.fh) (.cons (q.ext x2) q')
def CaG (K : PySem.W.Frag) (r : List V → Hp → VK → Prop) (g : List D → Option Ow) : Prop := ∀ F H vs ds o Q, Same F H → PSqs K F H ds vs → g ds = some o → (∀ v F' H', Ext F H F' H' → POw K H o v F' H' → Q v H') → r vs H Q
def eCa (g : List D → Option Ow) (f : Ev → R (List D)) (env : Ev) : R Ow := (f env).bind fun ds => R.of (g ds)
theorem ca_sm {r : List V → Hp → VK → Prop} {g : List D → Option Ow} {t : TA} {f : Ev → R (List D)} (hs : CaG X.K r g) (s : Sm X W (PAl X.K) t f) : Sm X W (POw X.K) (tCB r t) (eCa g f) := by
  intro F H σ env fp Q sat hp
  refine s.go sat hp fun ds vs F1 H1 sat1 q _ h1 => ?_
  obtain ⟨z, hz, h2⟩ := post_of h1
  exact hs F1 H1 vs ds z Q sat1.fh q hz h2
theorem de_callB {id : String} {r : List V → Hp → VK → Prop} {g : List D → Option Ow} {x : Str} {p : Pos} {f : Ev → R (List D)} (hc : CallR X (.builtin id) r) (hs : CaG X.K r g) (hg : Gl X x) (hm : X.mg x = none) (hv : bootBuiltins x = some (.builtin id)) (ha : DAl X W (e :: es) f)
    (hn : x ≠ "__name__" := by decide) (hdb : (x == ("__debug__" : Str)) = false := by decide)
    (he : starEach (e :: es) X.env = (false, eval e X.env) :: starEach es X.env := by rfl) (hpl : (backTo pos (starEach es X.env)).any (·.1) = false := by rfl) : DE X W (.Call (.Name x p) (e :: es) [] pos) (eCa g f) := by
  obtain ⟨t, pa, s⟩ := ha
  exact ⟨_, pe_callB hc hg hm hv pa hn hdb he hpl, ca_sm hs s⟩
theorem de_callTy {T : String} {r : List V → Hp → VK → Prop} {g : List D → Option Ow} {x : Str} {p : Pos} {f : Ev → R (List D)} (hc : CallR X (.type T) r) (hs : CaG X.K r g) (hg : Gl X x) (hm : X.mg x = none) (hv : bootBuiltins x = some (.type T)) (ha : DAl X W (e :: es) f)
    (hn : x ≠ "__name__" := by decide) (hdb : (x == ("__debug__" : Str)) = false := by decide)
    (he : starEach (e :: es) X.env = (false, eval e X.env) :: starEach es X.env := by rfl) (hpl : (backTo pos (starEach es X.env)).any (·.1) = false := by rfl) : DE X W (.Call (.Name x p) (e :: es) [] pos) (eCa g f) := by
  obtain ⟨t, pa, s⟩ := ha
  exact ⟨_, pe_callTy hc hg hm hv pa hn hdb he hpl, ca_sm hs s⟩
theorem psqs1 {K : PySem.W.Frag} {F H : Hp} {d : D} {vs : List V} (h : PSqs K F H [d] vs) : ∃ v, vs = [v] ∧ PSq K H d v F H := by
  cases h with | cons a b => cases b; exact ⟨_, rfl, a⟩
def gLen : List D → Option Ow
  | [.list ds] => some (.d (.int ds.length))
  | [.tuple ds] => some (.d (.int ds.length))
  | [.str z] => if z.length ≤ sizeLine then some (.d (.int z.length)) else none
  | _ => none
@[simp] theorem gLen_list (ds : List D) : gLen [.list ds] = some (.d (.int ds.length)) := rfl
@[simp] theorem gLen_tup (ds : List D) : gLen [.tuple ds] = some (.d (.int ds.length)) := rfl
theorem caG_len {K : PySem.W.Frag} : CaG K (fun xs H Q => ∃ x n, xs = [x] ∧ LenV K x H n ∧ Q (.int n) H) gLen := by
  intro F H vs ds o Q s h e q
  unfold gLen at e
  split at e
  · cases e
    obtain ⟨v, rfl, p, ws, rfl, p1, p2⟩ := psqs1 h
    exact ⟨_, _, rfl, .inl ⟨ws, p1, (DpAll.len p2).symm⟩, q _ _ _ (.refl s) (own_d (.int _))⟩
  · cases e
    obtain ⟨v, rfl, w⟩ := psqs1 h
    obtain ⟨p, ws, rfl, p1, p2⟩ := dp_tup w
    exact ⟨_, _, rfl, .inr ⟨ws, SqT_mono s p1, (DpAll.len p2).symm⟩, q _ _ _ (.refl s) (own_d (.int _))⟩
  · split at e
    · rename_i c
      cases e
      obtain ⟨v, rfl, w⟩ := psqs1 h
      cases dp_str w
      exact ⟨_, _, rfl, ⟨c, rfl⟩, q _ _ _ (.refl s) (own_d (.int _))⟩
    · cases e
  · cases e
def gMax2 : List D → Option Ow
  | [.int i, .int j] => some (.d (.int (if j > i then j else i)))
  | _ => none
def gMin2 : List D → Option Ow
  | [.int i, .int j] => some (.d (.int (if j < i then j else i)))
  | _ => none
@[simp] theorem gMax2_int (i j : Int) : gMax2 [.int i, .int j] = some (.d (.int (if j > i then j else i))) := rfl
@[simp] theorem gMin2_int (i j : Int) : gMin2 [.int i, .int j] = some (.d (.int (if j < i then j else i))) := rfl
def intsD : List D → Option (List Int)
  | [] => some []
  | .int i :: ds => (intsD ds).map fun is => i :: is
  | _ :: _ => none
@[simp] theorem intsD_map : ∀ ns : List Int, intsD (ns.map PyData.int) = some ns
  | [] => rfl
  | n :: ns => by simp [intsD, intsD_map ns]
def gList : List D → Option Ow
  | [.list ds] => some (.l (ds.map Ow.d))
  | [.tuple ds] => some (.l (ds.map Ow.d))
  | _ => none
@[simp] theorem gList_list (ds : List D) : gList [.list ds] = some (.l (ds.map Ow.d)) := rfl
@[simp] theorem gList_tup (ds : List D) : gList [.tuple ds] = some (.l (ds.map Ow.d)) := rfl
theorem caG_list {K : PySem.W.Frag} : CaG K (fun xs H Q => ∃ p ys, xs = [.ref p] ∧ (SqL K H p ys ∨ SqT K H p ys) ∧ ∀ l, H l = none → Q (.ref l) (upd H l (.lst ys))) gList := by
  intro F H vs ds o Q s h e q
  unfold gList at e
  split at e
  · cases e
    obtain ⟨v, rfl, p, ws, rfl, p1, p2⟩ := psqs1 h
    exact ⟨p, ws, rfl, .inl p1, fun l hl => q _ _ _ (Ext.own s hl _) (own_l s hl p2)⟩
  · cases e
    obtain ⟨v, rfl, w⟩ := psqs1 h
    obtain ⟨p, ws, rfl, p1, p2⟩ := dp_tup w
    exact ⟨p, ws, rfl, .inr (SqT_mono s p1), fun l hl => q _ _ _ (Ext.own s hl _) (own_l s hl p2)⟩
  · cases e
def gTuple : List D → Option Ow
  | [.list ds] => some (.d (.tuple ds))
  | [.tuple ds] => some (.d (.tuple ds))
  | _ => none
@[simp] theorem gTuple_list (ds : List D) : gTuple [.list ds] = some (.d (.tuple ds)) := rfl
@[simp] theorem gTuple_tup (ds : List D) : gTuple [.tuple ds] = some (.d (.tuple ds)) := rfl
theorem caG_tuple {K : PySem.W.Frag} : CaG K (fun xs H Q => ∃ p ys, xs = [.ref p] ∧ ((SqL K H p ys ∧ ∀ l, H l = none → Q (.ref l) (upd H l (.tup ys))) ∨ (SqT K H p ys ∧ Q (.ref p) H))) gTuple := by
  intro F H vs ds o Q s h e q
  unfold gTuple at e
  split at e
  · cases e
    obtain ⟨v, rfl, p, ws, rfl, p1, p2⟩ := psqs1 h
    refine ⟨p, ws, rfl, .inl ⟨p1, fun l hl => ?_⟩⟩
    have y := Ext.frz s hl (.tup ws)
    exact q _ _ _ y (own_d (.tup (SqT.of upd_same) (dpaUp p2 y.ff)))
  · cases e
    obtain ⟨v, rfl, w⟩ := psqs1 h
    obtain ⟨p, ws, rfl, p1, p2⟩ := dp_tup w
    exact ⟨p, ws, rfl, .inr ⟨SqT_mono s p1, q _ _ _ (.refl s) (own_d (.tup p1 p2))⟩⟩
  · cases e
def gInt : List D → Option Ow
  | [.int i] => some (.d (.int i))
  | [.bool b] => some (.d (.int (if b then 1 else 0)))
  | [.str z] => if z.length ≤ 640 then (PySem.intText? z).map fun n => .d (.int n) else none
  | _ => none
@[simp] theorem gInt_int (i : Int) : gInt [.int i] = some (.d (.int i)) := rfl
@[simp] theorem gInt_bool (b : Bool) : gInt [.bool b] = some (.d (.int (if b then 1 else 0))) := rfl
theorem caG_int {K : PySem.W.Frag} : CaG K (fun xs H Q => ((∃ i, xs = [.int i] ∧ Q (.int i) H) ∨ ∃ k, xs = [.bl k] ∧ Q (.int (if k then 1 else 0)) H) ∨ ∃ a n, xs = [.str a] ∧ PySem.intText? a = some n ∧ a.length ≤ 640 ∧ Q (.int n) H) gInt := by
  intro F H vs ds o Q s h e q
  unfold gInt at e
  split at e
  · cases e
    obtain ⟨v, rfl, w⟩ := psqs1 h
    cases dp_int w
    exact .inl (.inl ⟨_, rfl, q _ _ _ (.refl s) (own_d (.int _))⟩)
  · cases e
    obtain ⟨v, rfl, w⟩ := psqs1 h
    cases dp_bool w
    exact .inl (.inr ⟨_, rfl, q _ _ _ (.refl s) (own_d (.int _))⟩)
  · split at e
    · obtain ⟨n, e2, rfl⟩ := Option.map_eq_some_iff.mp e
      obtain ⟨v, rfl, w⟩ := psqs1 h
      cases dp_str w
      exact .inr ⟨_, n, rfl, e2, ‹_›, q _ _ _ (.refl s) (own_d (.int _))⟩
    · cases e
  · cases e
theorem de_len {x : Expr} {p : Pos} {f : Ev → R (List D)} (hg : Gl X "len") (hm : X.mg "len" = none) (ha : DAl X W [x] f) (hpl : starEach [x] X.env = (false, eval x X.env) :: starEach [] X.env := by rfl) : DE X W (.Call (.Name "len" p) [x] [] pos) (eCa gLen f) :=
  de_callB call_len caG_len hg hm PySem.boot_len ha (he := hpl)
theorem de_list {x : Expr} {p : Pos} {f : Ev → R (List D)} (hg : Gl X "list") (hm : X.mg "list" = none) (ha : DAl X W [x] f) (he : starEach [x] X.env = (false, eval x X.env) :: starEach [] X.env := by rfl) : DE X W (.Call (.Name "list" p) [x] [] pos) (eCa gList f) :=
  de_callTy call_list_of caG_list hg hm (by decide +kernel) ha (he := he)
theorem de_tuple {x : Expr} {p : Pos} {f : Ev → R (List D)} (hg : Gl X "tuple") (hm : X.mg "tuple" = none) (ha : DAl X W [x] f) (he : starEach [x] X.env = (false, eval x X.env) :: starEach [] X.env := by rfl) : DE X W (.Call (.Name "tuple" p) [x] [] pos) (eCa gTuple f) :=
  de_callTy call_tuple_of caG_tuple hg hm (by decide +kernel) ha (he := he)
theorem de_int {x : Expr} {p : Pos} {f : Ev → R (List D)} (hg : Gl X "int") (hm : X.mg "int" = none) (ha : DAl X W [x] f) (he : starEach [x] X.env = (false, eval x X.env) :: starEach [] X.env := by rfl) : DE X W (.Call (.Name "int" p) [x] [] pos) (eCa gInt f) :=
  de_callTy (CallR.or call_int1 call_int_str) caG_int hg hm (by decide +kernel) ha (he := he)
def dTy : D → String
  | .none => "NoneType"
  | .bool _ => "bool"
  | .int _ => "int"
  | .str _ => "str"
  | .list _ => "list"
  | .tuple _ => "tuple"
  | .dict _ => "dict"
theorem sqL_ty {K : PySem.W.Frag} {H : Hp} {a : Addr} {xs : List V} (h : SqL K H a xs) : TyX K H (.ref a) (.type "list") := by
  rcases h with (h | ⟨o, h⟩) | ⟨o, its, n, hk, hc, _⟩
  · exact .base (.lst h)
  · exact .base (.frz h)
  · exact .kList hk hc
theorem sqT_ty {K : PySem.W.Frag} {H : Hp} {a : Addr} {xs : List V} (h : SqT K H a xs) : TyX K H (.ref a) (.type "tuple") := by
  rcases h with (h | ⟨o, h⟩) | ⟨o, its, n, hk, hc, _⟩
  · exact .base (.tup h)
  · exact .fTuple h
  · exact .kTuple hk hc
theorem dp_ty {K : PySem.W.Frag} {H : Hp} {v : V} {d : D} (h : Dp K H v d) : TyX K H v (.type (dTy d)) := by
  cases h with
  | non => exact .base .non
  | bl b => exact .base (.bl b)
  | int i => exact .base (.int i)
  | str i => exact .base (.str i)
  | lst a b => exact sqL_ty a
  | tup a b => exact sqT_ty a
  | dct a b => exact .base (.dK a)
def gIsi (T : String) (d : D) : R D := match kitB (dTy d) T with
  | some b => .ok (.bool b)
  | none => .no
theorem df_isi {T : String} {y : Str} {p p2 : Pos} (ha : DV X W a f) (hg : Gl X "isinstance") (hm : X.mg "isinstance" = none) (gT : Gl X y) (mT : X.mg y = none) (bT : bootBuiltins y = some (.type T))
    (he : starEach [a, .Name y p2] X.env = (false, eval a X.env) :: starEach [.Name y p2] X.env := by rfl) (he2 : starEach [.Name y p2] X.env = (false, eval (.Name y p2) X.env) :: starEach [] X.env := by rfl) (hpl : (backTo pos (starEach [.Name y p2] X.env)).any (·.1) = false := by rfl)
    (hn : y ≠ "__name__" := by decide) (hd : (y == ("__debug__" : Str)) = false := by decide) : DF X W (.Call (.Name "isinstance" p) [a, .Name y p2] [] pos) (eB f (gIsi T)) := by
  obtain ⟨t, pa, s⟩ := ha
  refine ⟨_, pe_callB call_isi hg hm (by decide +kernel) (pa_cons pa (pa_cons (pe_bltn (v := .ty T) gT mT bT rfl hn hd) pa_nil he2) he) (he := he) (hpl := hpl), fun F H σ env fp Q sat hp => ?_⟩
  refine s.go sat hp fun d v F1 H1 sat1 q _ h1 => ?_
  unfold gIsi at h1
  split at h1
  · rename_i b hb
    exact ⟨v, .ty T, _, _, b, rfl, .ty T, dp_ty q, hb, h1 _ F1 H1 (.refl sat1.fh) (.bl _)⟩
  · exact h1.elim
end
end Mir
end
set_option Elab.async false
set_option linter.all false
set_option maxRecDepth 100000
set_option maxHeartbeats 4000000
noncomputable section
namespace Mir
open PySem PySem.Spec L2

def ItP (t : Bool) (h : Heap) (it a : Addr) (i : Nat) : Prop := match t with
  | true => h.IsTupleIter it a i
  | false => h.IsListIter it a i
def CoP (t : Bool) (h : Heap) (a : Addr) (its : Array Value) : Prop := match t with
  | true => h.IsTuple a its
  | false => h.IsList a its
def Sqq (t : Bool) (K : PySem.W.Frag) (H : Hp) (a : Addr) (vs : List V) : Prop := match t with
  | true => SqT K H a vs
  | false => SqL K H a vs
theorem Sqq.mono {t : Bool} {K : PySem.W.Frag} {H H' : Hp} {a : Addr} {vs : List V} (s : Same H H') (h : Sqq t K H a vs) : Sqq t K H' a vs := by
  cases t with
  | true => exact SqT_mono s h
  | false => exact s.seq h
section
variable {X : Cx} {pins : List (Addr × Obj)} {σ : L2.St} {H : Hp} {s : Shared} {a : Addr} {xs ys : List V} {t : Bool}
theorem Sqq.at (I : Inv X pins σ H s) (h : Sqq t X.K H a xs) : ∃ its : List Value, Vals xs its ∧ CoP t s.heap a its.toArray := by
  cases t with
  | true =>
    obtain ⟨its, r, p, _⟩ := I.tuple h
    exact ⟨its, r, p⟩
  | false =>
    obtain ⟨its, r, p, _⟩ := I.list h
    exact ⟨its, r, p.isList⟩
theorem Sqq.inj (I : Inv X pins σ H s) (h : Sqq t X.K H a xs) (h' : Sqq t X.K H a ys) : xs = ys := by
  cases t with
  | true => exact I.tuple_inj h h'
  | false => exact I.list_inj h h'
end
theorem co_ne {t t' : Bool} {h : Heap} {a it b : Addr} {its : Array Value} {i : Nat} (c : CoP t h a its) (p : ItP t' h it b i) : a ≠ it := by
  rintro rfl
  have e1 : ∃ o, h.get? a = some o ∧ (o.cls = .type "tuple" ∨ o.cls = .type "list") := by
    cases t with
    | true => obtain ⟨o, e, c, _⟩ := c; exact ⟨o, e, .inl c⟩
    | false => obtain ⟨o, e, c, _⟩ := c; exact ⟨o, e, .inr c⟩
  have e2 : ∃ o, h.get? a = some o ∧ (o.cls = .type "tuple_iterator" ∨ o.cls = .type "list_iterator") := by
    cases t' with
    | true => obtain ⟨o, e, c, _⟩ := p; exact ⟨o, e, .inl c⟩
    | false => obtain ⟨o, e, c, _⟩ := p; exact ⟨o, e, .inr c⟩
  obtain ⟨o, g1, c1⟩ := e1
  obtain ⟨o', g2, c2⟩ := e2
  rw [g1] at g2
  cases g2
  rcases c1 with c1 | c1 <;> rcases c2 with c2 | c2 <;> · rw [c1] at c2; revert c2; decide +kernel
theorem co_cls {t : Bool} {h : Heap} {a : Addr} {its : Array Value} (c : CoP t h a its) : ∃ o, h.get? a = some o ∧ (o.cls = .type "tuple" ∨ o.cls = .type "list") := by
  cases t with
  | true => obtain ⟨o, e, c, _⟩ := c; exact ⟨o, e, .inl c⟩
  | false => obtain ⟨o, e, c, _⟩ := c; exact ⟨o, e, .inr c⟩
theorem it_obj {t : Bool} {h : Heap} {it a : Addr} {i : Nat} (p : ItP t h it a i) : ∃ o, h.get? it = some o ∧ ∀ v, o.data ≠ .cell v := by
  cases t with
  | true => obtain ⟨o, e, _, d⟩ := p; exact ⟨o, e, fun v z => by rw [d] at z; cases z⟩
  | false => obtain ⟨o, e, _, d⟩ := p; exact ⟨o, e, fun v z => by rw [d] at z; cases z⟩
theorem ItP.at {t : Bool} {h h' : Heap} {it a : Addr} {i : Nat} (p : ItP t h it a i) (k : ∀ o, h.get? it = some o → h'.get? it = some o) : ItP t h' it a i := by
  cases t with
  | true => obtain ⟨o, e, q⟩ := p; exact ⟨o, k o e, q⟩
  | false => obtain ⟨o, e, q⟩ := p; exact ⟨o, k o e, q⟩
theorem drawsP {P : Program} {w : World} {A : Around} (hh : A.handled = none) (t : Bool) {it a : Addr} (hne : a ≠ it) (its : Array Value) :
    Draws P w A it [it, a] its.size (fun i v => its[i]? = some v) (fun i h => ItP t h it a i ∧ CoP t h a its) := by
  cases t with
  | true => exact Draws.tuple hh it a hne its
  | false => exact Draws.list hh it a hne its
def objP (t : Bool) (a : Addr) : Obj := match t with
  | true => { cls := .type "tuple_iterator", data := .fields #[.ref a, .int 0 0] }
  | false => { cls := .type "list_iterator", data := .fields #[.ref a, .int 0 0] }
theorem beginsP (t : Bool) (a : Addr) (its : Array Value) : Begins (.ref a) (objP t a) (fun h => CoP t h a its) := by
  cases t with
  | true => exact begins_tuple a its
  | false => exact begins_list a its
theorem itP_new {t : Bool} {h : Heap} {it a : Addr} (e : h.get? it = some (objP t a)) : ItP t h it a 0 := by
  cases t with
  | true => exact ⟨_, e, rfl, rfl⟩
  | false => exact ⟨_, e, rfl, rfl⟩

def Jen (t : Bool) (K : PySem.W.Frag) (a : Addr) : It :=
  ⟨fun i H => ∃ xs x, Sqq t K H a xs ∧ xs[i]? = some x, fun i H v H' => ∃ T x, v = .ref T ∧ H T = none ∧ H' = upd H T (.tup [.int (i : Nat), x]) ∧ ∀ xs, Sqq t K H a xs → xs[i]? = some x,
    fun i H => ∃ xs, Sqq t K H a xs ∧ xs.length = i⟩
theorem turn_en {P : Program} {w : World} {K : PySem.W.Frag} {elts : List Expr} {kk : Nat} {tpos : Pos} (t : Bool) (a e it : Addr) (hei : e ≠ it) :
    Turn P w K (.Tuple elts kk tpos) (Jen t K a) [e, it] e (fun i h => (∃ old, IsEnum h e it (0 + (i : Int)) old) ∧ ItP t h it a i) where
  mem := by simp
  obj := fun i h st b hb => by
    obtain ⟨⟨old, he⟩, hi⟩ := st
    rcases List.mem_cons.mp hb with z | z
    · rw [z]; exact ⟨_, he, fun v q => nomatch q⟩
    · rw [List.mem_singleton.mp z]; exact it_obj hi
  keep := fun i h h' st k => let ⟨⟨old, he⟩, hi⟩ := st; ⟨⟨old, k e (by simp) _ he⟩, hi.at fun o q => k it (by simp) o q⟩
  item := by
    intro X hP hw hK hc i pins s σ H E I hf st hg
    subst hP hw hK
    obtain ⟨hen, hit⟩ := st
    obtain ⟨xs, x, hq, hx⟩ := hg
    obtain ⟨its, rv, hco⟩ := hq.at I
    obtain ⟨u, hu, ru⟩ := rv.get hx
    have hne := co_ne hco hit
    have hea : e ≠ a := by
      rintro rfl
      obtain ⟨old, he⟩ := hen
      obtain ⟨o, g, c⟩ := co_cls hco
      have g' : s.heap.get? e = some _ := he
      rw [g] at g'
      cases g'
      rcases c with c | c
      · exact absurd (show Value.type "enumerate" = .type "tuple" from c) (by decide +kernel)
      · exact absurd (show Value.type "enumerate" = .type "list" from c) (by decide +kernel)
    have hlt : i < its.toArray.size := by rw [List.size_toArray]; exact (List.getElem?_eq_some_iff.mp hu).1
    refine (GoesN.enumFrom (prog := X.prog) (w := X.w) (elts := elts) (x1 := kk) (pos := tpos) 0 (drawsP (A := X.A.in1) (I.ok.hd hc) t hne its.toArray) e hei (by simp [hei, hea]) (by simp)).goes i s _ _ hlt ⟨hen, hit, hco⟩ fun v h' tk ⟨T, tk', y, ev, hT, hy, hTup⟩ st' hk _ => ?_
    subst ev
    have hyu : y = u := by
      have hy' : its[i]? = some y := by simpa using hy
      rw [hu] at hy'
      exact (Option.some.inj hy').symm
    subst hyu
    have new : ObjOk X.prog X.w (upd H T (.tup [.int (i : Nat), x])) h' T (.tup [.int (i : Nat), x]) :=
      ⟨by show 2 ≤ sizeLine; decide, [.int (0 + (i : Int)) tk', y], .cons ⟨tk', by rw [Int.zero_add]⟩ (.cons ru .nil), hTup⟩
    have hb' : ∀ b ∈ [e, it], b < s.heap.objs.size := fun b hb => by
      obtain ⟨o, g, _⟩ := (show ∃ o, s.heap.get? b = some o ∧ True from by
        rcases List.mem_cons.mp hb with z | z
        · rw [z]; obtain ⟨old, he⟩ := hen; exact ⟨_, he, trivial⟩
        · rw [List.mem_singleton.mp z]; obtain ⟨o, g, _⟩ := it_obj hit; exact ⟨o, g, trivial⟩)
      exact Heap.lt_size g
    refine ⟨.ref T, _, I.turnedNew (ch := [e, it]) hk hf hT new, rfl, ⟨T, x, rfl, I.hok.fresh hT, rfl, fun ys hys => by rw [hys.inj I hq]; exact hx⟩, ⟨st'.1, st'.2.1⟩, fun b hb => ?_⟩
    rw [upd_ne (Nat.ne_of_lt (Nat.lt_of_lt_of_le (hb' b hb) hT))]
    exact (hf b hb).1
  done := by
    intro X hP hw hK hc i pins s σ H E I hf st hg
    subst hP hw hK
    obtain ⟨hen, hit⟩ := st
    obtain ⟨xs, hq, hl⟩ := hg
    obtain ⟨its, rv, hco⟩ := hq.at I
    have hne := co_ne hco hit
    have hea : e ≠ a := by
      rintro rfl
      obtain ⟨old, he⟩ := hen
      obtain ⟨o, g, c⟩ := co_cls hco
      have g' : s.heap.get? e = some _ := he
      rw [g] at g'
      cases g'
      rcases c with c | c
      · exact absurd (show Value.type "enumerate" = .type "tuple" from c) (by decide +kernel)
      · exact absurd (show Value.type "enumerate" = .type "list" from c) (by decide +kernel)
    have hs : i = its.toArray.size := by rw [List.size_toArray, ← rv.length]; exact hl.symm
    subst hs
    exact (GoesN.enumFrom (prog := X.prog) (w := X.w) (elts := elts) (x1 := kk) (pos := tpos) 0 (drawsP (A := X.A.in1) (I.ok.hd hc) t hne its.toArray) e hei (by simp [hei, hea]) (by simp)).stops s _ _ ⟨hen, hit, hco⟩ fun h' tk hk _ => I.turnedL (ch := [e, it]) hk hf
  self := fun A i s Q E st h => let ⟨⟨_, he⟩, _⟩ := st; wpAny_pyIter_enum he h
theorem meets_en {v : Value} {o : Obj} {H : Heap → Prop} (B : Begins v o H) : Meets (Builtin.«enumerate.__new__» ⟨[.type "enumerate", v], []⟩) (fun _ R s => H s.heap ∧
      R (.ok (.ret (.ref (s.heap.push o).objs.size))) { s with heap := (s.heap.push o).push { cls := .type "enumerate", data := .fields #[.none, .bool false, .ref s.heap.objs.size, rawInt 0, .none, .none] } }) :=
  .of_wp fun prog w A R s h => by
    obtain ⟨hp, g, d, tk, os⟩ := s; obtain ⟨h1, h⟩ := h; have hsub := sub_enumerate
    have q1 : ∀ {A' : Around} {E Q : Value → Shared → Prop}, Q (.ref hp.objs.size) ⟨hp.push o, g, d, tk, os⟩ → wpAny (model prog w) A' (pyIter v) Q E ⟨hp, g, d, tk, os⟩ := fun q => B.iter prog w _ _ ⟨hp, g, d, tk, os⟩ _ h1 q
    wp_walk using q1
    refine wpAny_stack_any (fun st => wpAny_pure ?_); split
    · rename_i c _ _ _ _ _; cases (c == Value.type "enumerate") <;> (wp_walk using q1; exact ⟨_, rfl, h⟩)
    · wp_walk using q1; exact ⟨_, rfl, h⟩
theorem call_en {prog : Program} {w : World} {A : Around} {E : Value → Shared → Prop} {s : Shared} {v : Value} {o : Obj} {H : Heap → Prop} {Q : Value → Shared → Prop} (B : Begins v o H) (h1 : H s.heap)
    (h : ∀ h', IsEnum h' (s.heap.objs.size + 1) s.heap.objs.size 0 .none → h'.get? s.heap.objs.size = some o → (∀ b o, s.heap.get? b = some o → h'.get? b = some o) → Q (.ref (s.heap.objs.size + 1)) { s with heap := h' }) :
    wpAny (model prog w) A (call (.type "enumerate") [v]) Q E s := by
  refine callType_new F.called_enumerate (by decide) (F.typeCall_enumerate_1 _) (F.newCall_enumerate_1 _) (fun obj => F.args_object_init_2 obj _) F.entry_enumerate_new (meets_en B) ⟨h1, ?_⟩
  have hz : (s.heap.push o).objs.size = s.heap.objs.size + 1 := Heap.size_push ..
  show _ ∧ _; rw [hz]
  have g1 : (s.heap.push o).get? s.heap.objs.size = some o := Heap.get?_push_size _ B.free
  have he : IsEnum ((s.heap.push o).push { cls := .type "enumerate", data := .fields #[.none, .bool false, .ref s.heap.objs.size, rawInt 0, .none, .none] }) (s.heap.objs.size + 1) s.heap.objs.size 0 .none := by
    have := Heap.get?_push_size (s.heap.push o) (o := { cls := .type "enumerate", data := .fields #[.none, .bool false, .ref s.heap.objs.size, rawInt 0, .none, .none] }) rfl
    rw [hz] at this; exact this
  exact ⟨⟨_, he, rfl⟩, h _ he (Heap.get?_push_of_some _ g1) fun b o x => Heap.get?_push_of_some _ (Heap.get?_push_of_some _ x)⟩
def iEn (K : PySem.W.Frag) (ta : TA) : TI := fun σ H R => ta σ H fun vs H1 => ∃ t a xs, vs = [.ref a] ∧ Sqq t K H1 a xs ∧ R (Jen t K a) H1
theorem pi_en {X : Cx} {e : Expr} {ta : TA} {p pos tpos : Pos} {elts : List Expr} {kk : Nat} (hg : Gl X "enumerate") (hm : X.mg "enumerate" = none) (ha : PA X [e] ta) (hs : starEach [e] X.env = [(false, eval e X.env)] := by rfl) :
    PI X (.Tuple elts kk tpos) (.Call (.Name "enumerate" p) [e] [] pos) (iEn X.K ta) := by
  refine ⟨fun pins s σ H R I h => ?_⟩
  refine PyProof.Rows.Call_ (ld_blt I hg hm PyProof.Rows.boot_enumerate (PyProof.Rows.callWith_type1 (thn (ha.run pos pins s σ H _ I h) fun us s1 ⟨vs, H1, I1, r1, t, a, xs, ex, hq, q⟩ => ?_) hs rfl))
  subst ex
  cases r1 with
  | cons r rr =>
    cases rr
    cases r
    obtain ⟨its, rv, hco⟩ := hq.at I1
    refine call_en (beginsP t a its.toArray) hco fun h' he hit hk => wpAny_pyIter_enum he ?_
    have I2 : Inv X pins σ H1 { s1 with heap := h' } := I1.kept (t' := s1.toks) hk
    refine ⟨s1.heap.objs.size + 1, [s1.heap.objs.size + 1, s1.heap.objs.size], _, _, H1, rfl, I2, turn_en t a _ _ (Nat.succ_ne_self _), ⟨⟨.none, he⟩, itP_new hit⟩, fun b hb => ?_, q⟩
    have hle : s1.heap.objs.size ≤ b := by
      rcases List.mem_cons.mp hb with z | z
      · rw [z]; exact Nat.le_add_right _ _
      · rw [List.mem_singleton.mp z]; exact Nat.le_refl _
    exact I1.fpOk hle (I1.hok.fresh hle)
end Mir
end
set_option Elab.async false
set_option linter.all false
set_option maxRecDepth 100000
set_option maxHeartbeats 4000000
noncomputable section
namespace Mir
open PySem PySem.Spec L2

theorem fp_ne {X : Cx} {pins : List (Addr × Obj)} {σ : L2.St} {H : Hp} {s : Shared} {t : Bool} {a b : Addr} {xs : List V} (I : Inv X pins σ H s) (hf : FpOk X pins H b) (hq : Sqq t X.K H a xs) : a ≠ b := by
  rintro rfl
  have kk : ∀ o, X.K.lookup a = some o → False := fun o e => by
    have e1 := I.mod.kin a o e
    obtain ⟨_, _, _, q, _, _⟩ := hf
    rcases q with q | q
    · exact I.ok.noex a o e1 q
    · exact absurd (Nat.lt_of_lt_of_le (Heap.lt_size e1) (Nat.le_trans I.ok.bsz q)) (Nat.lt_irrefl _)
  cases t with
  | true =>
    rcases hq with (h | ⟨o, h⟩) | ⟨o, its, n, h, _⟩
    · rw [hf.1] at h; cases h
    · rw [hf.1] at h; cases h
    · exact kk o h
  | false =>
    rcases hq with (h | ⟨o, h⟩) | ⟨o, its, n, h, _⟩
    · rw [hf.1] at h; cases h
    · rw [hf.1] at h; cases h
    · exact kk o h

def Jzp (t u : Bool) (K : PySem.W.Frag) (a b : Addr) : It :=
  ⟨fun i H => ∃ xs ys x y, Sqq t K H a xs ∧ Sqq u K H b ys ∧ xs[i]? = some x ∧ ys[i]? = some y,
    fun i H v H' => ∃ T x y, v = .ref T ∧ H T = none ∧ H' = upd H T (.tup [x, y]) ∧ (∀ xs, Sqq t K H a xs → xs[i]? = some x) ∧ ∀ ys, Sqq u K H b ys → ys[i]? = some y,
    fun i H => ∃ xs ys, Sqq t K H a xs ∧ Sqq u K H b ys ∧ min xs.length ys.length = i⟩
theorem turn_zp {P : Program} {w : World} {K : PySem.W.Frag} {elts : List Expr} {kk : Nat} {tpos : Pos} (t u : Bool) (a b z TI TO i1 i2 : Addr) (nd : [z, TI, TO, i1, i2].Nodup) :
    Turn P w K (.Tuple elts kk tpos) (Jzp t u K a b) [z, TI, TO, i1, i2] z (fun i h => IsZip h z TI TO .none ∧ IsTupOf2 h TI (.ref i1) (.ref i2) ∧ (∃ a1 a2, IsTupOf2 h TO a1 a2) ∧ ItP t h i1 a i ∧ ItP u h i2 b i) := by
  have sep : a ∉ [z, TI, TO, i1, i2] → b ∉ [z, TI, TO, i1, i2] → ZipSep2 z TI TO i1 i2 [i1, a] [i2, b] := fun ha hb => by
    simp only [List.nodup_cons, List.mem_cons, List.not_mem_nil, or_false, not_or, List.nodup_nil, and_true, not_false_eq_true] at nd ha hb
    obtain ⟨⟨n1, n2, n3, n4⟩, ⟨n5, n6, n7⟩, ⟨n8, n9⟩, n10⟩ := nd
    obtain ⟨a1, a2, a3, a4, a5⟩ := ha
    obtain ⟨b1, b2, b3, b4, b5⟩ := hb
    refine ⟨Ne.symm n1, Ne.symm n2, n5, n6, by simp, ?_, ?_, n7, by simp, ?_, ?_, ?_, ?_⟩ <;> simp only [List.mem_cons, List.not_mem_nil, or_false, not_or]
    · exact ⟨n3, Ne.symm a1⟩
    · exact ⟨n8, Ne.symm a3⟩
    · exact ⟨n4, Ne.symm b1⟩
    · exact ⟨n9, Ne.symm b3⟩
    · exact ⟨n10, Ne.symm b4⟩
    · exact ⟨Ne.symm n10, Ne.symm a5⟩
  have live : ∀ {i : Nat} {h : Heap}, (IsZip h z TI TO .none ∧ IsTupOf2 h TI (.ref i1) (.ref i2) ∧ (∃ a1 a2, IsTupOf2 h TO a1 a2) ∧ ItP t h i1 a i ∧ ItP u h i2 b i) → ∀ c ∈ [z, TI, TO, i1, i2], ∃ o, h.get? c = some o ∧ ∀ v, o.data ≠ .cell v := fun st c hc => by
    obtain ⟨h1, h2, ⟨x1, x2, h3⟩, h4, h5⟩ := st
    simp only [List.mem_cons, List.not_mem_nil, or_false] at hc
    rcases hc with rfl | rfl | rfl | rfl | rfl
    · exact ⟨_, h1, fun v q => nomatch q⟩
    · exact ⟨_, h2, fun v q => nomatch q⟩
    · exact ⟨_, h3, fun v q => nomatch q⟩
    · exact it_obj h4
    · exact it_obj h5
  have wrs : ∀ c ∈ [z, TO, i1, i2], c ∈ [z, TI, TO, i1, i2] := fun c hc => by
    simp only [List.mem_cons, List.not_mem_nil, or_false] at hc ⊢
    rcases hc with rfl | rfl | rfl | rfl <;> simp
  refine ⟨by simp, fun i h st => live st, fun i h h' st k => ?_, ?_, ?_, fun A i s Q E st h => wpAny_pyIter_zip st.1 h⟩
  · obtain ⟨h1, h2, ⟨x1, x2, h3⟩, h4, h5⟩ := st
    exact ⟨k z (by simp) _ h1, k TI (by simp) _ h2, ⟨x1, x2, k TO (by simp) _ h3⟩, h4.at fun o q => k i1 (by simp) o q, h5.at fun o q => k i2 (by simp) o q⟩
  · intro X hP hw hK hc i pins s σ H E I hf st hg
    subst hP hw hK
    have hst := live st
    obtain ⟨h1, h2, h3, h4, h5⟩ := st
    obtain ⟨xs, ys, x, y, hq, hr, hx, hy⟩ := hg
    obtain ⟨its, rv, hco⟩ := hq.at I
    obtain ⟨jts, rw', hco'⟩ := hr.at I
    obtain ⟨u1, hu, ru⟩ := rv.get hx
    obtain ⟨u2, hu', ru'⟩ := rw'.get hy
    have S := sep (fun z => fp_ne I (hf a z) hq rfl) (fun z => fp_ne I (hf b z) hr rfl)
    have n1 : i < its.toArray.size := by rw [List.size_toArray]; exact (List.getElem?_eq_some_iff.mp hu).1
    have n2 : i < jts.toArray.size := by rw [List.size_toArray]; exact (List.getElem?_eq_some_iff.mp hu').1
    refine (GoesN.zip2 (prog := X.prog) (w := X.w) (elts := elts) (x1 := kk) (pos := tpos) S (drawsP (A := X.A.in1) (I.ok.hd hc) t (fp_ne I (hf i1 (by simp)) hq) its.toArray) (drawsP (A := X.A.in1) (I.ok.hd hc) u (fp_ne I (hf i2 (by simp)) hr) jts.toArray)).goes i s _ _ (by omega) ⟨h1, h2, h3, ⟨h4, hco⟩, h5, hco'⟩
      fun v h' tk ⟨T, p, q, ev, hT, hp, hq', hTup⟩ st' hk _ => ?_
    subst ev
    have e1 : p = u1 := by
      have hp' : its[i]? = some p := by simpa using hp
      rw [hu] at hp'
      exact (Option.some.inj hp').symm
    have e2 : q = u2 := by
      have hp' : jts[i]? = some q := by simpa using hq'
      rw [hu'] at hp'
      exact (Option.some.inj hp').symm
    subst e1 e2
    have new : ObjOk X.prog X.w (upd H T (.tup [x, y])) h' T (.tup [x, y]) := ⟨by show 2 ≤ sizeLine; decide, [p, q], .cons ru (.cons ru' .nil), hTup⟩
    refine ⟨.ref T, _, I.turnedNew (ch := [z, TI, TO, i1, i2]) (fun b o hb e => hk b o (fun m => hb (wrs b m)) e) hf hT new, rfl, ⟨T, x, y, rfl, I.hok.fresh hT, rfl, fun zs hz => by rw [hz.inj I hq]; exact hx, fun zs hz => by rw [hz.inj I hr]; exact hy⟩,
      ⟨st'.1, st'.2.1, st'.2.2.1, st'.2.2.2.1.1, st'.2.2.2.2.1⟩, fun c hc => ?_⟩
    obtain ⟨o, g, _⟩ := hst c hc
    rw [upd_ne (Nat.ne_of_lt (Nat.lt_of_lt_of_le (Heap.lt_size g) hT))]
    exact (hf c hc).1
  · intro X hP hw hK hc i pins s σ H E I hf st hg
    subst hP hw hK
    obtain ⟨h1, h2, h3, h4, h5⟩ := st
    obtain ⟨xs, ys, hq, hr, hl⟩ := hg
    obtain ⟨its, rv, hco⟩ := hq.at I
    obtain ⟨jts, rw', hco'⟩ := hr.at I
    have S := sep (fun z => fp_ne I (hf a z) hq rfl) (fun z => fp_ne I (hf b z) hr rfl)
    have hs : i = min its.toArray.size jts.toArray.size := by rw [List.size_toArray, List.size_toArray, ← rv.length, ← rw'.length]; exact hl.symm
    subst hs
    exact (GoesN.zip2 (prog := X.prog) (w := X.w) (elts := elts) (x1 := kk) (pos := tpos) S (drawsP (A := X.A.in1) (I.ok.hd hc) t (fp_ne I (hf i1 (by simp)) hq) its.toArray) (drawsP (A := X.A.in1) (I.ok.hd hc) u (fp_ne I (hf i2 (by simp)) hr) jts.toArray)).stops s _ _ ⟨h1, h2, h3, ⟨h4, hco⟩, h5, hco'⟩
      fun h' tk hk _ => I.turnedL (ch := [z, TI, TO, i1, i2]) (fun b o hb e => hk b o (fun m => hb (wrs b m)) e) hf
def iZp (K : PySem.W.Frag) (ta : TA) : TI := fun σ H R => ta σ H fun vs H1 => ∃ t u a b xs ys, vs = [.ref a, .ref b] ∧ Sqq t K H1 a xs ∧ Sqq u K H1 b ys ∧ R (Jzp t u K a b) H1
theorem pi_zp {X : Cx} {e e2 : Expr} {ta : TA} {p pos tpos : Pos} {elts : List Expr} {kk : Nat} (hg : Gl X "zip") (hm : X.mg "zip" = none) (ha : PA X [e, e2] ta) (hs : starEach [e, e2] X.env = (false, eval e X.env) :: starEach [e2] X.env := by rfl)
    (hpl : (backTo pos (starEach [e2] X.env)).any (·.1) = false := by rfl) : PI X (.Tuple elts kk tpos) (.Call (.Name "zip" p) [e, e2] [] pos) (iZp X.K ta) := by
  refine ⟨fun pins s σ H R I h => ?_⟩
  refine PyProof.Rows.Call_ (ld_blt I hg hm PyProof.Rows.boot_zip (PyProof.Rows.callWith_type1 (thn (ha.run pos pins s σ H _ I h) fun us s1 ⟨vs, H1, I1, r1, t, u, a, b, xs, ys, ex, hq, hr, q⟩ => ?_) hs hpl))
  subst ex
  cases r1 with
  | cons r rr =>
    cases rr with
    | cons r' rr =>
      cases rr
      cases r
      cases r'
      obtain ⟨its, rv, hco⟩ := hq.at I1
      obtain ⟨jts, rw', hco'⟩ := hr.at I1
      refine zip_begins2 (beginsP t a its.toArray) (beginsP u b jts.toArray) hco hco' fun h' hz hTI hTO g1 g2 _ hk => wpAny_pyIter_zip hz ?_
      have I2 : Inv X pins σ H1 { s1 with heap := h' } := I1.kept (t' := s1.toks) hk
      have le5 : ∀ c ∈ [s1.heap.objs.size + 4, s1.heap.objs.size + 2, s1.heap.objs.size + 3, s1.heap.objs.size, s1.heap.objs.size + 1], s1.heap.objs.size ≤ c := fun c hc => by
        simp only [List.mem_cons, List.not_mem_nil, or_false] at hc
        rcases hc with z | z | z | z | z <;> (rw [z]; first | exact Nat.le_refl _ | exact Nat.le_add_right _ _)
      have nd5 : ∀ n : Nat, [n + 4, n + 2, n + 3, n, n + 1].Nodup := fun n => by
        simp only [List.nodup_cons, List.mem_cons, List.not_mem_nil, or_false, not_or, List.nodup_nil, and_true, not_false_eq_true]
        omega
      exact ⟨_, _, _, _, H1, rfl, I2, turn_zp t u a b _ _ _ _ _ (nd5 s1.heap.objs.size), ⟨hz, hTI, ⟨_, _, hTO⟩, itP_new g1, itP_new g2⟩, fun c hc => I1.fpOk (le5 c hc) (I1.hok.fresh (le5 c hc)), q⟩
end Mir
end
set_option Elab.async false
set_option linter.all false
set_option maxRecDepth 100000
set_option maxHeartbeats 4000000
noncomputable section
namespace Mir
open PySem PySem.Spec L2

structure WalkF (K : PySem.W.Frag) (J : It) (F0 : Hp) (items : List D) : Prop where
  go : ∀ i F H, i < items.length → Same F0 F → Same F H → J.go i H
  yld : ∀ i F H x H', i < items.length → Same F0 F → Same F H → J.yld i H x H' → ∃ d F', items[i]? = some d ∧ Ext F H F' H' ∧ Dp K F' x d
  stop : ∀ F H, Same F0 F → Same F H → J.stop items.length H
def PIt (K : PySem.W.Frag) (_ : Hp) (items : List D) (J : It) (F' _ : Hp) : Prop := WalkF K J F' items
instance {K : PySem.W.Frag} : Anti (PIt K) := ⟨fun _ h => h⟩
def DI (X : Cx) (W : WX) (tg e : Expr) (f : Ev → R (List D)) : Prop := ∃ wi, PI X tg e wi ∧ Sm X W (PIt X.K) wi f
section
variable {K : PySem.W.Frag} {F0 : Hp} {a b : Addr} {vs ws : List V} {ds es : List D}
theorem walkF_l (h1 : SqL K F0 a vs) (h2 : DpAll K F0 vs ds) : WalkF K (Itl K a) F0 ds where
  go := fun i F H hi s1 s2 => by
    rw [← DpAll.len h2] at hi
    exact ⟨vs, vs[i], (s1.trans s2).seq h1, by simp [hi]⟩
  yld := fun i F H x H' hi s1 s2 ⟨e, q⟩ => by
    subst e
    obtain ⟨d, e1, e2⟩ := DpAll.getV h2 (q vs ((s1.trans s2).seq h1))
    exact ⟨d, F, e1, .refl s2, dpUp e2 s1⟩
  stop := fun F H s1 s2 => ⟨vs, (s1.trans s2).seq h1, by rw [DpAll.len h2]; exact Nat.le_refl _⟩
theorem walkF_t (h1 : SqT K F0 a vs) (h2 : DpAll K F0 vs ds) : WalkF K (Itt K a) F0 ds where
  go := fun i F H hi s1 s2 => by
    rw [← DpAll.len h2] at hi
    exact ⟨vs, vs[i], SqT_mono (s1.trans s2) h1, by simp [hi]⟩
  yld := fun i F H x H' hi s1 s2 ⟨e, q⟩ => by
    subst e
    obtain ⟨d, e1, e2⟩ := DpAll.getV h2 (q vs (SqT_mono (s1.trans s2) h1))
    exact ⟨d, F, e1, .refl s2, dpUp e2 s1⟩
  stop := fun F H s1 s2 => ⟨vs, SqT_mono (s1.trans s2) h1, by rw [DpAll.len h2]; exact Nat.le_refl _⟩
def charsD (z : Str) : List D := z.cps.toList.map fun c => .str ⟨#[c]⟩
theorem walkF_s (z : Str) : WalkF K (Its z) F0 (charsD z) where
  go := fun i F H hi s1 s2 => walk_str.goes i H (by simpa [charsD] using hi) trivial
  yld := fun i F H x H' hi s1 s2 h => by
    have hi' : i < z.cps.size := by simpa [charsD] using hi
    obtain ⟨e, c, e1, e2⟩ := walk_str.yields i H x H' hi' trivial h
    subst e e2
    exact ⟨_, F, by simp [charsD, e1], .refl s2, .str _⟩
  stop := fun F H s1 s2 => by
    have := (walk_str (z := z)).stops H trivial
    simpa [charsD] using this
def rangeD (lo : Int) (n : Nat) : List D := (List.range n).map fun i => .int (lo + (i : Nat))
def rangeCD (lo c : Int) (n : Nat) : List D := (List.range n).map fun i => .int (lo + (i : Nat) * c)
theorem walkF_r (lo : Int) (n : Nat) : WalkF K (Itr lo n) F0 (rangeD lo n) where
  go := fun i F H hi s1 s2 => walk_range.goes i H (by simpa [rangeD] using hi) trivial
  yld := fun i F H x H' hi s1 s2 h => by
    have hi' : i < n := by simpa [rangeD] using hi
    obtain ⟨e, e1⟩ := walk_range.yields i H x H' hi' trivial h
    subst e e1
    exact ⟨_, F, by simp [rangeD, hi'], .refl s2, .int _⟩
  stop := fun F H s1 s2 => by
    have := (walk_range (lo := lo) (n := n)).stops H trivial
    simpa [rangeD] using this
theorem walkF_rc (lo c : Int) (n : Nat) : WalkF K (Itc lo c n) F0 (rangeCD lo c n) where
  go := fun i F H hi s1 s2 => walk_rangeC.goes i H (by simpa [rangeCD] using hi) trivial
  yld := fun i F H x H' hi s1 s2 h => by
    have hi' : i < n := by simpa [rangeCD] using hi
    obtain ⟨e, e1⟩ := walk_rangeC.yields i H x H' hi' trivial h
    subst e e1
    exact ⟨_, F, by simp [rangeCD, hi'], .refl s2, .int _⟩
  stop := fun F H s1 s2 => by
    have := (walk_rangeC (lo := lo) (c := c) (n := n)).stops H trivial
    simpa [rangeCD] using this
def enumD : Nat → List D → List D
  | _, [] => []
  | n, d :: ds => .tuple [.int n, d] :: enumD (n + 1) ds
theorem enumD_len : ∀ (n : Nat) (ds : List D), (enumD n ds).length = ds.length
  | _, [] => rfl
  | n, d :: ds => by simp [enumD, enumD_len (n + 1) ds]
theorem enumD_get : ∀ (n i : Nat) (ds : List D) (d : D), ds[i]? = some d → (enumD n ds)[i]? = some (.tuple [.int (n + i : Nat), d])
  | n, i, [], d, h => by simp at h
  | n, 0, x :: ds, d, h => by simp at h; subst h; simp [enumD]
  | n, i + 1, x :: ds, d, h => by
    have := enumD_get (n + 1) i ds d (by simpa using h)
    simp only [enumD, List.getElem?_cons_succ, this]
    congr 3; congr 2; omega
def zipD : List D → List D → List D
  | x :: xs, y :: ys => .tuple [x, y] :: zipD xs ys
  | _, _ => []
@[simp] theorem zipD_nil (ys : List D) : zipD [] ys = [] := by cases ys <;> rfl
@[simp] theorem zipD_nil2 (ys : List D) : zipD ys [] = [] := by cases ys <;> rfl
@[simp] theorem zipD_cons (x y : D) (xs ys : List D) : zipD (x :: xs) (y :: ys) = .tuple [x, y] :: zipD xs ys := rfl
theorem zipD_len : ∀ (xs ys : List D), (zipD xs ys).length = min xs.length ys.length
  | [], ys => by simp
  | x :: xs, [] => by simp
  | x :: xs, y :: ys => by simp [zipD_len xs ys]
theorem zipD_get : ∀ (i : Nat) (xs ys : List D) (x y : D), xs[i]? = some x → ys[i]? = some y → (zipD xs ys)[i]? = some (.tuple [x, y])
  | i, [], ys, x, y, h, g => by simp at h
  | i, x :: xs, [], _, y, h, g => by simp at g
  | 0, a :: xs, b :: ys, x, y, h, g => by simp at h g; subst h g; rfl
  | i + 1, a :: xs, b :: ys, x, y, h, g => by
    have := zipD_get i xs ys x y (by simpa using h) (by simpa using g)
    simpa using this
theorem walkF_en {t : Bool} (h1 : Sqq t K F0 a vs) (h2 : DpAll K F0 vs ds) : WalkF K (Jen t K a) F0 (enumD 0 ds) where
  go := fun i F H hi s1 s2 => by
    rw [enumD_len, ← DpAll.len h2] at hi
    exact ⟨vs, vs[i], h1.mono (s1.trans s2), by simp [hi]⟩
  yld := fun i F H x H' hi s1 s2 ⟨T, y, e, hT, eH, q⟩ => by
    subst e eH
    obtain ⟨d, e1, e2⟩ := DpAll.getV h2 (q vs (h1.mono (s1.trans s2)))
    have x := Ext.frz s2 hT (.tup [.int (i : Nat), y])
    refine ⟨_, _, enumD_get 0 i ds d e1, x, ?_⟩
    rw [Nat.zero_add]
    exact .tup (SqT.of upd_same) (.cons (.int _) (.cons (dpUp e2 (s1.trans x.ff)) .nil))
  stop := fun F H s1 s2 => ⟨vs, h1.mono (s1.trans s2), by rw [enumD_len, DpAll.len h2]⟩
theorem walkF_zp {t u : Bool} (h1 : Sqq t K F0 a vs) (h2 : DpAll K F0 vs ds) (g1 : Sqq u K F0 b ws) (g2 : DpAll K F0 ws es) : WalkF K (Jzp t u K a b) F0 (zipD ds es) where
  go := fun i F H hi s1 s2 => by
    rw [zipD_len, ← DpAll.len h2, ← DpAll.len g2] at hi
    exact ⟨vs, ws, vs[i]'(by omega), ws[i]'(by omega), h1.mono (s1.trans s2), g1.mono (s1.trans s2), by simp, by simp⟩
  yld := fun i F H x H' hi s1 s2 ⟨T, y, z, e, hT, eH, q, q'⟩ => by
    subst e eH
    obtain ⟨d, e1, e2⟩ := DpAll.getV h2 (q vs (h1.mono (s1.trans s2)))
    obtain ⟨d', e1', e2'⟩ := DpAll.getV g2 (q' ws (g1.mono (s1.trans s2)))
    have x := Ext.frz s2 hT (.tup [y, z])
    exact ⟨_, _, zipD_get i ds es d d' e1 e1', x, .tup (SqT.of upd_same) (.cons (dpUp e2 (s1.trans x.ff)) (.cons (dpUp e2' (s1.trans x.ff)) .nil))⟩
  stop := fun F H s1 s2 => ⟨vs, ws, h1.mono (s1.trans s2), g1.mono (s1.trans s2), by rw [zipD_len, DpAll.len h2, DpAll.len g2]⟩
end
section
variable {X : Cx} {W : WX} {tg e e2 : Expr} {es : List Expr} {pos p : Pos} {f g : Ev → R D}
theorem PI.or {wi wj : TI} (h : PI X tg e wi) (h' : PI X tg e wj) : PI X tg e (fun σ H R => wi σ H R ∨ wj σ H R) := ⟨fun pins s σ H R I q => by
  rcases q with q | q
  · exact h.run pins s σ H R I q
  · exact h'.run pins s σ H R I q⟩
def itD : D → R (List D)
  | .list ds => .ok ds
  | .tuple ds => .ok ds
  | .str z => .ok (charsD z)
  | _ => .no
@[simp] theorem itD_list (ds : List D) : itD (.list ds) = .ok ds := rfl
@[simp] theorem itD_tup (ds : List D) : itD (.tuple ds) = .ok ds := rfl
@[simp] theorem itD_str (z : Str) : itD (.str z) = .ok (charsD z) := rfl
/-- go on by what the first part is -/
theorem Sm.choose {α β γ δ : Type} {P : Hp → α → β → Hp → Hp → Prop} {P2 : Hp → γ → δ → Hp → Hp → Prop} [Anti P2] {t : L2.St → Hp → (β → Hp → Prop) → Prop} {f : Ev → R α} (s : Sm X W P t f) {g : α → R γ} {F H : Hp} {σ : L2.St} {env : Ev} {fp : List Addr} {Q : δ → Hp → Prop} {G : Prop}
    (sat : Sat X.K F H σ env fp) (h : Post X W P2 F H σ ((f env).bind g) Q) (no : (∀ T, t σ H T) → G)
    (k : ∀ a, f env = .ok a → (∀ T, (∀ v F1 H1, Sat X.K F1 H1 σ env fp → P H a v F1 H1 → Ext F H F1 H1 → Post X W P2 F1 H1 σ (g a) Q → T v H1) → t σ H T) → G) : G := by
  cases e : f env with
  | no => rw [e] at h; exact h.elim
  | ok a =>
    refine k a e fun T hT => s F H σ env fp T sat ?_
    rw [e] at h ⊢
    exact fun v F' H' x p => hT v F' H' (sat.ext x) p x (Post.ext (show Post X W P2 F H σ (g a) Q from h) x)
  | ex c =>
    refine no fun T => s F H σ env fp T sat ?_
    rw [e] at h ⊢
    exact h
theorem di_seq (h : DF X W e f) : DI X W tg e (eB f itD) := by
  obtain ⟨t, p, s⟩ := h
  refine ⟨_, PI.or (pi_list p) (PI.or (pi_tup p) (pi_str p)), fun F H σ env fp Q sat hp => ?_⟩
  refine s.choose sat hp (fun z => .inl (z _)) fun d e k => ?_
  cases d with
  | list ds =>
    refine .inl (k _ fun v F1 H1 sat1 q _ h1 => ?_)
    obtain ⟨a, vs, rfl, q1, q2⟩ := dp_lst q
    exact ⟨a, rfl, ⟨vs, sat1.fh.seq q1⟩, h1 _ F1 H1 (.refl sat1.fh) (walkF_l q1 q2)⟩
  | tuple ds =>
    refine .inr (.inl (k _ fun v F1 H1 sat1 q _ h1 => ?_))
    obtain ⟨a, vs, rfl, q1, q2⟩ := dp_tup q
    exact ⟨a, rfl, ⟨vs, SqT_mono sat1.fh q1⟩, h1 _ F1 H1 (.refl sat1.fh) (walkF_t q1 q2)⟩
  | str z =>
    refine .inr (.inr (k _ fun v F1 H1 sat1 q _ h1 => ?_))
    cases dp_str q
    exact ⟨z, rfl, h1 _ F1 H1 (.refl sat1.fh) (walkF_s z)⟩
  | _ =>
    refine .inl (k _ fun v F1 H1 sat1 q _ h1 => h1.elim)
def rg1 : List D → R (List D)
  | [.int j] => guard (-(2 ^ 62) ≤ j ∧ j < 2 ^ 62) (.ok (rangeD 0 j.toNat))
  | _ => .no
theorem daf1 {K : PySem.W.Frag} {F : Hp} {d : D} {vs : List V} (h : DpAll K F vs [d]) : ∃ v, vs = [v] ∧ Dp K F v d := by
  cases h with | cons a b => cases b; exact ⟨_, rfl, a⟩
theorem daf2 {K : PySem.W.Frag} {F : Hp} {d d' : D} {vs : List V} (h : DpAll K F vs [d, d']) : ∃ v w, vs = [v, w] ∧ Dp K F v d ∧ Dp K F w d' := by
  cases h with | cons a b => cases b with | cons a' b' => cases b'; exact ⟨_, _, rfl, a, a'⟩
variable {fa : Ev → R (List D)}
theorem di_range1 (hg : Gl X "range") (hm : X.mg "range" = none) (h : DA X W [e] fa) (hs : starEach [e] X.env = [(false, eval e X.env)] := by rfl) : DI X W tg (.Call (.Name "range" p) [e] [] pos) (eB fa rg1) := by
  obtain ⟨t, pa, s⟩ := h
  refine ⟨_, pi_range1 hg hm pa hs, fun F H σ env fp Q sat hp => ?_⟩
  refine s.go sat hp fun ds vs F1 H1 sat1 q _ h1 => ?_
  unfold rg1 at h1
  split at h1
  · obtain ⟨c, h2⟩ := guard_post h1
    obtain ⟨v, rfl, w⟩ := daf1 q
    cases dp_int w
    exact ⟨_, rfl, c.1, c.2, h2 _ F1 H1 (.refl sat1.fh) (walkF_r _ _)⟩
  · exact h1.elim
def sqqD : D → Option (Bool × List D)
  | .list ds => some (false, ds)
  | .tuple ds => some (true, ds)
  | _ => none
theorem sqq_dp {K : PySem.W.Frag} {F : Hp} {v : V} {d : D} {t : Bool} {ds : List D} (h : Dp K F v d) (e : sqqD d = some (t, ds)) : ∃ a vs, v = .ref a ∧ Sqq t K F a vs ∧ DpAll K F vs ds := by
  cases d with
  | list es => cases e; exact dp_lst h
  | tuple es => cases e; exact dp_tup h
  | _ => cases e
def enArg : List D → R (List D)
  | [d] => match sqqD d with
    | some (_, ds) => .ok (enumD 0 ds)
    | none => .no
  | _ => .no
@[simp] theorem enArg_list (ds : List D) : enArg [.list ds] = .ok (enumD 0 ds) := rfl
@[simp] theorem enArg_tup (ds : List D) : enArg [.tuple ds] = .ok (enumD 0 ds) := rfl
def zpArg : List D → R (List D)
  | [d, e] => match sqqD d, sqqD e with
    | some (_, ds), some (_, es) => .ok (zipD ds es)
    | _, _ => .no
  | _ => .no
theorem di_enum {elts : List Expr} {kk : Nat} {tpos : Pos} (hg : Gl X "enumerate") (hm : X.mg "enumerate" = none) (h : DA X W [e] fa) (hs : starEach [e] X.env = [(false, eval e X.env)] := by rfl) : DI X W (.Tuple elts kk tpos) (.Call (.Name "enumerate" p) [e] [] pos) (eB fa enArg) := by
  obtain ⟨t, pa, s⟩ := h
  refine ⟨_, pi_en hg hm pa hs, fun F H σ env fp Q sat hp => ?_⟩
  refine s.go sat hp fun ds vs F1 H1 sat1 q _ h1 => ?_
  unfold enArg at h1
  split at h1
  · split at h1
    · rename_i t es e2
      obtain ⟨v, rfl, w⟩ := daf1 q
      obtain ⟨a, us, rfl, q1, q2⟩ := sqq_dp w e2
      exact ⟨t, a, us, rfl, q1.mono sat1.fh, h1 _ F1 H1 (.refl sat1.fh) (walkF_en q1 q2)⟩
    · exact h1.elim
  · exact h1.elim
theorem di_zip {elts : List Expr} {kk : Nat} {tpos : Pos} (hg : Gl X "zip") (hm : X.mg "zip" = none) (h : DA X W [e, e2] fa) (hs : starEach [e, e2] X.env = (false, eval e X.env) :: starEach [e2] X.env := by rfl)
    (hpl : (backTo pos (starEach [e2] X.env)).any (·.1) = false := by rfl) : DI X W (.Tuple elts kk tpos) (.Call (.Name "zip" p) [e, e2] [] pos) (eB fa zpArg) := by
  obtain ⟨t, pa, s⟩ := h
  refine ⟨_, pi_zp hg hm pa hs hpl, fun F H σ env fp Q sat hp => ?_⟩
  refine s.go sat hp fun ds vs F1 H1 sat1 q _ h1 => ?_
  unfold zpArg at h1
  split at h1
  · split at h1
    · rename_i t es u gs e2 e3
      obtain ⟨v, w, rfl, w1, w2⟩ := daf2 q
      obtain ⟨a, us, rfl, q1, q2⟩ := sqq_dp w1 e2
      obtain ⟨b, us', rfl, q3, q4⟩ := sqq_dp w2 e3
      exact ⟨t, u, a, b, us, us', rfl, q1.mono sat1.fh, q3.mono sat1.fh, h1 _ F1 H1 (.refl sat1.fh) (walkF_zp q1 q2 q3 q4)⟩
    · exact h1.elim
  · exact h1.elim
end
end Mir
end
set_option Elab.async false
set_option linter.all false
set_option maxRecDepth 100000
set_option maxHeartbeats 4000000
noncomputable section
namespace Mir
open PySem PySem.Spec L2

section
variable {K : PySem.W.Frag} {F H : Hp} {σ : L2.St} {env : Ev} {fp : List Addr}
/-- store an own value; fx: the value's new footprint -/
theorem Sat.put (s : Sat K F H σ env fp) {i : Nat} (hi : i < env.length) {v : V} {o : Ow} {fx : List Addr} (h : OwnAt K F H v o fx) (nd : fx.Nodup) (dj : ∀ b ∈ fx, b ∉ fp) :
    ∃ fp', Sat K F H (σ.set i (some v)) (env.set i (some o)) fp' ∧ ∀ b ∈ fp', b ∈ fx ∨ b ∈ fp := by
  obtain ⟨fr, fo, a1, a2, a3, a4, a5, a6, a7⟩ := s.en.put hi s.nd
  obtain ⟨fp', b1, b2, b3⟩ := (a7 F H [] [] (StepS.of_ext (.refl s.fh) []) fun _ _ => by simp).2 v o fx h nd fun b hb z => dj b hb (a1 b z)
  exact ⟨fp', ⟨s.fh, b3, b1⟩, fun b hb => (b2 b hb).imp id (a1 b)⟩
end

def Off (ix : List Nat) (σ σ' : L2.St) : Prop := σ'.length = σ.length ∧ ∀ j, j ∉ ix → σ'[j]? = σ[j]?
theorem Off.refl (σ : L2.St) (ix : List Nat) : Off ix σ σ := ⟨rfl, fun _ _ => rfl⟩
theorem Off.trans {ix jx : List Nat} {σ σ1 σ2 : L2.St} (a : Off ix σ σ1) (b : Off jx σ1 σ2) : Off (ix ++ jx) σ σ2 :=
  ⟨b.1.trans a.1, fun j h => (b.2 j fun z => h (List.mem_append_right _ z)).trans (a.2 j fun z => h (List.mem_append_left _ z))⟩
/-- the reading of a target, by its mirror -/
def tgOf (K : PySem.W.Frag) (ix : List Nat) (g : D → Ev → Option Ev) : TG := fun v σ H Q => ∃ F env fp d env', Sat K F H σ env fp ∧ Dp K F v d ∧ g d env = some env' ∧ ∀ σ' fp', Sat K F H σ' env' fp' → (∀ b ∈ fp', b ∈ fp) → Off ix σ σ' → Q σ' H
def tgsOf (K : PySem.W.Frag) (ix : List Nat) (g : List D → Ev → Option Ev) : TGs := fun v σ H Q => ∃ F env fp d env', Sat K F H σ env fp ∧ DpAll K F v d ∧ g d env = some env' ∧ ∀ σ' fp', Sat K F H σ' env' fp' → (∀ b ∈ fp', b ∈ fp) → Off ix σ σ' → Q σ' H
def DG (X : Cx) (tg : Expr) (ix : List Nat) (g : D → Ev → Option Ev) : Prop := PG X tg (tgOf X.K ix g)
def DGs (X : Cx) (tg : List Expr) (ix : List Nat) (g : List D → Ev → Option Ev) : Prop := PGs X tg (tgsOf X.K ix g)
theorem PG.imp {X : Cx} {tg : Expr} {t t' : TG} (h : PG X tg t) (k : ∀ v σ H Q, t' v σ H Q → t v σ H Q) : PG X tg t' := ⟨fun pins s σ H v u Q I r q => h.run pins s σ H v u Q I r (k v σ H Q q)⟩
theorem PGs.imp {X : Cx} {tg : List Expr} {t t' : TGs} (h : PGs X tg t) (k : ∀ v σ H Q, t' v σ H Q → t v σ H Q) : PGs X tg t' := ⟨fun pins s σ H v u Q I r q => h.run pins s σ H v u Q I r (k v σ H Q q)⟩
def gtName (i : Nat) (d : D) (env : Ev) : Option Ev := if i < env.length then some (env.set i (some (.d d))) else none
def gtNil : List D → Ev → Option Ev
  | [], env => some env
  | _, _ => none
def gtCons (g : D → Ev → Option Ev) (h : List D → Ev → Option Ev) : List D → Ev → Option Ev
  | d :: ds, env => (g d env).bind (h ds)
  | _, _ => none
def gtTup (n : Nat) (h : List D → Ev → Option Ev) : D → Ev → Option Ev
  | .tuple ds, env => if ds.length = n then h ds env else none
  | _, _ => none
section
variable {X : Cx} {e : Expr} {es : List Expr} {pos : Pos}
theorem dg_name (i : Nat) {x : Str} (hN : X.N.Nodup) (hi : X.N[i]? = some x := by rfl) (hx : Loc X.env.scope x := by first | exact Or.inl rfl | exact Or.inr rfl) (hf : X.fn x = true ∨ X.env.scope.names.lookup x = some .local := by first | exact .inl rfl | exact .inr rfl | assumption) : DG X (.Name x pos) [i] (gtName i) := by
  refine PG.imp (pg_name hN hi hx hf) ?_
  rintro v σ H Q ⟨F, env, fp, d, env', sat, hd, he, q⟩
  unfold gtName at he
  split at he
  · cases he
    obtain ⟨fp', s', h'⟩ := sat.put ‹_› (OwnAt.d hd) List.nodup_nil (fun _ z => nomatch z)
    exact q _ fp' s' (fun b hb => (h' b hb).elim (fun z => nomatch z) id) ⟨by simp, fun j hj => List.getElem?_set_ne (fun z => hj (by simp [z]))⟩
  · cases he
theorem dgs_nil : DGs X [] [] gtNil := by
  refine PGs.imp pgs_nil ?_
  rintro v σ H Q ⟨F, env, fp, d, env', sat, hd, he, q⟩
  cases d with
  | nil => cases hd; cases he; exact ⟨rfl, q σ fp sat (fun _ z => z) (.refl _ _)⟩
  | cons d ds => cases he
theorem dgs_cons {ix jx : List Nat} {g : D → Ev → Option Ev} {h : List D → Ev → Option Ev} (h1 : DG X e ix g) (h2 : DGs X es jx h) (hs : (assignEach (e :: es) X.env).map (·.2) = assign e X.env :: (assignEach es X.env).map (·.2) := by rfl) : DGs X (e :: es) (ix ++ jx) (gtCons g h) := by
  refine PGs.imp (pgs_cons h1 h2 hs) ?_
  rintro v σ H Q ⟨F, env, fp, d, env', sat, hd, he, q⟩
  cases d with
  | nil => cases he
  | cons d ds =>
    cases hd with
    | cons d1 d2 =>
      cases e1 : g d env with
      | none => unfold gtCons at he; simp only at he; rw [e1] at he; cases he
      | some env1 =>
        unfold gtCons at he; simp only at he; rw [e1] at he
        refine ⟨_, _, rfl, F, env, fp, d, env1, sat, d1, e1, fun σ1 fp1 sat1 sub1 o1 => ?_⟩
        exact ⟨F, env1, fp1, ds, env', sat1, d2, he, fun σ2 fp2 sat2 sub2 o2 => q σ2 fp2 sat2 (fun b hb => sub1 b (sub2 b hb)) (o1.trans o2)⟩
theorem dg_tup {k n : Nat} {ix : List Nat} {h : List D → Ev → Option Ev} (hc : X.calm = true) (hs : DGs X es ix h) (hn : (assignEach es X.env).length = n := by rfl) (hst : (assignEach es X.env).findIdx? (·.1) = none := by rfl) : DG X (.Tuple es k pos) ix (gtTup n h) := by
  refine PG.imp (pg_tup hc hs hn hst) ?_
  rintro v σ H Q ⟨F, env, fp, d, env', sat, hd, he, q⟩
  unfold gtTup at he
  split at he
  · split at he
    · rename_i ds c
      obtain ⟨a, vs, rfl, h1, h2⟩ := dp_tup hd
      exact ⟨a, vs, rfl, SqT_mono sat.fh h1, (DpAll.len h2).trans c, F, env, fp, ds, env', sat, h2, he, q⟩
    · cases he
  · cases he
end

inductive SR where
  | no
  | nx (env : Ev)
  | rt (r : Ow) (env : Ev)
  | bk (env : Ev)
  | ct (env : Ev)
  | ex (c : Str) (env : Ev)
def SR.andThen : SR → (Ev → SR) → SR
  | .nx env, f => f env
  | r, _ => r
@[simp] theorem SR.andThen_nx (env : Ev) (f : Ev → SR) : (SR.nx env).andThen f = f env := rfl
@[simp] theorem SR.andThen_rt (r : Ow) (env : Ev) (f : Ev → SR) : (SR.rt r env).andThen f = .rt r env := rfl
@[simp] theorem SR.andThen_ex (c : Str) (env : Ev) (f : Ev → SR) : (SR.ex c env).andThen f = .ex c env := rfl
@[simp] theorem SR.andThen_bk (env : Ev) (f : Ev → SR) : (SR.bk env).andThen f = .bk env := rfl
@[simp] theorem SR.andThen_ct (env : Ev) (f : Ev → SR) : (SR.ct env).andThen f = .ct env := rfl
@[simp] theorem SR.andThen_no (f : Ev → SR) : SR.no.andThen f = .no := rfl
/-- a pure part, then a statement's outcome -/
def R.st {α : Type} (env : Ev) : R α → (α → SR) → SR
  | .no, _ => .no
  | .ok a, f => f a
  | .ex c, _ => .ex c env
@[simp] theorem R.st_ok {α : Type} (env : Ev) (a : α) (f : α → SR) : (R.ok a).st env f = f a := rfl
@[simp] theorem R.st_ex {α : Type} (env : Ev) (c : Str) (f : α → SR) : (R.ex c : R α).st env f = .ex c env := rfl
/-- S: the slots that may be stored -/
def OffS (S : Nat → Bool) (σ σ' : L2.St) : Prop := ∀ j, S j = false → σ'[j]? = σ[j]?
theorem OffS.refl (S : Nat → Bool) (σ : L2.St) : OffS S σ σ := fun _ _ => rfl
theorem OffS.trans {S : Nat → Bool} {σ σ1 σ2 : L2.St} (a : OffS S σ σ1) (b : OffS S σ1 σ2) : OffS S σ σ2 := fun j h => (b j h).trans (a j h)
theorem OffS.set {S : Nat → Bool} {σ : L2.St} {i : Nat} (h : S i = true) (x : Option V) : OffS S σ (σ.set i x) := fun j hj => List.getElem?_set_ne fun z => by rw [z, hj] at h; cases h
theorem OffS.of {S : Nat → Bool} {σ σ' : L2.St} {ix : List Nat} (h : Off ix σ σ') (k : ix.all S = true) : OffS S σ σ' := fun j hj => h.2 j fun z => by
  rw [List.all_eq_true] at k
  rw [k j z] at hj; cases hj
def PostS (X : Cx) (W : WX) (S : Nat → Bool) (σ0 : L2.St) (F H : Hp) (fp : List Addr) (D : Ends) : SR → Prop
  | .no => False
  | .nx env => ∀ σ F' H' fp', OffS S σ0 σ → StepS F H fp F' H' fp' → Sat X.K F' H' σ env fp' → D.nx σ H'
  | .bk env => ∀ σ F' H' fp', OffS S σ0 σ → StepS F H fp F' H' fp' → Sat X.K F' H' σ env fp' → D.bk σ H'
  | .ct env => ∀ σ F' H' fp', OffS S σ0 σ → StepS F H fp F' H' fp' → Sat X.K F' H' σ env fp' → D.ct σ H'
  | .rt r env => ∀ v σ F' H' fx fp', OffS S σ0 σ → StepS F H fp F' H' (fx ++ fp') → Sat X.K F' H' σ env fp' → OwnAt X.K F' H' v r fx → (fx ++ fp').Nodup → D.rt v H'
  | .ex c env => ∀ C σ F' H' fp', X.mg c = some (.ref C) → OffS S σ0 σ → StepS F H fp F' H' fp' → Sat X.K F' H' σ env fp' → W (.ref C) none σ H'
def SmS (X : Cx) (W : WX) (S : Nat → Bool) (t : TS) (f : Ev → SR) : Prop := ∀ F H σ env fp D, Sat X.K F H σ env fp → PostS X W S σ F H fp D (f env) → t D σ H
def DS (X : Cx) (W : WX) (S : Nat → Bool) (st : Stmt) (f : Ev → SR) : Prop := ∃ t, PS X st t ∧ SmS X W S t f
def DSs (X : Cx) (W : WX) (S : Nat → Bool) (st : List Stmt) (f : Ev → SR) : Prop := ∃ t, PSs X st t ∧ SmS X W S t f
section
variable {X : Cx} {W : WX} {S : Nat → Bool} {σ0 σ1 : L2.St} {F H F1 H1 : Hp} {fp fp1 : List Addr} {D : Ends}
theorem PostS.step {r : SR} (h : PostS X W S σ0 F H fp D r) (o : OffS S σ0 σ1) (s : StepS F H fp F1 H1 fp1) : PostS X W S σ1 F1 H1 fp1 D r := by
  cases r with
  | no => exact h
  | nx env => exact fun σ F' H' fp' o' s' => h σ F' H' fp' (o.trans o') (s.trans s')
  | bk env => exact fun σ F' H' fp' o' s' => h σ F' H' fp' (o.trans o') (s.trans s')
  | ct env => exact fun σ F' H' fp' o' s' => h σ F' H' fp' (o.trans o') (s.trans s')
  | rt r env => exact fun v σ F' H' fx fp' o' s' => h v σ F' H' fx fp' (o.trans o') (s.trans s')
  | ex c env => exact fun C σ F' H' fp' m o' s' => h C σ F' H' fp' m (o.trans o') (s.trans s')
theorem PostS.ext {r : SR} (h : PostS X W S σ0 F H fp D r) (e : Ext F H F1 H1) : PostS X W S σ0 F1 H1 fp D r := h.step (.refl _ _) (StepS.of_ext e fp)
theorem PostS.sub {S' : Nat → Bool} {r : SR} (h : PostS X W S σ0 F H fp D r) (k : ∀ j, S j = false → S' j = false) : PostS X W S' σ0 F H fp D r := by
  have o : ∀ {σ : L2.St}, OffS S' σ0 σ → OffS S σ0 σ := fun o j hj => o j (k j hj)
  cases r with
  | no => exact h
  | nx env => exact fun σ F' H' fp' o' s' => h σ F' H' fp' (o o') s'
  | bk env => exact fun σ F' H' fp' o' s' => h σ F' H' fp' (o o') s'
  | ct env => exact fun σ F' H' fp' o' s' => h σ F' H' fp' (o o') s'
  | rt r env => exact fun v σ F' H' fx fp' o' s' => h v σ F' H' fx fp' (o o') s'
  | ex c env => exact fun C σ F' H' fp' m o' s' => h C σ F' H' fp' m (o o') s'
/-- a pure part within a statement -/
theorem Sm.st {α β : Type} {P : Hp → α → β → Hp → Hp → Prop} {t : L2.St → Hp → (β → Hp → Prop) → Prop} {f : Ev → R α} (s : Sm X W P t f) {g : α → SR} {σ : L2.St} {env : Ev} {T : β → Hp → Prop} (sat : Sat X.K F H σ env fp)
    (h : PostS X W S σ F H fp D ((f env).st env g)) (k : ∀ a v F1 H1, Sat X.K F1 H1 σ env fp → P H a v F1 H1 → Ext F H F1 H1 → PostS X W S σ F1 H1 fp D (g a) → T v H1) : t σ H T := by
  refine s F H σ env fp T sat ?_
  cases e : f env with
  | no => rw [e] at h; exact h
  | ok a =>
    rw [e] at h
    exact fun v F' H' x p => k a v F' H' (sat.ext x) p x (PostS.ext (show PostS X W S σ F H fp D (g a) from h) x)
  | ex c =>
    rw [e] at h
    exact fun C F' H' m x => h C σ F' H' fp m (.refl _ _) (StepS.of_ext x fp) (sat.ext x)
end
section
variable {X : Cx} {W : WX} {S : Nat → Bool} {st : Stmt} {sts : List Stmt} {e : Expr} {pos : Pos} {fs gs : Ev → SR}
def sSkip (env : Ev) : SR := .nx env
def sSeq (f g : Ev → SR) (env : Ev) : SR := (f env).andThen g
theorem dss_nil : DSs X W S [] sSkip := ⟨_, pss_nil, fun F H σ env fp D sat h => h σ F H fp (.refl _ _) (StepS.of_ext (.refl sat.fh) fp) sat⟩
theorem dss_one (h : DS X W S st fs) : DSs X W S [st] fs := by
  obtain ⟨t, p, s⟩ := h
  exact ⟨_, pss_one p, s⟩
theorem seq_sm {t u : TS} (s : SmS X W S t fs) (s' : SmS X W S u gs) : SmS X W S (tSeq t u) (sSeq fs gs) := by
  intro F H σ env fp D sat h
  refine s F H σ env fp _ sat ?_
  unfold sSeq at h
  cases e : fs env with
  | no => rw [e] at h; exact h
  | nx env1 =>
    rw [e] at h
    exact fun σ1 F1 H1 fp1 o1 st1 sat1 => s' F1 H1 σ1 env1 fp1 D sat1 (PostS.step (show PostS X W S σ F H fp D (gs env1) from h) o1 st1)
  | bk env1 => rw [e] at h; exact h
  | ct env1 => rw [e] at h; exact h
  | rt r env1 => rw [e] at h; exact h
  | ex c env1 => rw [e] at h; exact h
theorem dss_cons (h : DS X W S st fs) (h2 : DSs X W S sts gs) : DSs X W S (st :: sts) (sSeq fs gs) := by
  obtain ⟨t, p, s⟩ := h
  obtain ⟨t', p', s'⟩ := h2
  exact ⟨_, pss_cons p p', seq_sm s s'⟩
/-- name = e -/
def sSet (i : Nat) (f : Ev → R Ow) (env : Ev) : SR := (f env).st env fun r => if i < env.length then .nx (env.set i (some r)) else .no
theorem fresh_dj {K : PySem.W.Frag} {H F' H' : Hp} {F : Hp} {σ : L2.St} {env : Ev} {fp fx : List Addr} (sat : Sat K F H σ env fp) (n : ∀ b ∈ fx, H b = none) : ∀ b ∈ fx, b ∉ fp := fun b hb z => by
  obtain ⟨_, vs, e⟩ := sat.en.there b z
  rw [n b hb] at e
  cases e
theorem put_step {K : PySem.W.Frag} {F H F1 H1 : Hp} {σ : L2.St} {env : Ev} {fp fx : List Addr} {i : Nat} {v : V} {r : Ow} (sat : Sat K F H σ env fp) (x : Ext F H F1 H1) (h : OwnAt K F1 H1 v r fx) (nd : fx.Nodup) (n : ∀ b ∈ fx, H b = none) (hi : i < env.length) :
    ∃ fp', StepS F H fp F1 H1 fp' ∧ Sat K F1 H1 (σ.set i (some v)) (env.set i (some r)) fp' := by
  obtain ⟨fp', s', h'⟩ := (sat.ext x).put hi h nd (fresh_dj (F' := F) (H' := H) sat n)
  exact ⟨fp', ⟨x.ff, fun b o e _ => x.hh b o e, fun b o e => (x.fn b o e).imp id .inr, fun b hb => (h' b hb).elim (fun z => .inr (n b z)) .inl⟩, s'⟩
theorem ds_set {f : Ev → R Ow} {x : Str} {pos' : Pos} (i : Nat) (hN : X.N.Nodup) (he : DE X W e f) (hi : X.N[i]? = some x := by rfl) (hx : Loc X.env.scope x := by first | exact Or.inl rfl | exact Or.inr rfl)
    (hs : swapsWith e (some (.Name x pos')) pos.line X.env = pure false := by rfl) (hf : X.fn x = true ∨ X.env.scope.names.lookup x = some .local := by first | exact .inl rfl | exact .inr rfl | assumption) (hS : S i = true := by rfl) : DS X W S (.Assign [.Name x pos'] e pos) (sSet i f) := by
  obtain ⟨t, p, s⟩ := he
  refine ⟨_, ps_set hN hi hx p hs hf, fun F H σ env fp D sat h => ?_⟩
  refine s F H σ env fp _ sat ?_
  unfold sSet at h
  cases e : f env with
  | no => rw [e] at h; exact h
  | ex c => rw [e] at h; exact fun C F' H' m x => h C σ F' H' fp m (.refl _ _) (StepS.of_ext x fp) (sat.ext x)
  | ok r =>
    rw [e] at h
    intro v F' H' x ⟨fx, q, nd, n⟩
    have h' : PostS X W S σ F H fp D (if i < env.length then .nx (env.set i (some r)) else .no) := h
    split at h'
    · obtain ⟨fp', s1, s2⟩ := put_step sat x q nd n ‹_›
      exact h' _ F' H' fp' (.set hS _) s1 s2
    · exact h'.elim
/-- targets = e, e frozen -/
def sAsg (g : D → Ev → Option Ev) (f : Ev → R D) (env : Ev) : SR := (f env).st env fun d => match g d env with
  | some env' => .nx env'
  | none => .no
theorem ds_asg {f : Ev → R D} {g : D → Ev → Option Ev} {tg : Expr} {ix : List Nat} (he : DF X W e f) (hg : DG X tg ix g) (hs : swapsWithSole [tg] e pos.line X.env = pure false := by rfl) (hw : swappedStores [tg] e X.env = pure none := by rfl)
    (h1 : (assignEach [tg] X.env).map (·.2) = [assign tg X.env] := by rfl) (hS : ix.all S = true := by rfl) : DS X W S (.Assign [tg] e pos) (sAsg g f) := by
  obtain ⟨t, p, s⟩ := he
  refine ⟨_, ps_asg p hg hs hw h1, fun F H σ env fp D sat h => ?_⟩
  refine s.st sat h fun d v F1 H1 sat1 q _ h1 => ?_
  split at h1
  · rename_i env' e
    exact ⟨F1, env, fp, d, env', sat1, q, e, fun σ' fp' sat' sub off => h1 σ' F1 H1 fp' (.of off hS) ((StepS.of_ext (.refl sat1.fh) fp).subset sub) sat'⟩
  · exact h1.elim
/-- an expression whose value is dropped -/
def sDrop (f : Ev → R D) (env : Ev) : SR := (f env).st env fun _ => .nx env
theorem ds_expr {f : Ev → R D} (he : DF X W e f) (hs : swapsWith e none pos.line X.env = pure false := by rfl) : DS X W S (.Expr e pos) (sDrop f) := by
  obtain ⟨t, p, s⟩ := he
  refine ⟨_, ps_expr p hs, fun F H σ env fp D sat h => ?_⟩
  exact s.st sat h fun d v F1 H1 sat1 q _ h1 => h1 σ F1 H1 fp (.refl _ _) (StepS.of_ext (.refl sat1.fh) fp) sat1
def sRet (f : Ev → R Ow) (env : Ev) : SR := (f env).st env fun r => .rt r env
theorem ds_ret {f : Ev → R Ow} (he : DE X W e f) : DS X W S (.Return (some e) pos) (sRet f) := by
  obtain ⟨t, p, s⟩ := he
  refine ⟨_, ps_ret p, fun F H σ env fp D sat h => ?_⟩
  refine s F H σ env fp _ sat ?_
  unfold sRet at h
  cases e : f env with
  | no => rw [e] at h; exact h
  | ex c => rw [e] at h; exact fun C F' H' m x => h C σ F' H' fp m (.refl _ _) (StepS.of_ext x fp) (sat.ext x)
  | ok r =>
    rw [e] at h
    intro v F' H' x ⟨fx, q, nd, n⟩
    have dj := fresh_dj (F' := F) (H' := H) sat n
    refine h v σ F' H' fx fp (.refl _ _) ⟨x.ff, fun b o e _ => x.hh b o e, fun b o e => (x.fn b o e).imp id .inr, fun b hb => ?_⟩ (sat.ext x) q ?_
    · rcases List.mem_append.mp hb with z | z
      · exact .inr (n b z)
      · exact .inl z
    · rw [List.nodup_append]; exact ⟨nd, sat.nd, fun a ha b hb e => dj a ha (e ▸ hb)⟩
def sRetN (env : Ev) : SR := .rt (.d .none) env
/-- return x, x given away -/
def sRetV (i : Nat) (env : Ev) : SR := match env[i]? with
  | some (some o) => .rt o (env.set i none)
  | _ => .no
theorem ds_retV (i : Nat) {x : Str} {pos' : Pos} (hN : X.N[i]? = some x := by rfl) (hv : Vis X.env.scope x := by first | exact Or.inl rfl | exact Or.inr (Or.inl rfl) | exact Or.inr (Or.inr rfl)) (hd : (x == ("__debug__" : Str)) = false := by decide)
    (hcd : (x == ("__classdict__" : Str)) = false := by decide) : DS X W S (.Return (some (.Name x pos')) pos) (sRetV i) := by
  refine ⟨_, ps_ret (pe_var hN hv hd hcd), fun F H σ env fp D sat h => ?_⟩
  unfold sRetV at h
  split at h
  · rename_i o he
    have hi : i < env.length := (List.getElem?_eq_some_iff.mp he).1
    obtain ⟨fr, fo, a1, a2, a3, a3', a4, a5, a6⟩ := sat.en.put hi sat.nd
    obtain ⟨v, e1, e2⟩ := a5 o he
    have e3 := (a6 F H [] [] (StepS.of_ext (.refl sat.fh) []) fun _ _ => by simp).1 (some v)
    have es : σ.set i (some v) = σ := by
      refine List.ext_getElem? fun j => ?_
      by_cases hj : i = j
      · subst hj
        rw [List.getElem?_set_self (List.getElem?_eq_some_iff.mp e1).1]
        exact e1.symm
      · rw [List.getElem?_set_ne hj]
    rw [es] at e3
    refine ⟨v, e1, h v _ F H fo fr (.refl _ _) ((StepS.of_ext (.refl sat.fh) fp).subset fun b hb => ?_) ⟨sat.fh, e3, a3⟩ e2 ?_⟩
    · exact (List.mem_append.mp hb).elim (a2 b) (a1 b)
    · rw [List.nodup_append]; exact ⟨a3', a3, fun a ha b hb e => a4 a ha (e ▸ hb)⟩
  · exact h.elim
/-- a def's own list made data, ahead of a statement -/
def frzV (i : Nat) (env : Ev) : Ev := match env[i]? with
  | some (some o) => env.set i (some (.d (viewD o)))
  | _ => env
theorem frz_sat {K : PySem.W.Frag} {F H : Hp} {σ : L2.St} {env : Ev} {fp : List Addr} (i : Nat) (sat : Sat K F H σ env fp) : ∃ F' fp', StepS F H fp F' H fp' ∧ Sat K F' H σ (frzV i env) fp' := by
  unfold frzV
  split
  · rename_i o he
    have hi : i < env.length := (List.getElem?_eq_some_iff.mp he).1
    obtain ⟨fr, fo, a1, a2, a3, a3', a4, a5, a6⟩ := sat.en.put hi sat.nd
    obtain ⟨v, e1, e2⟩ := a5 o he
    have nx : ∀ b ∈ fo, F b = none := fun b hb => (OwnAt.there _ _ _ e2 b hb).1
    have st : StepS F H fo (frzAt F H fo) H [] := ⟨frzAt_same nx, fun b o e _ => e, fun b o e => (frzAt_of e).imp id .inl, fun b z => nomatch z⟩
    obtain ⟨fp', b1, b2, b3⟩ := (a6 (frzAt F H fo) H fo [] st fun b hb z => a4 b z hb).2 v _ [] (.d (OwnAt.frz nx _ _ _ e2 fun _ z => z)) List.nodup_nil (fun _ z => nomatch z)
    have es : σ.set i (some v) = σ := by
      refine List.ext_getElem? fun j => ?_
      by_cases hj : i = j
      · subst hj
        rw [List.getElem?_set_self (by rw [sat.en.len]; exact hi)]
        exact e1.symm
      · rw [List.getElem?_set_ne hj]
    rw [es] at b3
    exact ⟨_, fp', ⟨frzAt_same nx, fun b o e _ => e, fun b o e => (frzAt_of e).imp id fun z => .inl (a2 b z), fun b hb => .inl ((b2 b hb).elim (fun z => nomatch z) (a1 b))⟩, ⟨frzAt_in sat.fh, b3, b1⟩⟩
  · exact ⟨F, fp, StepS.of_ext (.refl sat.fh) fp, sat⟩
def sFrz (i : Nat) (f : Ev → SR) (env : Ev) : SR := f (frzV i env)
theorem frz_sm {t : TS} (i : Nat) (s : SmS X W S t fs) : SmS X W S t (sFrz i fs) := by
  intro F H σ env fp D sat h
  obtain ⟨F', fp', s1, s2⟩ := frz_sat i sat
  exact s F' H σ _ fp' D s2 (PostS.step h (.refl _ _) s1)
theorem ds_frz (i : Nat) (h : DS X W S st fs) : DS X W S st (sFrz i fs) := by
  obtain ⟨t, p, s⟩ := h
  exact ⟨t, p, frz_sm i s⟩
def sIf (c : Ev → R Bool) (f g : Ev → SR) (env : Ev) : SR := (c env).st env fun b => if b = true then f env else g env
theorem ds_if {c : Expr} {a b : List Stmt} {fc : Ev → R Bool} (hc : DT X W c fc) (ha : DSs X W S a fs) (hb : DSs X W S b gs) : DS X W S (.If c a b pos) (sIf fc fs gs) := by
  obtain ⟨t, p, s⟩ := hc
  obtain ⟨ta, pa, sa⟩ := ha
  obtain ⟨tb, pb, sb⟩ := hb
  refine ⟨_, ps_if p pa pb, fun F H σ env fp D sat h => ?_⟩
  refine s.st sat h fun k v F1 H1 sat1 q _ h1 => ?_
  obtain rfl : v = k := q
  cases v with
  | true => exact sa F1 H1 σ env fp D sat1 h1
  | false => exact sb F1 H1 σ env fp D sat1 h1
/-- for target in ..: body -/
def forL (g : D → Ev → Option Ev) (f : Ev → SR) : List D → Ev → SR
  | [], env => .nx env
  | d :: ds, env => match g d env with
    | none => .no
    | some env1 => match f env1 with
      | .nx env2 => forL g f ds env2
      | .ct env2 => forL g f ds env2
      | .bk env2 => .nx env2
      | .rt r env2 => .rt r env2
      | .ex c env2 => .ex c env2
      | .no => .no
def sFor (it : Ev → R (List D)) (g : D → Ev → Option Ev) (f : Ev → SR) (env : Ev) : SR := (it env).st env fun ds => forL g f ds env
theorem ds_for {tg iter : Expr} {body : List Stmt} {fi : Ev → R (List D)} {g : D → Ev → Option Ev} (hp : PassesOwn (model X.prog X.w) X.A X.env X.xe) (hc : X.calm = true) {ix : List Nat} (hi : DI X W tg iter fi) (hg : DG X tg ix g) (hb : DSs X W S body fs)
    (hs : ∀ x, foldedSetIterable iter X.env x = pure x := by intro _; rfl) (hS : ix.all S = true := by rfl) : DS X W S (.For tg iter body [] pos) (sFor fi g fs) := by
  obtain ⟨wi, pi, si⟩ := hi
  obtain ⟨tb, pb, sb⟩ := hb
  refine ⟨_, ps_for hp hc pi hg pb hs, fun F H σ env fp D sat h => ?_⟩
  refine si.st sat h fun items J F1 H1 sat1 wk _ h1 => ?_
  have wk : WalkF X.K J F1 items := wk
  refine ⟨fun i m σ' H' => m = items.length - i ∧ i ≤ items.length ∧ ∃ F' env' fp', Same F1 F' ∧ Sat X.K F' H' σ' env' fp' ∧ PostS X W S σ' F' H' fp' D (forL g fs (items.drop i) env'),
    ⟨items.length, by simp, Nat.zero_le _, F1, env, fp, Same.refl _, sat1, h1⟩, ?_⟩
  rintro i m σ' H' ⟨rfl, hi, F', env', fp', st, sat', h2⟩
  by_cases hlt : i < items.length
  · refine .inr ⟨wk.go i F' H' hlt st sat'.fh, fun σ2 H2 => ∃ F2 env2 fp2, Same F1 F2 ∧ Sat X.K F2 H2 σ2 env2 fp2 ∧ PostS X W S σ2 F2 H2 fp2 D (forL g fs (items.drop (i + 1)) env2), ?_, ?_⟩
    · rintro σ2 H2 ⟨F2, env2, fp2, a, b, c⟩
      exact ⟨items.length - (i + 1), by omega, rfl, hlt, F2, env2, fp2, a, b, c⟩
    · intro x H3 y
      obtain ⟨d, F3, e1, x3, dp⟩ := wk.yld i F' H' x H3 hlt st sat'.fh y
      have ed : items.drop i = d :: items.drop (i + 1) := by
        rw [List.drop_eq_getElem_cons hlt]
        have : items[i] = d := by rw [List.getElem?_eq_getElem hlt] at e1; exact Option.some.inj e1
        rw [this]
      rw [ed] at h2
      unfold forL at h2
      cases eg : g d env' with
      | none => rw [eg] at h2; exact h2.elim
      | some env1 =>
        rw [eg] at h2
        simp only at h2
        refine ⟨F3, env', fp', d, env1, sat'.ext x3, dp, eg, fun σ4 fp4 sat4 sub4 off4 => ?_⟩
        have st4 : StepS F' H' fp' F3 H3 fp4 := (StepS.of_ext x3 fp').subset sub4
        have h4 := PostS.step h2 (.of off4 hS) st4
        refine sb F3 H3 σ4 env1 fp4 _ sat4 ?_
        cases ef : fs env1 with
        | no => rw [ef] at h4; exact h4
        | nx env2 => rw [ef] at h4; exact fun σ5 F5 H5 fp5 o5 s5 sat5 => ⟨F5, env2, fp5, st.trans (x3.ff.trans s5.ff), sat5, PostS.step h4 o5 s5⟩
        | ct env2 => rw [ef] at h4; exact fun σ5 F5 H5 fp5 o5 s5 sat5 => ⟨F5, env2, fp5, st.trans (x3.ff.trans s5.ff), sat5, PostS.step h4 o5 s5⟩
        | bk env2 => rw [ef] at h4; exact h4
        | rt r env2 => rw [ef] at h4; exact h4
        | ex c env2 => rw [ef] at h4; exact h4
  · have e : i = items.length := by omega
    subst e
    rw [List.drop_length] at h2
    exact .inl ⟨wk.stop F' H' st sat'.fh, h2 σ' F' H' fp' (.refl _ _) (StepS.of_ext (.refl sat'.fh) fp') sat'⟩
/-- while c: body, at most n turns -/
def whileN (c : Ev → R Bool) (f : Ev → SR) : Nat → Ev → SR
  | 0, _ => .no
  | n + 1, env => (c env).st env fun b => if b = true then (match f env with
      | .nx env2 => whileN c f n env2
      | .ct env2 => whileN c f n env2
      | .bk env2 => .nx env2
      | .rt r env2 => .rt r env2
      | .ex c env2 => .ex c env2
      | .no => .no) else .nx env
theorem ds_while {c : Expr} {body : List Stmt} {fc : Ev → R Bool} (n : Nat) (hp : PassesOwn (model X.prog X.w) X.A X.env X.xe) (hc : DT X W c fc) (hb : DSs X W S body fs) : DS X W S (.While c body [] pos) (whileN fc fs n) := by
  obtain ⟨tc, pc, sc⟩ := hc
  obtain ⟨tb, pb, sb⟩ := hb
  refine ⟨_, ps_while hp pc pb, fun F H σ env fp D sat h => ?_⟩
  refine ⟨fun m σ' H' => ∃ F' env' fp', Sat X.K F' H' σ' env' fp' ∧ PostS X W S σ' F' H' fp' D (whileN fc fs m env'), ⟨n, F, env, fp, sat, h⟩, ?_⟩
  rintro m σ' H' ⟨F', env', fp', sat', h2⟩
  cases m with
  | zero => exact h2.elim
  | succ m =>
    unfold whileN at h2
    refine sc.st sat' h2 fun k v F1 H1 sat1 q x1 h3 => ?_
    obtain rfl : v = k := q
    cases v with
    | false => exact h3 σ' F1 H1 fp' (.refl _ _) (StepS.of_ext (.refl sat1.fh) fp') sat1
    | true =>
      rw [if_pos rfl] at h3 ⊢
      refine ⟨fun σ5 H5 => ∃ F5 env2 fp5, Sat X.K F5 H5 σ5 env2 fp5 ∧ PostS X W S σ5 F5 H5 fp5 D (whileN fc fs m env2), fun σ5 H5 z => ⟨m, Nat.lt_succ_self m, z⟩, ?_⟩
      refine sb F1 H1 σ' env' fp' _ sat1 ?_
      cases ef : fs env' with
      | no => rw [ef] at h3; exact h3
      | nx env2 => rw [ef] at h3; exact fun σ5 F5 H5 fp5 o5 s5 sat5 => ⟨F5, env2, fp5, sat5, PostS.step h3 o5 s5⟩
      | ct env2 => rw [ef] at h3; exact fun σ5 F5 H5 fp5 o5 s5 sat5 => ⟨F5, env2, fp5, sat5, PostS.step h3 o5 s5⟩
      | bk env2 => rw [ef] at h3; exact h3
      | rt r env2 => rw [ef] at h3; exact h3
      | ex c env2 => rw [ef] at h3; exact h3
end
end Mir
end
set_option Elab.async false
set_option linter.all false
set_option maxRecDepth 100000
set_option maxHeartbeats 4000000
noncomputable section
namespace Mir
open PySem PySem.Spec L2

def PostF (K : PySem.W.Frag) (mg : Str → Option Value) (F H : Hp) : R Ow → VK → XK → Prop
  | .no, _, _ => False
  | .ok r, Q, _ => ∀ v F' H', Ext F H F' H' → POw K H r v F' H' → Q v H'
  | .ex c, _, E => ∀ C F' H', mg c = some (.ref C) → Ext F H F' H' → E (.ref C) none H'
def spM (K : PySem.W.Frag) (mg : Str → Option Value) (n : Nat) (m : List D → R Ow) : Sp := fun vs H Q E => ∃ F ds, Same F H ∧ DpAll K F vs ds ∧ ds.length = n ∧ PostF K mg F H (m ds) Q E
theorem spM_len {K : PySem.W.Frag} {mg : Str → Option Value} {n : Nat} {m : List D → R Ow} {vs : List V} {H : Hp} {Q : VK} {E : XK} (h : spM K mg n m vs H Q E) : vs.length = n := by
  obtain ⟨F, ds, _, h1, h2, _⟩ := h
  rw [DpAll.len h1, h2]
def envOf (k : Nat) (ds : List D) : Ev := ds.map (fun d => some (Ow.d d)) ++ List.replicate k none
def runB (k : Nat) (f : Ev → SR) (ds : List D) : R Ow := match f (envOf k ds) with
  | .nx _ => .ok (.d .none)
  | .rt r _ => .ok r
  | .ex c _ => .ex c
  | _ => .no
theorem env_start {K : PySem.W.Frag} {F H : Hp} (k : Nat) : ∀ {vs : List V} {ds : List D}, DpAll K F vs ds → EnvAt K F H (vs.map some ++ List.replicate k none) (envOf k ds) []
  | vs, [], h => by
    cases h
    show EnvAt K F H (List.replicate k none) (List.replicate k none) []
    induction k with
    | zero => exact .nil
    | succ k ih => exact .non ih
  | vs, d :: ds, h => by
    cases h with
    | cons h1 h2 => exact .som (fp := []) (.d h1) (env_start k h2)
section
variable {P : Program} {w : World} {K : PySem.W.Frag} {mg : Str → Option Value} {base : Heap}
theorem mk_fn {x qual : Str} {st : Stmt} {f : Addr} {fd : FuncData} {N ps : List Str} {k l : Nat} {fb : Ev → SR} {m : List D → R Ow} (F : Fun K x qual st f fd) (S : FnScope N ps (defScope st)) (hl : N.length = ps.length + l) (hm : ∀ ds, m ds = runB l fb ds)
    (hb : ∀ (cdv : Value) (A : Around) (outer : List Env) (s : Shared) (H : Hp) (E : XK), Room k (A.deeper (PyProof.Rows.envOfC qual (defScope st) s.heap.objs.size f cdv)) →
      DSs (cxOf (L2.CX P w) P w K mg base N qual (defScope st) f cdv A outer s H E) (fun cls d _ H => E cls d H) (fun _ => true) (defBody st) fb) : FnOk P w K mg base (L2.CX P w) (k + 1) f fd ps (spM K mg ps.length m) := by
  refine F.okX S (fun vs H Q E h => spM_len h) (fun cdv A outer s H vs Q E hr h => ?_)
  obtain ⟨t, p, sm⟩ := hb cdv A outer s H E hr
  refine ⟨t, p, ?_⟩
  have hlen := spM_len h
  obtain ⟨F0, ds, s1, s2, s3, s4⟩ := h
  have e0 : start N vs = vs.map some ++ List.replicate l none := by
    show vs.map some ++ List.replicate (N.length - vs.length) none = _
    rw [hl, hlen, Nat.add_sub_cancel_left]
  rw [e0]
  have sat : Sat K F0 H (vs.map some ++ List.replicate l none) (envOf l ds) [] := ⟨s1, env_start l s2, List.nodup_nil⟩
  rw [hm] at s4
  unfold runB at s4
  have ext : ∀ {F' H' : Hp} {fp' : List Addr}, StepS F0 H [] F' H' fp' → Same F' H' → Ext F0 H F' H' := fun st sf => ⟨st.ff, fun b o e => st.fr b o e (by simp), fun b o e => (st.fn b o e).imp id fun z => z.elim (fun z => nomatch z) id, sf⟩
  refine sm F0 H _ _ [] _ sat ?_
  cases e : fb (envOf l ds) with
  | no => rw [e] at s4; exact s4
  | bk env => rw [e] at s4; exact s4.elim
  | ct env => rw [e] at s4; exact s4.elim
  | nx env => rw [e] at s4; exact fun σ' F' H' fp' _ st sat' => s4 .non F' H' (ext st sat'.fh) (own_d .non)
  | rt r env =>
    rw [e] at s4
    intro v σ' F' H' fx fp' _ st sat' ow nd
    refine s4 v F' H' (ext st sat'.fh) ⟨fx, ow, (List.nodup_append.mp nd).1, fun b hb => ?_⟩
    exact (st.sub b (List.mem_append_left _ hb)).elim (fun z => nomatch z) id
  | ex c env => rw [e] at s4; exact fun C σ' F' H' fp' m _ st sat' => s4 C F' H' m (ext st sat'.fh)
end
section
variable {X : Cx} {W : WX} {e : Expr} {es : List Expr} {pos p : Pos}
theorem de_call {k n : Nat} {f : Addr} {fd : FuncData} {ps : List Str} {x : Str} {m : List D → R Ow} {fa : Ev → R (List D)} (F : FnOk X.prog X.w X.K X.mg X.base (L2.CX X.prog X.w) k f fd ps (spM X.K X.mg n m)) (tk : Takes X W) (hr : Room k X.A) (hg : Gl X x) (hm : X.mg x = some (.ref f))
    (hk : PySem.W.keepIn X.K (.ref f) = true) (hb : Binds X.K fd ps []) (ha : DA X W (e :: es) fa) (hn : ∀ ds env, fa env = .ok ds → ds.length = n)
    (hdb : (x == ("__debug__" : Str)) = false := by decide) (he : starEach (e :: es) X.env = (false, eval e X.env) :: starEach es X.env := by rfl) (hpl : (backTo pos (starEach es X.env)).any (·.1) = false := by rfl) :
    DE X W (.Call (.Name x p) (e :: es) [] pos) (eB fa m) := by
  obtain ⟨t, pa, s⟩ := ha
  refine ⟨_, pe_callS F hr hg hm hk hb (fun σ => passAt tk σ) pa hdb he hpl, fun F0 H σ env fp Q sat hp => ?_⟩
  refine s.choose sat hp (fun z => z _) fun ds ed k => k _ fun vs F1 H1 sat1 q _ h1 => ?_
  refine ⟨F1, ds, sat1.fh, q, hn ds env ed, ?_⟩
  cases em : m ds with
  | no => rw [em] at h1; exact h1
  | ok r => rw [em] at h1; exact h1
  | ex c => rw [em] at h1; exact h1
theorem aNil_len {ds : List D} {env : Ev} (h : aNil env = .ok ds) : ds.length = 0 := by cases h; rfl
theorem aCons_len {n : Nat} {f : Ev → R D} {g : Ev → R (List D)} (ih : ∀ ds env, g env = .ok ds → ds.length = n) : ∀ ds env, aCons f g env = .ok ds → ds.length = n + 1 := fun ds env h => by
  unfold aCons at h
  cases e1 : f env with
  | no => rw [e1] at h; cases h
  | ex c => rw [e1] at h; cases h
  | ok d =>
    rw [e1] at h
    have h' : (g env).map (fun ds => d :: ds) = .ok ds := h
    cases e2 : g env with
    | no => rw [e2] at h'; cases h'
    | ex c => rw [e2] at h'; cases h'
    | ok es =>
      rw [e2] at h'
      cases h'
      simp [ih es env e2]

/-- the reading that a mirror is -/
def tOf (K : PySem.W.Frag) (Pst : Hp → Hp → L2.St → R α → (β → Hp → Prop) → Prop) (f : Ev → R α) : L2.St → Hp → (β → Hp → Prop) → Prop := fun σ H Q => ∃ F env fp, Sat K F H σ env fp ∧ Pst F H σ (f env) Q
def W0 : WX := fun _ _ _ _ => False
theorem PE.imp {X : Cx} {e : Expr} {t t' : TE} (h : PE X e t) (k : ∀ σ H Q, t' σ H Q → t σ H Q) : PE X e t' := ⟨fun pins s σ H Q I q => h.run pins s σ H Q I (k σ H Q q)⟩
theorem PTs.imp {X : Cx} {e : List Expr} {t t' : TT} (h : PTs X e t) (k : ∀ σ H Q, t' σ H Q → t σ H Q) : PTs X e t' := ⟨fun pins s σ H Q I q => h.run pins s σ H Q I (k σ H Q q)⟩
theorem DE.can {X : Cx} {W : WX} {e : Expr} {f : Ev → R Ow} (h : DE X W e f) : PE X e (tOf X.K (Post X W (POw X.K)) f) := by
  obtain ⟨t, p, s⟩ := h
  refine PE.imp p ?_
  rintro σ H Q ⟨F, env, fp, sat, h⟩
  exact s F H σ env fp Q sat h
/-- a clause's tests -/
def DTs (X : Cx) (W : WX) (ifs : List Expr) (f : Ev → R Bool) : Prop := ∃ t, PTs X ifs t ∧ Sm X W PTb t f
def cYes (_ : Ev) : R Bool := .ok true
theorem dts_nil : DTs X W [] cYes := ⟨_, pts_nil, fun F H σ env fp Q sat h => h true F H (.refl sat.fh) rfl⟩
theorem dts_one {f : Ev → R Bool} (h : DT X W e f) : DTs X W [e] f := by
  obtain ⟨t, p, s⟩ := h
  exact ⟨_, pts_one p, s⟩
theorem DTs.can {X : Cx} {W : WX} {e : List Expr} {f : Ev → R Bool} (h : DTs X W e f) : L2.PTs X e (tOf X.K (Post X W PTb) f) := by
  obtain ⟨t, p, s⟩ := h
  refine PTs.imp p ?_
  rintro σ H Q ⟨F, env, fp, sat, h⟩
  exact s F H σ env fp Q sat h
def wipeE (env : Ev) : List Nat → Ev
  | [] => env
  | v :: vs => (wipeE env vs).set v none
theorem set_none_len {α : Type} {l : List (Option α)} {i : Nat} (h : ¬ i < l.length) (x : Option α) : l.set i x = l := List.set_eq_of_length_le (by omega)
theorem wipe_sat {K : PySem.W.Frag} {F H : Hp} {σ : L2.St} {env : Ev} {fp : List Addr} (sat : Sat K F H σ env fp) : ∀ vs : List Nat, ∃ fp', Sat K F H (wipe σ vs) (wipeE env vs) fp' ∧ ∀ b ∈ fp', b ∈ fp
  | [] => ⟨fp, sat, fun _ z => z⟩
  | v :: vs => by
    obtain ⟨fp1, s1, h1⟩ := wipe_sat sat vs
    by_cases hi : v < (wipeE env vs).length
    · obtain ⟨fr, fo, a1, a2, a3, a3', a4, a5, a6⟩ := s1.en.put hi s1.nd
      have e3 := (a6 F H [] [] (StepS.of_ext (.refl sat.fh) []) fun _ _ => by simp).1 none
      exact ⟨fr, ⟨sat.fh, e3, a3⟩, fun b hb => h1 b (a1 b hb)⟩
    · refine ⟨fp1, ?_, h1⟩
      show Sat K F H ((wipe σ vs).set v none) ((wipeE env vs).set v none) fp1
      rw [set_none_len hi, set_none_len (by rw [s1.en.len]; exact hi)]
      exact s1
theorem wipe_get : ∀ (σ : L2.St) (vs : List Nat) (j : Nat), (wipe σ vs)[j]? = if j ∈ vs then (σ[j]?).map (fun _ => none) else σ[j]?
  | σ, [], j => by simp [wipe]
  | σ, v :: vs, j => by
    show ((wipe σ vs).set v none)[j]? = _
    by_cases hj : v = j
    · subst hj
      by_cases hl : v < (wipe σ vs).length
      · rw [List.getElem?_set_self hl]
        rw [wipe_length] at hl
        simp [List.getElem?_eq_getElem hl]
      · rw [set_none_len hl, wipe_get σ vs v]
        rw [wipe_length] at hl
        have e : σ[v]? = none := List.getElem?_eq_none (by omega)
        simp [e]
    · rw [List.getElem?_set_ne hj, wipe_get σ vs j]
      simp [Ne.symm hj]
theorem wipe_off {σ σ' : L2.St} {ix vs : List Nat} (h : Off ix (wipe σ vs) σ') (hs : ∀ i ∈ ix, i ∈ vs) : wipe σ' vs = wipe σ vs := by
  refine List.ext_getElem? fun j => ?_
  rw [wipe_get σ', wipe_get σ]
  by_cases hj : j ∈ vs
  · rw [if_pos hj, if_pos hj]
    have hl := h.1
    rw [wipe_length] at hl
    by_cases hb : j < σ.length
    · rw [List.getElem?_eq_getElem hb, List.getElem?_eq_getElem (by omega : j < σ'.length)]; rfl
    · rw [List.getElem?_eq_none (by omega), List.getElem?_eq_none (by omega)]
  · rw [if_neg hj, if_neg hj, h.2 j fun z => hj (hs j z), wipe_get σ, if_neg hj]
def noEx {α : Type} : R α → R α
  | .ex _ => .no
  | r => r
@[simp] theorem noEx_ok {α : Type} (a : α) : noEx (.ok a) = .ok a := rfl
def lcR (g : D → Ev → Option Ev) (c : Ev → R Bool) (e : Ev → R Ow) (env : Ev) : List D → R (List Ow)
  | [] => .ok []
  | d :: ds => match g d env with
    | none => .no
    | some env1 => (noEx (c env1)).bind fun b => if b = true then (noEx (e env1)).bind fun r => (lcR g c e env ds).map fun rs => r :: rs else lcR g c e env ds
def eLc (it : Ev → R (List D)) (g : D → Ev → Option Ev) (c : Ev → R Bool) (e : Ev → R Ow) (vs : List Nat) (env : Ev) : R Ow := (it env).bind fun ds => guard (ds.length ≤ sizeLine) ((noEx (lcR g c e (wipeE env vs) ds)).map Ow.l)
theorem OwnAll.snoc {K : PySem.W.Frag} {F H : Hp} {v : V} {r : Ow} {fr : List Addr} : ∀ {os : List Ow} {vs : List V} {fp : List Addr}, OwnAll K F H vs os fp → OwnAt K F H v r fr → fp.Nodup → fr.Nodup → (∀ b ∈ fr, b ∉ fp) → ∃ fp', OwnAll K F H (vs ++ [v]) (os ++ [r]) fp' ∧ fp'.Nodup ∧ ∀ b ∈ fp', b ∈ fp ∨ b ∈ fr
  | [], _, _, h, g, n1, n2, dj => by
    cases h
    exact ⟨fr ++ [], .cons g .nil, by simpa using n2, fun b hb => .inr (by simpa using hb)⟩
  | o :: os, _, _, h, g, n1, n2, dj => by
    cases h with
    | @cons _ _ _ _ f1 fs h1 h2 =>
      rw [List.nodup_append] at n1
      obtain ⟨m1, m2, m3⟩ := n1
      obtain ⟨fp', a, b, c⟩ := OwnAll.snoc h2 g m2 n2 fun b hb z => dj b hb (List.mem_append_right _ z)
      refine ⟨f1 ++ fp', .cons h1 a, ?_, fun x hx => ?_⟩
      · rw [List.nodup_append]
        refine ⟨m1, b, fun x hx y hy e => ?_⟩
        subst e
        rcases c x hy with z | z
        · exact m3 x hx x z rfl
        · exact dj x z (List.mem_append_left _ hx)
      · rcases List.mem_append.mp hx with z | z
        · exact .inl (List.mem_append_left _ z)
        · exact (c x z).imp (List.mem_append_right _) id
theorem de_lc_core {wi : TI} {g : D → Ev → Option Ev} {fi : Ev → R (List D)} {fc : Ev → R Bool} {fe : Ev → R Ow} {ix vs : List Nat} (si : Sm X W (PIt X.K) wi fi) (hix : ∀ i ∈ ix, i ∈ vs) :
    Sm X W (POw X.K) (tLc wi (tgOf X.K ix g) (tOf X.K (Post X W0 PTb) fc) (tOf X.K (Post X W0 (POw X.K)) fe) vs) (eLc fi g fc fe vs) := by
  intro F H σ env fp Q sat hp
  refine si.go sat hp fun items J F1 H1 sat1 wk _ h1 => ?_
  have wk : WalkF X.K J F1 items := wk
  obtain ⟨hz, h2⟩ := guard_post h1
  intro Dd hD
  have hD1 : F1 Dd = none := free_of sat1.fh hD
  cases el : lcR g fc fe (wipeE env vs) items with
  | no => rw [el] at h2; exact h2.elim
  | ex c => rw [el] at h2; exact h2.elim
  | ok all =>
  rw [el] at h2
  have h2 : ∀ v F' H', Ext F1 H1 F' H' → POw X.K H1 (.l all) v F' H' → Q v H' := h2
  let Iv : Nat → Hp → Prop := fun i H' => ∃ F' acc accO fa rest, Ext F1 H1 F' H' ∧ F' Dd = none ∧ H' Dd = some (.lst acc) ∧ OwnAll X.K F' H' acc accO fa ∧ fa.Nodup ∧ Dd ∉ fa ∧ accO.length ≤ i ∧ (∀ b ∈ fa, H1 b = none) ∧ lcR g fc fe (wipeE env vs) (items.drop i) = .ok rest ∧ all = accO ++ rest
  refine ⟨fun i m H' => m = items.length - i ∧ i ≤ items.length ∧ Iv i H', ⟨items.length, by simp, Nat.zero_le _, F1, [], [], [], all, Ext.own sat1.fh hD _, hD1, upd_same, .nil, List.nodup_nil, by simp, Nat.le_refl _, (fun b z => nomatch z), el, rfl⟩, ?_⟩
  rintro i m H' ⟨rfl, hi, F', acc, accO, fa, rest, x, fD, hDd, ow, nd, nD, hl, fr, er, ea⟩
  by_cases hlt : i < items.length
  · refine .inr ⟨wk.go i F' H' hlt x.ff x.fh, Iv (i + 1), fun H2 z => ⟨items.length - (i + 1), by omega, rfl, hlt, z⟩, fun v H3 y => ?_⟩
    obtain ⟨d, F3, e1, x3, dp⟩ := wk.yld i F' H' v H3 hlt x.ff x.fh y
    have ed : items.drop i = d :: items.drop (i + 1) := by
      rw [List.drop_eq_getElem_cons hlt]
      have : items[i] = d := by rw [List.getElem?_eq_getElem hlt] at e1; exact Option.some.inj e1
      rw [this]
    rw [ed] at er
    unfold lcR at er
    cases eg : g d (wipeE env vs) with
    | none => rw [eg] at er; cases er
    | some env1 =>
    rw [eg] at er
    simp only at er
    obtain ⟨fpw, satw, subw⟩ := wipe_sat (sat1.ext (x.trans x3)) vs
    refine ⟨F3, _, fpw, d, env1, satw, dp, eg, fun σ2 fp2 sat2 sub2 off2 => ⟨wipe_off off2 hix, F3, env1, fp2, sat2, ?_⟩⟩
    cases ec : fc env1 with
    | no => rw [ec] at er; cases er
    | ex c => rw [ec] at er; cases er
    | ok b =>
    rw [ec] at er
    simp only [noEx_ok, R.bind_ok] at er
    intro v4 F4 H4 x4 ev4
    obtain rfl : v4 = b := ev4
    have xx4 := x3.trans x4
    cases v4 with
    | false =>
      rw [if_neg Bool.false_ne_true] at er ⊢
      have g1 := x.trans xx4
      refine ⟨F4, acc, accO, fa, rest, g1, ?_, xx4.hh _ _ hDd, ow.ext xx4, nd, nD, Nat.le_succ_of_le hl, fr, er, ea⟩
      cases q : F4 Dd with
      | none => rfl
      | some u =>
        rcases xx4.fn Dd u q with z | z
        · rw [fD] at z; cases z
        · rw [hDd] at z; cases z
    | true =>
      rw [if_pos rfl] at er ⊢
      refine ⟨F4, env1, fp2, sat2.ext x4, ?_⟩
      cases ee : fe env1 with
      | no => rw [ee] at er; cases er
      | ex c => rw [ee] at er; cases er
      | ok r =>
      rw [ee] at er
      simp only [noEx_ok, R.bind_ok] at er
      intro y5 F5 H5 x5 ⟨fr5, ow5, nd5, fresh5⟩
      have xx := xx4.trans x5
      have hD5 : H5 Dd = some (.lst acc) := xx.hh _ _ hDd
      have fD5 : F5 Dd = none := by
        cases q : F5 Dd with
        | none => rfl
        | some u =>
          rcases xx.fn Dd u q with z | z
          · rw [fD] at z; cases z
          · rw [hDd] at z; cases z
      have nD5 : Dd ∉ fr5 := fun z => by
        have := fresh5 Dd z
        rw [xx4.hh _ _ hDd] at this; cases this
      cases er2 : lcR g fc fe (wipeE env vs) (items.drop (i + 1)) with
      | no => rw [er2] at er; cases er
      | ex c => rw [er2] at er; cases er
      | ok rest2 =>
      rw [er2] at er
      cases er
      have la := OwnAll.len ow
      have stp : StepS F5 H5 [Dd] F5 (upd H5 Dd (.lst (acc ++ [y5]))) [] := ⟨Same.refl _, fun b o e n => by rw [upd_ne (fun z => n (by simp [z]))]; exact e, fun b o e => .inl e, fun b z => nomatch z⟩
      obtain ⟨fa', ow', nd', sub'⟩ := OwnAll.snoc (OwnAll.keep stp _ _ _ (ow.ext xx) fun b hb => by simp; exact fun z => nD (z ▸ hb)) (OwnAt.keep stp _ _ _ ow5 fun b hb => by simp; exact fun z => nD5 (z ▸ hb)) nd nd5 fun b hb z => by
        obtain ⟨_, vs', e⟩ := OwnAll.there _ _ _ ow b z
        have := xx4.hh.free (fresh5 b hb)
        rw [e] at this; cases this
      refine ⟨acc, hD5, by omega, F5, acc ++ [y5], accO ++ [r], fa', rest2, ⟨(x.trans xx).ff, fun b o e => ?_, (x.trans xx).fn, fun b o e => ?_⟩, fD5, upd_same, ow', nd', ?_, by simp; omega, fun b hb => ?_, er2, by simp [ea]⟩
      · rw [upd_ne (ne_of_none e hD)]; exact (x.trans xx).hh b o e
      · rw [upd_ne (ne_of_none e fD5)]; exact xx.fh b o e
      · intro z
        rcases sub' _ z with q | q
        · exact nD q
        · exact nD5 q
      · rcases sub' b hb with q | q
        · exact fr b q
        · exact x.hh.free (xx4.hh.free (fresh5 b q))
  · have e : i = items.length := by omega
    subst e
    rw [List.drop_length] at er
    cases er
    refine .inl ⟨wk.stop F' H' x.ff x.fh, h2 _ F' H' x ⟨Dd :: fa, ?_, List.nodup_cons.mpr ⟨nD, nd⟩, fun b hb => ?_⟩⟩
    · rw [ea, List.append_nil]; exact .l fD hDd ow
    · rcases List.mem_cons.mp hb with z | z
      · rw [z]; exact hD
      · exact fr b z
theorem de_lc {elt tg iter : Expr} {ifs : List Expr} {scope : Scope} {own : List (Str × Nat)} {g : D → Ev → Option Ev} {fi : Ev → R (List D)} {fc : Ev → R Bool} {fe : Ev → R Ow} {ix : List Nat} (hc : X.calm = true) (hN : X.N.Nodup) (hi : DI X W tg iter fi) (ok : BlkOk X.N X.env.scope scope own)
    (hg : ∀ (s : Shared) (H : Hp) (C : Addr) (cl : List (Str × Addr)) (fp : List Addr), DG (X.blk s H scope (compEnvC scope cl C X.env) fp) tg ix g) (ht : ∀ (s : Shared) (H : Hp) (C : Addr) (cl : List (Str × Addr)) (fp : List Addr), DTs (X.blk s H scope (compEnvC scope cl C X.env) fp) W0 ifs fc)
    (he : ∀ (s : Shared) (H : Hp) (C : Addr) (cl : List (Str × Addr)) (fp : List Addr), DE (X.blk s H scope (compEnvC scope cl C X.env) fp) W0 elt fe) (hix : ∀ i ∈ ix, i ∈ own.map (·.2) := by decide) (hs : ∀ x, foldedSetIterable iter X.env x = pure x := by intro _; rfl) :
    DE X W (.ListComp elt [⟨tg, iter, ifs, 0⟩] scope pos) (eLc fi g fc fe (own.map (·.2))) := by
  obtain ⟨wi, pi, si⟩ := hi
  exact ⟨_, pe_lc (g := tgOf X.K ix g) hc hN pi ok (fun s H C cl fp => hg s H C cl fp) (fun s H C cl fp => (ht s H C cl fp).can) (fun s H C cl fp => (he s H C cl fp).can) hs, de_lc_core si hix⟩
end
end Mir
end
set_option Elab.async false
set_option linter.all false
set_option maxRecDepth 100000
set_option maxHeartbeats 4000000
noncomputable section
namespace Mir
open PySem PySem.Spec L2

section
variable {K : PySem.W.Frag} {F H : Hp} {σ : L2.St} {env : Ev} {fp : List Addr}
theorem set_self {σ : L2.St} {i : Nat} {v : V} (h : σ[i]? = some (some v)) : σ.set i (some v) = σ := by
  refine List.ext_getElem? fun j => ?_
  by_cases hj : i = j
  · subst hj
    rw [List.getElem?_set_self (List.getElem?_eq_some_iff.mp h).1]
    exact h.symm
  · rw [List.getElem?_set_ne hj]
theorem mut_step {F H F1 H1 : Hp} {a : Addr} {vs vs' : List V} (x : Ext F H F1 H1) (h : H a = some (.lst vs)) : StepS F H [a] F1 (upd H1 a (.lst vs')) [] :=
  ⟨x.ff, fun b o e n => by rw [upd_ne (fun z => n (by simp [z]))]; exact x.hh b o e, fun b o e => (x.fn b o e).imp id .inr, fun b z => nomatch z⟩
theorem mut_free {F H F1 H1 : Hp} {a : Addr} {vs : List V} (x : Ext F H F1 H1) (hf : F a = none) (h : H a = some (.lst vs)) : F1 a = none := by
  cases q : F1 a with
  | none => rfl
  | some u =>
    rcases x.fn a u q with z | z
    · rw [hf] at z; cases z
    · rw [h] at z; cases z
theorem mut_same {F1 H1 : Hp} {a : Addr} {o : HO} (s : Same F1 H1) (hf : F1 a = none) : Same F1 (upd H1 a o) := fun b u e => by
  rw [upd_ne (ne_of_none e hf)]; exact s b u e
/-- the list in slot i, and what is left when it is changed -/
theorem Sat.mut (sat : Sat K F H σ env fp) {i : Nat} {os : List Ow} (hi : env[i]? = some (some (.l os))) : ∃ a vs fo, σ[i]? = some (some (.ref a)) ∧ F a = none ∧ H a = some (.lst vs) ∧ OwnAll K F H vs os fo ∧ fo.Nodup ∧ a ∉ fo ∧ (∀ b ∈ a :: fo, b ∈ fp) ∧
    ∀ F1 H1 vs' os' fo', Ext F H F1 H1 → OwnAll K F1 (upd H1 a (.lst vs')) vs' os' fo' → fo'.Nodup → (∀ b ∈ fo', b ∈ fo ∨ H b = none) → ∃ fp', StepS F H fp F1 (upd H1 a (.lst vs')) fp' ∧ Sat K F1 (upd H1 a (.lst vs')) σ (env.set i (some (.l os'))) fp' := by
  have hl : i < env.length := (List.getElem?_eq_some_iff.mp hi).1
  obtain ⟨fr, fo0, a1, a2, a3, a3', a4, a5, a6⟩ := sat.en.put hl sat.nd
  obtain ⟨v, e1, e2⟩ := a5 _ hi
  cases e2 with
  | @l a vs _ fo h1 h2 h3 =>
    obtain ⟨nd1, nd2⟩ := List.nodup_cons.mp a3'
    refine ⟨a, vs, fo, e1, h1, h2, h3, nd2, nd1, a2, fun F1 H1 vs' os' fo' x ow nd sub => ?_⟩
    have hf1 := mut_free x h1 h2
    have na' : a ∉ fo' := fun z => by
      rcases sub a z with q | q
      · exact nd1 q
      · rw [h2] at q; cases q
    have fresh : ∀ b, H b = none → b ∉ fr := fun b q z => by
      obtain ⟨_, w, e⟩ := sat.en.there b (a1 b z)
      rw [q] at e; cases e
    obtain ⟨fp', b1, b2, b3⟩ := (a6 F1 (upd H1 a (.lst vs')) [a] [] (mut_step x h2) fun b hb z => a4 b (by rw [List.mem_singleton.mp z]; exact List.mem_cons_self) hb).2 (.ref a) (.l os') (a :: fo') (.l hf1 upd_same ow) (List.nodup_cons.mpr ⟨na', nd⟩) fun b hb z => by
      rcases List.mem_cons.mp hb with q | q
      · subst q; exact a4 b List.mem_cons_self z
      · rcases sub b q with q | q
        · exact a4 b (List.mem_cons_of_mem _ q) z
        · exact fresh b q z
    rw [set_self e1] at b3
    refine ⟨fp', (mut_step x h2).mono (fun b hb => by rw [List.mem_singleton.mp hb]; exact a2 a List.mem_cons_self) |> fun s => ⟨s.ff, s.fr, s.fn, fun b hb => ?_⟩, mut_same x.fh hf1, b3, b1⟩
    rcases b2 b hb with q | q
    · rcases List.mem_cons.mp q with q | q
      · rw [q]; exact .inl (a2 a List.mem_cons_self)
      · rcases sub b q with q | q
        · exact .inl (a2 b (List.mem_cons_of_mem _ q))
        · exact .inr q
    · exact .inl (a1 b q)
/-- the items of an own list, behind a change at the list itself -/
theorem own_mut {F1 H1 : Hp} {a : Addr} {vs vs' : List V} {os : List Ow} {fo : List Addr} (x : Ext F H F1 H1) (h : H a = some (.lst vs)) (ow : OwnAll K F H vs os fo) (na : a ∉ fo) : OwnAll K F1 (upd H1 a (.lst vs')) vs os fo :=
  OwnAll.keep (mut_step x h) _ _ _ ow fun b hb z => na (by rw [← List.mem_singleton.mp z]; exact hb)
theorem own_mut1 {F1 H1 : Hp} {a : Addr} {vs vs' : List V} {v : V} {r : Ow} {fx : List Addr} (s : Same F1 H1) (hf : F1 a = none) (h : H1 a = some (.lst vs)) (ow : OwnAt K F1 H1 v r fx) (na : a ∉ fx) : OwnAt K F1 (upd H1 a (.lst vs')) v r fx :=
  OwnAt.keep (mut_step (.refl s) h) _ _ _ ow fun b hb z => na (by rw [← List.mem_singleton.mp z]; exact hb)
theorem OwnAll.get {F H : Hp} : ∀ {os : List Ow} {vs : List V} {fp : List Addr} {k : Nat} {o : Ow}, OwnAll K F H vs os fp → fp.Nodup → os[k]? = some o → ∃ (v : V) (fo fr : List Addr), vs[k]? = some v ∧ OwnAt K F H v o fo ∧ fo.Nodup ∧ fr.Nodup ∧ (∀ b ∈ fo, b ∈ fp) ∧ (∀ b ∈ fr, b ∈ fp) ∧ (∀ b ∈ fo, b ∉ fr) ∧
    ∀ F' H' fx fy v' o' fn, StepS F H fx F' H' fy → (∀ b ∈ fr, b ∉ fx) → OwnAt K F' H' v' o' fn → fn.Nodup → (∀ b ∈ fn, b ∉ fr) → ∃ fp', OwnAll K F' H' (vs.set k v') (os.set k o') fp' ∧ fp'.Nodup ∧ ∀ b ∈ fp', b ∈ fn ∨ b ∈ fr
  | [], _, _, k, o, h, nd, e => by simp at e
  | x :: os, _, _, 0, o, h, nd, e => by
    cases h with
    | @cons v vs _ _ f1 fs h1 h2 =>
      simp at e; subst e
      obtain ⟨n1, n2, n3⟩ := List.nodup_append.mp nd
      refine ⟨v, f1, fs, rfl, h1, n1, n2, fun b z => List.mem_append_left _ z, fun b z => List.mem_append_right _ z, fun b z q => n3 b z b q rfl, fun F' H' fx fy v' o' fn st dj ow nf df => ?_⟩
      refine ⟨fn ++ fs, .cons ow (OwnAll.keep st _ _ _ h2 dj), ?_, fun b hb => List.mem_append.mp hb⟩
      rw [List.nodup_append]
      exact ⟨nf, n2, fun a ha b hb e => df a ha (e ▸ hb)⟩
  | x :: os, _, _, k + 1, o, h, nd, e => by
    cases h with
    | @cons v vs _ _ f1 fs h1 h2 =>
      obtain ⟨n1, n2, n3⟩ := List.nodup_append.mp nd
      obtain ⟨v0, fo, fr, g1, g2, g3, g4, g5, g6, g7, g8⟩ := OwnAll.get (k := k) h2 n2 (by simpa using e)
      refine ⟨v0, fo, f1 ++ fr, by simpa using g1, g2, g3, ?_, fun b z => List.mem_append_right _ (g5 b z), fun b z => ?_, fun b z q => ?_, fun F' H' fx fy v' o' fn st dj ow nf df => ?_⟩
      · rw [List.nodup_append]; exact ⟨n1, g4, fun a ha b hb e => n3 a ha b (g6 b hb) e⟩
      · exact (List.mem_append.mp z).elim (List.mem_append_left _) fun z => List.mem_append_right _ (g6 b z)
      · rcases List.mem_append.mp q with q | q
        · exact n3 b q b (g5 b z) rfl
        · exact g7 b z q
      · obtain ⟨fp', c1, c2, c3⟩ := g8 F' H' fx fy v' o' fn st (fun b hb => dj b (List.mem_append_right _ hb)) ow nf fun b hb z => df b hb (List.mem_append_right _ z)
        refine ⟨f1 ++ fp', .cons (OwnAt.keep st _ _ _ h1 fun b hb => dj b (List.mem_append_left _ hb)) c1, ?_, fun b hb => ?_⟩
        · rw [List.nodup_append]
          refine ⟨n1, c2, fun a ha b hb e => ?_⟩
          subst e
          rcases c3 a hb with z | z
          · exact df a z (List.mem_append_left _ ha)
          · exact n3 a ha a (g6 a z) rfl
        · rcases List.mem_append.mp hb with z | z
          · exact .inr (List.mem_append_left _ z)
          · exact (c3 b z).imp id (List.mem_append_right _)
end
section
variable {X : Cx} {W : WX} {S : Nat → Bool} {e e1 e2 : Expr} {pos cpos apos npos : Pos} {x : Str}
def ownL (i : Nat) (env : Ev) (k : List Ow → SR) : SR := match env[i]? with
  | some (some (.l os)) => k os
  | _ => .no
theorem ownL_post {σ : L2.St} {F H : Hp} {fp : List Addr} {D : Ends} {i : Nat} {env : Ev} {k : List Ow → SR} (h : PostS X W S σ F H fp D (ownL i env k)) : ∃ os, env[i]? = some (some (.l os)) ∧ PostS X W S σ F H fp D (k os) := by
  unfold ownL at h
  split at h
  · exact ⟨_, ‹_›, h⟩
  · exact h.elim
/-- x.append(e) -/
def sApp (i : Nat) (f : Ev → R Ow) (env : Ev) : SR := ownL i env fun os => (f env).st env fun r => if os.length < sizeLine then .nx (env.set i (some (.l (os ++ [r])))) else .no
theorem ds_app {f : Ev → R Ow} (i : Nat) (he : DE X W e f) (hN : X.N[i]? = some x := by rfl) (hv : Vis X.env.scope x := by first | exact Or.inl rfl | exact Or.inr (Or.inl rfl) | exact Or.inr (Or.inr rfl)) (hd : (x == ("__debug__" : Str)) = false := by decide) (hcd : (x == ("__classdict__" : Str)) = false := by decide)
    (hbase : attributeBase (.Name x npos) "append" X.env (eval (.Name x npos) X.env) = eval (.Name x npos) X.env := by rfl)
    (hfew : ((backTo cpos (starEach [e] X.env)).all (fun x => !x.1) && (backToKw cpos (keywordEach [] X.env)).all (fun x => x.1.isSome) && decide ([e].length + ([] : List Keyword).length + (if ([] : List Keyword).isEmpty then 0 else 1) < 30)) = true := by rfl)
    (hline : (apos.endLine == cpos.line) = true := by rfl) (hs : starEach [e] X.env = (false, eval e X.env) :: starEach [] X.env := by rfl) (hplain : (backTo cpos (starEach [] X.env)).any (·.1) = false := by rfl)
    (hsw : swapsWith (.Call (.Attribute (.Name x npos) "append" apos) [e] [] cpos) none pos.line X.env = pure false := by rfl) : DS X W S (.Expr (.Call (.Attribute (.Name x npos) "append" apos) [e] [] cpos) pos) (sApp i f) := by
  obtain ⟨t, p, s⟩ := he
  refine ⟨_, ps_expr (pe_bm PySem.F.plainAttrs_list PySem.F.slot_list_append PySem.F.type_list_append mt_append (pe_var hN hv hd hcd) (pa_cons p pa_nil hs) hbase hfew hline hs hplain) hsw, fun F H σ env fp D sat h => ?_⟩
  obtain ⟨os, eo, h⟩ := ownL_post h
  obtain ⟨a, vs, fo, c1, c0, c2, c3, c4, c5, c6, c7⟩ := sat.mut eo
  refine ⟨.ref a, c1, .inl ⟨rfl, vs, SqL.of c2⟩, ?_⟩
  refine s F H σ env fp _ sat ?_
  cases ef : f env with
  | no => rw [ef] at h; exact h
  | ex c => rw [ef] at h; exact fun C F' H' m x => h C σ F' H' fp m (.refl _ _) (StepS.of_ext x fp) (sat.ext x)
  | ok r =>
    rw [ef] at h
    intro v F1 H1 x1 ⟨fx, ow, nx, fr⟩
    have h2 : PostS X W S σ F H fp D (if os.length < sizeLine then .nx (env.set i (some (.l (os ++ [r])))) else .no) := h
    split at h2
    · have la := OwnAll.len c3
      have hb := x1.hh _ _ c2
      obtain ⟨fo', g1, g2, g3⟩ := OwnAll.snoc (own_mut (vs' := vs ++ [v]) x1 c2 c3 c5) (own_mut1 x1.fh (mut_free x1 c0 c2) hb ow fun z => by rw [fr a z] at c2; cases c2) c4 nx fun b hb z => by
        obtain ⟨_, w, e⟩ := OwnAll.there _ _ _ c3 b z
        rw [fr b hb] at e; cases e
      obtain ⟨fp', st, sat'⟩ := c7 F1 H1 (vs ++ [v]) (os ++ [r]) fo' x1 g1 g2 fun b hb => (g3 b hb).imp id (fr b)
      exact ⟨a, vs, v, rfl, rfl, hb, by omega, h2 σ F1 _ fp' (.refl _ _) st sat'⟩
    · exact h2.elim
/-- x.extend(e) -/
theorem list_extW (l b : Addr) (its jts : Array Value) (n n2 : Nat) (dd2 : Option Addr) (sl2 : Array (Option Value)) (h0 : ¬(!its.isEmpty && Builtin.List.listTooLong (its.size + jts.size)) = true) (h1 : its.size ≤ sizeLine) (h2 : its.size + jts.size ≤ sizeLine + 1) :
    Meets (Builtin.«list.extend» ⟨[.ref l, .ref b], []⟩) (fun _ R s => s.heap.get? l = some { cls := .type "list", data := .seq its n } ∧ s.heap.get? b = some { cls := .type "list", dict := dd2, data := .seq jts n2, slots := sl2 } ∧ R (.ok (.ret Value.none)) { s with heap := s.heap.update l (Obj.mapSeq fun x => x ++ jts), toks := s.toks }) :=
  .of_wp fun prog w A R s h => by
    obtain ⟨hp, g, d, tk, os⟩ := s; obtain ⟨hl, hb, h⟩ := h; have f1 := AutoSeq1.idx_int; have f2 := AutoSeq1.sub_tuple_tuple; have f3 := AutoSeq1.sub_list_list; have f4 := AutoSeq1.sub_tuple_list; have f5 := AutoSeq1.sub_list_tuple; have hz' : (its ++ jts).size ≤ sizeLine + 1 := by rw [Array.size_append]; exact h2
    wp_walk using (wpAny_updateSeq hl rfl (hz := h1) (_hz' := hz')), wpAny_loadPart' hl, wpAny_loadPart' hb; exact ⟨_, rfl, h⟩
def rExtA (K : PySem.W.Frag) : V → List V → Hp → VK → Prop := fun x vs H Q => ∃ l b xs zs, x = .ref l ∧ vs = [.ref b] ∧ H l = some (.lst xs) ∧ SqL K H b zs ∧ xs.length + zs.length ≤ sizeLine ∧ Q .non (upd H l (.lst (xs ++ zs)))
theorem mt_extA : MtR X "list.extend" (rExtA X.K) := by
  intro pins s σ H x vs v us Q I rx rv h
  obtain ⟨l, b, xs, zs, rfl, rfl, hH, hB, hz, q⟩ := h
  cases rx
  obtain ⟨u, rfl, ru⟩ := rv.one
  cases ru
  obtain ⟨z, its, n, r, hl, e⟩ := I.lstM hH
  obtain ⟨jts, r2, pl2, hl2⟩ := I.list hB
  obtain ⟨⟨c2, d2, t2, s2⟩, g2, k2, n2, m2⟩ := pl2.isList
  simp only at k2 m2
  subst k2 m2
  have lz := r2.length
  have hsz : its.toArray.size + jts.toArray.size ≤ sizeLine := by rw [List.size_toArray, List.size_toArray]; omega
  have hlong : ¬ (!its.toArray.isEmpty && Builtin.List.listTooLong (its.toArray.size + jts.toArray.size)) = true := by rw [notLongL hsz, Bool.and_false]; exact Bool.false_ne_true
  refine call_meets F.slot_list_extend ⟨_, e, rfl⟩ F.entry_list_extend (F.args_list_extend_2 _ _) (list_extW l b its.toArray jts.toArray n n2 d2 s2 hlong (by rw [List.size_toArray]; omega) (by omega)) ⟨e, g2, ?_⟩
  refine ⟨.non, _, I.lset (its' := its ++ jts) hH e (by simp) (r.append r2) ?_, rfl, q⟩
  rw [List.length_append]; omega
def asL : D → R (List D)
  | .list ds => .ok ds
  | _ => .no
@[simp] theorem asL_list (ds : List D) : asL (.list ds) = .ok ds := rfl
theorem OwnAll.app_d {K : PySem.W.Frag} {F H : Hp} {ws : List V} {es : List D} : ∀ {os : List Ow} {vs : List V} {fp : List Addr}, OwnAll K F H vs os fp → DpAll K F ws es → OwnAll K F H (vs ++ ws) (os ++ es.map Ow.d) fp
  | [], _, _, h, g => by cases h; exact OwnAll.of_dp g
  | o :: os, _, _, h, g => by
    cases h with
    | cons h1 h2 => exact .cons h1 (OwnAll.app_d h2 g)
def sExt (i : Nat) (f : Ev → R D) (env : Ev) : SR := ownL i env fun os => (f env).st env fun d => (asL d).st env fun ds => if os.length + ds.length ≤ sizeLine then .nx (env.set i (some (.l (os ++ ds.map Ow.d)))) else .no
theorem ds_ext {f : Ev → R D} (i : Nat) (he : DL X W e f) (hN : X.N[i]? = some x := by rfl) (hv : Vis X.env.scope x := by first | exact Or.inl rfl | exact Or.inr (Or.inl rfl) | exact Or.inr (Or.inr rfl)) (hd : (x == ("__debug__" : Str)) = false := by decide) (hcd : (x == ("__classdict__" : Str)) = false := by decide)
    (hbase : attributeBase (.Name x npos) "extend" X.env (eval (.Name x npos) X.env) = eval (.Name x npos) X.env := by rfl)
    (hfew : ((backTo cpos (starEach [e] X.env)).all (fun x => !x.1) && (backToKw cpos (keywordEach [] X.env)).all (fun x => x.1.isSome) && decide ([e].length + ([] : List Keyword).length + (if ([] : List Keyword).isEmpty then 0 else 1) < 30)) = true := by rfl)
    (hline : (apos.endLine == cpos.line) = true := by rfl) (hs : starEach [e] X.env = (false, eval e X.env) :: starEach [] X.env := by rfl) (hplain : (backTo cpos (starEach [] X.env)).any (·.1) = false := by rfl)
    (hsw : swapsWith (.Call (.Attribute (.Name x npos) "extend" apos) [e] [] cpos) none pos.line X.env = pure false := by rfl) : DS X W S (.Expr (.Call (.Attribute (.Name x npos) "extend" apos) [e] [] cpos) pos) (sExt i f) := by
  obtain ⟨t, p, s⟩ := he
  refine ⟨_, ps_expr (pe_bm PySem.F.plainAttrs_list PySem.F.slot_list_extend PySem.F.type_list_extend mt_extA (pe_var hN hv hd hcd) (pa_cons p pa_nil hs) hbase hfew hline hs hplain) hsw, fun F H σ env fp D sat h => ?_⟩
  obtain ⟨os, eo, h⟩ := ownL_post h
  obtain ⟨a, vs, fo, c1, c0, c2, c3, c4, c5, c6, c7⟩ := sat.mut eo
  refine ⟨.ref a, c1, .inl ⟨rfl, vs, SqL.of c2⟩, ?_⟩
  refine s F H σ env fp _ sat ?_
  cases ef : f env with
  | no => rw [ef] at h; exact h
  | ex c => rw [ef] at h; exact fun C F' H' m x => h C σ F' H' fp m (.refl _ _) (StepS.of_ext x fp) (sat.ext x)
  | ok d =>
    rw [ef] at h
    intro v F1 H1 x1 q
    have h1 : PostS X W S σ F H fp D ((asL d).st env fun ds => if os.length + ds.length ≤ sizeLine then .nx (env.set i (some (.l (os ++ ds.map Ow.d)))) else .no) := h
    cases d with
    | list ds =>
      have h2 : PostS X W S σ F H fp D (if os.length + ds.length ≤ sizeLine then .nx (env.set i (some (.l (os ++ ds.map Ow.d)))) else .no) := h1
      split at h2
      · obtain ⟨b, ws, rfl, q1, q2⟩ := q
        have la := OwnAll.len c3
        have lb := DpAll.len q2
        obtain ⟨fp', st, sat'⟩ := c7 F1 H1 (vs ++ ws) (os ++ ds.map Ow.d) fo x1 (OwnAll.app_d (own_mut (vs' := vs ++ ws) x1 c2 c3 c5) q2) c4 fun b hb => .inl hb
        exact ⟨a, b, vs, ws, rfl, rfl, x1.hh _ _ c2, q1, by omega, h2 σ F1 _ fp' (.refl _ _) st sat'⟩
      · exact h2.elim
    | _ => exact h1.elim
/-- x[k] = e -/
def putAt (i : Nat) (env : Ev) (os : List Ow) (r : Ow) : D → SR
  | .int k => match ixN os.length k with
    | some j => .nx (env.set i (some (.l (os.set j r))))
    | none => .no
  | _ => .no
def sPut (i : Nat) (f : Ev → R Ow) (g : Ev → R D) (env : Ev) : SR := (f env).st env fun r => ownL i env fun os => (g env).st env (putAt i env os r)
theorem OwnAll.set {K : PySem.W.Frag} {F H : Hp} {os : List Ow} {vs : List V} {fp : List Addr} {j : Nat} {v : V} {r : Ow} {fx : List Addr} (s : Same F H) (h : OwnAll K F H vs os fp) (nd : fp.Nodup) (hj : j < os.length) (ow : OwnAt K F H v r fx) (nx : fx.Nodup) (dj : ∀ b ∈ fx, b ∉ fp) :
    ∃ fp', OwnAll K F H (vs.set j v) (os.set j r) fp' ∧ fp'.Nodup ∧ ∀ b ∈ fp', b ∈ fp ∨ b ∈ fx := by
  obtain ⟨v0, fo, fr, g1, g2, g3, g4, g5, g6, g7, g8⟩ := OwnAll.get (k := j) h nd (List.getElem?_eq_getElem hj)
  obtain ⟨fp', a, b, c⟩ := g8 F H [] [] v r fx (StepS.of_ext (.refl s) []) (fun _ _ => by simp) ow nx fun b hb z => dj b hb (g6 b z)
  exact ⟨fp', a, b, fun b hb => (c b hb).elim .inr fun z => .inl (g6 b z)⟩
theorem pg_subV {i : Nat} {ti : TE} {k : Expr} {tpos : Pos} (hk : PE X k ti) (hN : X.N[i]? = some x) (hv : Vis X.env.scope x) (hd : (x == ("__debug__" : Str)) = false) (hcd : (x == ("__classdict__" : Str)) = false)
    (ha : ∀ v, assign (.Subscript (.Name x npos) k tpos) X.env v = (do
      let ov ← holding [v] (eval (.Name x npos) X.env)
      let iv ← holding [v, ov] (eval k X.env)
      standAt tpos
      holding [v, ov, iv] (setItem ov iv v)
      release [v, ov, iv] [])) : PG X (.Subscript (.Name x npos) k tpos) (L2.gSub (tVar i) ti rSetL) := pg_sub (pe_var hN hv hd hcd) hk set_list ha
theorem ds_put {f : Ev → R Ow} {g : Ev → R D} {k : Expr} {tpos : Pos} (i : Nat) (he : DE X W e f) (hk : DF X W k g) (hN : X.N[i]? = some x := by rfl) (hv : Vis X.env.scope x := by first | exact Or.inl rfl | exact Or.inr (Or.inl rfl) | exact Or.inr (Or.inr rfl)) (hd : (x == ("__debug__" : Str)) = false := by decide) (hcd : (x == ("__classdict__" : Str)) = false := by decide)
    (ha : ∀ v, assign (.Subscript (.Name x npos) k tpos) X.env v = (do
      let ov ← holding [v] (eval (.Name x npos) X.env)
      let iv ← holding [v, ov] (eval k X.env)
      standAt tpos
      holding [v, ov, iv] (setItem ov iv v)
      release [v, ov, iv] []) := by intro _; rfl)
    (hs : swapsWithSole [.Subscript (.Name x npos) k tpos] e pos.line X.env = pure false := by rfl) (hw : swappedStores [.Subscript (.Name x npos) k tpos] e X.env = pure none := by rfl)
    (h1 : (assignEach [.Subscript (.Name x npos) k tpos] X.env).map (·.2) = [assign (.Subscript (.Name x npos) k tpos) X.env] := by rfl) : DS X W S (.Assign [.Subscript (.Name x npos) k tpos] e pos) (sPut i f g) := by
  obtain ⟨t, p, s⟩ := he
  obtain ⟨t', p', s'⟩ := hk
  refine ⟨_, ps_asg p (pg_subV p' hN hv hd hcd ha) hs hw h1, fun F H σ env fp D sat h => ?_⟩
  refine s F H σ env fp _ sat ?_
  unfold sPut at h
  cases ef : f env with
  | no => rw [ef] at h; exact h
  | ex c => rw [ef] at h; exact fun C F' H' m x => h C σ F' H' fp m (.refl _ _) (StepS.of_ext x fp) (sat.ext x)
  | ok r =>
    rw [ef] at h
    intro v F1 H1 x1 ⟨fx, ow, nx, fr⟩
    have h1 : PostS X W S σ F H fp D (ownL i env fun os => (g env).st env (putAt i env os r)) := h
    obtain ⟨os, eo, h2⟩ := ownL_post h1
    obtain ⟨a, vs, fo, c1, c0, c2, c3, c4, c5, c6, c7⟩ := sat.mut eo
    refine ⟨.ref a, c1, ?_⟩
    refine s' F1 H1 σ env fp _ (sat.ext x1) ?_
    cases eg : g env with
    | no => rw [eg] at h2; exact h2.elim
    | ex c => rw [eg] at h2; exact fun C F' H' m x => h2 C σ F' H' fp m (.refl _ _) (StepS.of_ext (x1.trans x) fp) (sat.ext (x1.trans x))
    | ok d =>
      rw [eg] at h2
      have h2 : PostS X W S σ F H fp D (putAt i env os r d) := h2
      intro w F2 H2 x2 q
      have x := x1.trans x2
      cases d with
      | int k =>
        cases hj : ixN os.length k with
        | none => unfold putAt at h2; simp only at h2; rw [hj] at h2; exact h2.elim
        | some j =>
          unfold putAt at h2; simp only at h2; rw [hj] at h2
          cases dp_int q
          have la := OwnAll.len c3
          have hb := x.hh _ _ c2
          have hjl : j < os.length := (ixN_seq hj).2.1
          have f2 := mut_free x c0 c2
          have na : a ∉ fx := fun z => by rw [fr a z] at c2; cases c2
          obtain ⟨fo', g1, g2, g3⟩ := OwnAll.set (j := j) (mut_same x.fh f2) (own_mut (vs' := vs.set j v) x c2 c3 c5) c4 hjl (own_mut1 (vs' := vs.set j v) x.fh f2 hb (ow.ext x2) na) nx fun b hb z => by
            obtain ⟨_, w, e⟩ := OwnAll.there _ _ _ c3 b z
            rw [fr b hb] at e; cases e
          obtain ⟨fp', st, sat'⟩ := c7 F2 H2 (vs.set j v) (os.set j r) fo' x g1 g2 fun b hb => (g3 b hb).imp id (fr b)
          exact ⟨a, vs, k, j, rfl, rfl, hb, by rw [la]; exact hj, h2 σ F2 _ fp' (.refl _ _) st sat'⟩
      | _ => exact h2.elim
end
end Mir
end
set_option Elab.async false
set_option linter.all false
set_option maxRecDepth 100000
set_option maxHeartbeats 4000000
noncomputable section
namespace Mir
open PySem PySem.Spec L2

def PAs (K : PySem.W.Frag) (_ : Hp) (r : Ow) (v : V) (F' H' : Hp) : Prop := ∃ fp, OwnAt K F' H' v r fp
instance {K : PySem.W.Frag} : Anti (PAs K) := ⟨fun _ h => h⟩
def DP (X : Cx) (W : WX) (e : Expr) (f : Ev → R Ow) : Prop := ∃ t, PE X e t ∧ Sm X W (PAs X.K) t f
section
variable {X : Cx} {W : WX} {S : Nat → Bool} {e a b : Expr} {pos cpos apos npos : Pos} {x : Str}
theorem dp_var (i : Nat) {x : Str} (hN : X.N[i]? = some x := by rfl) (hv : Vis X.env.scope x := by first | exact Or.inl rfl | exact Or.inr (Or.inl rfl) | exact Or.inr (Or.inr rfl)) (hd : (x == ("__debug__" : Str)) = false := by decide)
    (hcd : (x == ("__classdict__" : Str)) = false := by decide) : DP X W (.Name x pos) (eVarO i) := by
  refine ⟨_, pe_var hN hv hd hcd, fun F H σ env fp Q sat h => ?_⟩
  have h' : Post X W (PAs X.K) F H σ ((eVarO i env).bind fun o => .ok o) Q := by
    cases e : eVarO i env <;> rw [e] at h <;> exact h
  obtain ⟨o, he, _, h2⟩ := eVarO_ok h'
  obtain ⟨v, fo, h1, h3, _⟩ := sat.en.get he
  exact ⟨v, h1, h2 v F H (.refl sat.fh) ⟨fo, h3⟩⟩
def ixO : Ow → D → R Ow
  | .l os, .int k => match atI os k with
    | some o => .ok o
    | none => .no
  | _, _ => .no
def eIxO (f : Ev → R Ow) (g : Ev → R D) (env : Ev) : R Ow := (f env).bind fun o => (g env).bind fun d => ixO o d
theorem OwnAll.at {K : PySem.W.Frag} {F H : Hp} {os : List Ow} {vs : List V} {fp : List Addr} {k : Int} {o : Ow} (h : OwnAll K F H vs os fp) (e : atI os k = some o) : ∃ v fo, atI vs k = some v ∧ OwnAt K F H v o fo := by
  have hl := OwnAll.len h
  unfold atI at e ⊢
  rw [hl]
  cases hj : ixN os.length k with
  | none => rw [hj] at e; cases e
  | some j =>
    rw [hj] at e
    have e : os[j]? = some o := e
    have : ∀ {os : List Ow} {vs : List V} {fp : List Addr} {j : Nat}, OwnAll K F H vs os fp → os[j]? = some o → ∃ v fo, vs[j]? = some v ∧ OwnAt K F H v o fo := by
      intro os
      induction os with
      | nil => intro vs fp j h e; simp at e
      | cons q os ih =>
        intro vs fp j h e
        cases h with
        | cons h1 h2 =>
          cases j with
          | zero => simp at e; subst e; exact ⟨_, _, rfl, h1⟩
          | succ j =>
            obtain ⟨v, fo, a, b⟩ := ih h2 (by simpa using e)
            exact ⟨v, fo, by simpa using a, b⟩
    exact this h e
theorem dp_ix {f : Ev → R Ow} {g : Ev → R D} (ha : DP X W a f) (hb : DV X W b g) (hs : PlainIx b := by exact fun _ _ => rfl) : DP X W (.Subscript a b pos) (eIxO f g) := by
  obtain ⟨ta, pa, sa⟩ := ha
  obtain ⟨tb, pb, sb⟩ := hb
  refine ⟨_, pe_ix ix_list pa pb hs, fun F H σ env fp Q sat h => ?_⟩
  unfold eIxO at h
  refine sa.go sat h fun o v F1 H1 sat1 q _ h1 => ?_
  refine sb.go sat1 h1 fun d u F2 H2 sat2 q2 x2 h2 => ?_
  unfold ixO at h2
  split at h2
  · rename_i os k
    split at h2
    · rename_i o' he
      obtain ⟨fo, ow⟩ := q
      cases dp_int q2
      cases ow with
      | l m1 m2 m3 =>
        obtain ⟨w, fw, e1, e2⟩ := OwnAll.at m3 he
        exact ⟨_, _, _, _, rfl, rfl, SqL.of (x2.hh _ _ m2), e1, h2 w F2 H2 (.refl sat2.fh) ⟨fw, e2.ext x2⟩⟩
    · exact h2.elim
  · exact h2.elim
theorem dl_dp {f : Ev → R Ow} (h : DP X W e f) : DL X W e (eB f shD) := by
  obtain ⟨t, p, s⟩ := h
  refine ⟨t, p, fun F H σ env fp Q sat h => s F H σ env fp Q sat (Post.thru h fun d _ h' v F' H' x ⟨fp, q⟩ => ?_)⟩
  obtain ⟨r, e2⟩ := shD_ok h'
  rw [e2] at h'
  exact h' v F' H' x (own_seq x.fh q e2)
theorem dv_dp {f : Ev → R Ow} (h : DP X W e f) : DV X W e (eM f viewD) := by
  obtain ⟨t, p, s⟩ := h
  refine ⟨t, p, Sm.map s fun H o v F' H' sm ⟨fp, q⟩ => ⟨viewD o, rfl, OwnAt.view sm o v fp q⟩⟩

def repO : Ow → D → R Ow
  | .l os, .int k => match unDs os with
    | some ds => guard (-(2 ^ 63) ≤ k ∧ k < 2 ^ 63 ∧ os.length * k.toNat ≤ sizeLine) (.ok (.l ((List.replicate k.toNat ds).flatten.map Ow.d)))
    | none => .no
  | _, _ => .no
def eRep (f : Ev → R Ow) (g : Ev → R D) (env : Ev) : R Ow := (f env).bind fun o => (g env).bind fun d => repO o d
def eAug (h : D → D → Option D) (i : Nat) (f : Ev → R D) (env : Ev) : R D := (eVar i env).bind fun x => (f env).bind fun y => R.of (h x y)
def sAug (h : D → D → Option D) (i : Nat) (f : Ev → R D) (env : Ev) : SR := (eAug h i f env).st env fun d => if i < env.length then .nx (env.set i (some (.d d))) else .no
end
end Mir
end
set_option Elab.async false
set_option linter.all false
set_option maxRecDepth 100000
set_option maxHeartbeats 4000000
noncomputable section
namespace Mir
open PySem PySem.Spec L2

section
variable {K : PySem.W.Frag} {F H : Hp} {σ : L2.St} {env : Ev} {fp : List Addr}
theorem set_selfV {vs : List V} {j : Nat} {v : V} (h : vs[j]? = some v) : vs.set j v = vs := by
  refine List.ext_getElem? fun k => ?_
  by_cases hk : j = k
  · subst hk
    rw [List.getElem?_set_self (List.getElem?_eq_some_iff.mp h).1]
    exact h.symm
  · rw [List.getElem?_set_ne hk]
theorem Sat.mut1 (sat : Sat K F H σ env fp) {i j : Nat} {os os1 : List Ow} (hi : env[i]? = some (some (.l os))) (hj : os[j]? = some (.l os1)) : ∃ a0 vs0 a vs fo, σ[i]? = some (some (.ref a0)) ∧ H a0 = some (.lst vs0) ∧ vs0.length = os.length ∧ vs0[j]? = some (.ref a) ∧ F a = none ∧ H a = some (.lst vs) ∧ OwnAll K F H vs os1 fo ∧ fo.Nodup ∧ a ∉ fo ∧
    ∀ F1 H1 vs' os' fo', Ext F H F1 H1 → OwnAll K F1 (upd H1 a (.lst vs')) vs' os' fo' → fo'.Nodup → (∀ b ∈ fo', b ∈ fo ∨ H b = none) → ∃ fp', StepS F H fp F1 (upd H1 a (.lst vs')) fp' ∧ Sat K F1 (upd H1 a (.lst vs')) σ (env.set i (some (.l (os.set j (.l os'))))) fp' := by
  have hl : i < env.length := (List.getElem?_eq_some_iff.mp hi).1
  obtain ⟨fr, fo0, a1, a2, a3, a3', a4, a5, a6⟩ := sat.en.put hl sat.nd
  obtain ⟨v, e1, e2⟩ := a5 _ hi
  cases e2 with
  | @l a0 vs0 _ fI h1 h2 h3 =>
    obtain ⟨nd1, nd2⟩ := List.nodup_cons.mp a3'
    obtain ⟨vj, fo1, fr1, g1, g2, g3, g4, g5, g6, g7, g8⟩ := OwnAll.get h3 nd2 hj
    cases g2 with
    | @l a vs _ fo m1 m2 m3 =>
      obtain ⟨nd3, nd4⟩ := List.nodup_cons.mp g3
      refine ⟨a0, vs0, a, vs, fo, e1, h2, OwnAll.len h3, g1, m1, m2, m3, nd4, nd3, fun F1 H1 vs' os' fo' x ow nd sub => ?_⟩
      have hf1 := mut_free x m1 m2
      have na' : a ∉ fo' := fun z => by
        rcases sub a z with q | q
        · exact nd3 q
        · rw [m2] at q; cases q
      have fresh : ∀ b, H b = none → b ∉ fr := fun b q z => by
        obtain ⟨_, w, e⟩ := sat.en.there b (a1 b z)
        rw [q] at e; cases e
      have fresh1 : ∀ b, H b = none → b ∉ fr1 := fun b q z => by
        obtain ⟨_, w, e⟩ := OwnAll.there _ _ _ h3 b (g6 b z)
        rw [q] at e; cases e
      have st := mut_step (vs' := vs') x m2
      obtain ⟨f1, k1, k2, k3⟩ := g8 F1 (upd H1 a (.lst vs')) [a] [] (.ref a) (.l os') (a :: fo') st (fun b hb z => g7 b (by rw [List.mem_singleton.mp z]; exact List.mem_cons_self) hb) (.l hf1 upd_same ow) (List.nodup_cons.mpr ⟨na', nd⟩) fun b hb z => by
        rcases List.mem_cons.mp hb with q | q
        · subst q; exact g7 b List.mem_cons_self z
        · rcases sub b q with q | q
          · exact g7 b (List.mem_cons_of_mem _ q) z
          · exact fresh1 b q z
      rw [set_selfV g1] at k1
      have sub1 : ∀ b ∈ f1, b ∈ fI ∨ H b = none := fun b hb => by
        rcases k3 b hb with q | q
        · rcases List.mem_cons.mp q with q | q
          · subst q; exact .inl (g5 b List.mem_cons_self)
          · exact (sub b q).imp (fun z => g5 b (List.mem_cons_of_mem _ z)) id
        · exact .inl (g6 b q)
      have ne : a ≠ a0 := fun e => nd1 (e ▸ g5 a List.mem_cons_self)
      have hf0 : F1 a0 = none := mut_free x h1 h2
      have n0 : a0 ∉ f1 := fun z => by
        rcases sub1 a0 z with q | q
        · exact nd1 q
        · rw [h2] at q; cases q
      have aIn : a ∈ a0 :: fI := List.mem_cons_of_mem _ (g5 a List.mem_cons_self)
      obtain ⟨fp', b1, b2, b3⟩ := (a6 F1 (upd H1 a (.lst vs')) [a] [] st fun b hb z => a4 b (by rw [List.mem_singleton.mp z]; exact aIn) hb).2 (.ref a0) (.l (os.set j (.l os'))) (a0 :: f1) (.l hf0 ((upd_ne (Ne.symm ne)).trans (x.hh _ _ h2)) k1) (List.nodup_cons.mpr ⟨n0, k2⟩) fun b hb z => by
        rcases List.mem_cons.mp hb with q | q
        · subst q; exact a4 b List.mem_cons_self z
        · rcases sub1 b q with q | q
          · exact a4 b (List.mem_cons_of_mem _ q) z
          · exact fresh b q z
      rw [set_self e1] at b3
      refine ⟨fp', (st.mono (fun b hb => by rw [List.mem_singleton.mp hb]; exact a2 a aIn)) |> fun s => ⟨s.ff, s.fr, s.fn, fun b hb => ?_⟩, mut_same x.fh hf1, b3, b1⟩
      rcases b2 b hb with q | q
      · rcases List.mem_cons.mp q with q | q
        · rw [q]; exact .inl (a2 a0 List.mem_cons_self)
        · exact (sub1 b q).imp (fun z => a2 b (List.mem_cons_of_mem _ z)) id
      · exact .inl (a1 b q)
end
section
variable {X : Cx} {W : WX} {S : Nat → Bool} {e k : Expr} {pos cpos apos npos tpos : Pos} {x : Str}
/-- x[k].m(args) at an own list of own lists: the item's place, and how it is changed -/
def own1 (i : Nat) (g : Ev → R D) (env : Ev) (c : List Ow → Nat → List Ow → SR) : SR := ownL i env fun os => (g env).st env fun d => match d with
  | .int k => match ixN os.length k with
    | some j => match os[j]? with
      | some (.l os1) => c os j os1
      | _ => .no
    | none => .no
  | _ => .no
end
end Mir
end
set_option Elab.async false
set_option linter.all false
set_option maxRecDepth 100000
set_option maxHeartbeats 4000000
noncomputable section
namespace Mir
open PySem PySem.Spec PySem.W PySem.Calls PyProof.Rows PySem.SeqAt

section
variable {prog : Program} {w : World} {A : Around} {E : Value → Shared → Prop} {s : Shared}
theorem call_tuple_lt {Q : Value → Shared → Prop} {l b : Addr} {items items2 : Array Value} {e r : Nat → Bool} (hl : s.heap.IsTuple l items) (hb : s.heap.IsTuple b items2)
    (he : ∀ j (h1 : j < items.size) (h2 : j < items2.size), SeqAt.EqAt A.in1 s items[j] items2[j] (e j)) (hr : ∀ j (h1 : j < items.size) (h2 : j < items2.size), e j = false → RcLt A.in1 s items[j] items2[j] (r j))
    (h : Q (.bool (firstLt e r (decide (items.size < items2.size)) (List.range (min items.size items2.size)))) s) : wpAny (model prog w) A (call (.builtin "tuple.__lt__") [.ref l, .ref b]) Q E s := by
  obtain ⟨⟨cls, dd, data, sl⟩, ho, hc, n, hd⟩ := id hl
  obtain ⟨⟨cls2, dd2, data2, sl2⟩, ho2, hc2, n2, hd2⟩ := id hb
  simp only at hc hd hc2 hd2
  subst hc hd hc2 hd2
  exact call_meets F.slot_tuple_lt ⟨_, ho, rfl⟩ F.entry_tuple_lt (F.args_tuple_lt_2 _ _) (tuple_ltAt l b items items2 n n2 dd dd2 sl sl2 e r)
    ⟨ho, ho2, he, hr, h⟩
theorem oneLt_tuples {xs ys : List PyData} {a b : Value} {as bs : List Addr} {Q : Bool → Shared → Prop} (ra : Reads s.heap a (.tuple xs) as) (rb : Reads s.heap b (.tuple ys) bs) (hal : alikeAll xs ys = true)
    (hu : A.units + min (PyData.tuple xs).depth (PyData.tuple ys).depth < cLine) (hq : Q (dataLt (.tuple xs) (.tuple ys)) s) : wpAny (model prog w) A (oneLt' true a b) Q E s := by
  cases ra with
  | @tuple l o vs n _ as₁ h1 h2 h3 h4 =>
    cases rb with
    | @tuple l' o' vs' n' _ bs₁ k1 k2 k3 k4 =>
      have n1 : vs.size = xs.length := by simpa using SeqAt.ReadsAll.length _ _ _ h4
      have n2 : vs'.size = ys.length := by simpa using SeqAt.ReadsAll.length _ _ _ k4
      rw [dataLt_tuple, ← firstLt_toks xs ys hal, ← n1, ← n2] at hq
      rw [oneLt'_eq]
      simp only [if_true]
      refine wpAny_bind (wpAny_cRoomFor (SeqAt.room_here hu) ?_)
      refine wpAny_bind (wpAny_callSpecialIfBound?_slot (T := "tuple") ⟨_, h1, h2⟩ F.slot_tuple_lt (call_tuple_lt (e := SeqAt.pairEq xs ys) (r := fun j => dataLt (xs.getD j .none) (ys.getD j .none)) ⟨_, h1, h2, _, h3⟩ ⟨_, k1, k2, _, k3⟩ (fun j j1 j2 => ?_) (fun j j1 j2 hj => ?_) ?_))
      · have := eqAt_alikeAll xs ys A.in1 s vs.toList vs'.toList _ _ h4 k4 hal (SeqAt.room_in hu) j (by simpa using j1) (by simpa using j2)
        simpa using this
      · have := rcLt_alikeAll xs ys A.in1 s vs.toList vs'.toList _ _ h4 k4 hal (SeqAt.room_in hu) j (by simpa using j1) (by simpa using j2) hj
        simpa using this
      · exact wpAny_truthy_bool hq
end
section
variable {prog : Program} {w : World} {A : Around} {s : Shared}
def neD : PyData → Bool
  | .tuple [] => false
  | _ => true
theorem firsts_tup {M : Model} : ∀ {vs : List Value} {ds : List PyData}, EachIs (fun v d => ∃ as, Reads s.heap v d as) vs ds → (∀ d, d ∈ ds → ∃ xs, d = .tuple xs) → ∃ fs : List (Option Value), fs.map Option.isSome = ds.map neD ∧ ∀ (A : Around) (E : Value → Shared → Prop) (Q : List (Option Value) → Shared → Prop), Q fs s → wpAny M A (vs.mapM firstOfTuple') Q E s
  | _, _, .nil, _ => ⟨[], rfl, fun A E Q h => by rw [List.mapM_nil]; exact wpAny_pure h⟩
  | _, _, .cons (a := v) (b := d) (as := vs) (bs := ds) ⟨as, r⟩ t, ht => by
    obtain ⟨fs, h1, h2⟩ := firsts_tup (M := M) t fun d hd => ht d (List.mem_cons_of_mem _ hd)
    obtain ⟨xs, rfl⟩ := ht d List.mem_cons_self
    cases r with
    | @tuple a o ys n _ _ ho hc hd hr =>
      refine ⟨ys[0]? :: fs, ?_, fun A E Q h => ?_⟩
      · rw [List.map_cons, List.map_cons, h1]
        congr 1
        cases xs with
        | nil =>
          have e : ys.toList = [] := by cases q : ys.toList with | nil => rfl | cons u us => rw [q] at hr; cases hr
          have e2 : ys[0]? = none := by rw [← Array.getElem?_toList, e]; rfl
          rw [e2]; rfl
        | cons x r =>
          cases q : ys.toList with
          | nil => rw [q] at hr; cases hr
          | cons u us =>
            have e2 : ys[0]? = some u := by rw [← Array.getElem?_toList, q]; rfl
            rw [e2]; rfl
      · rw [List.mapM_cons]
        refine wpAny_bind ?_
        rw [kas_first_eq]
        refine wpAny_bind (Looks.here (show Looks M s.heap (typeOf (.ref a)) o.cls from (Looks.ld ho).andThen .now) ?_)
        rw [hc, if_neg (by first | decide | simp)]
        refine wpAny_bind (listItems_at ho hd (wpAny_pure ?_))
        exact wpAny_bind (h2 A E (fun bs s' => wpAny M A (pure (ys[0]? :: bs)) Q E s') (wpAny_pure h))
/-- tuples that read as alike data can be sorted -/
theorem sortsAt_tuples {vs : List Value} {ds : List PyData} (e : EachIs (fun v d => ∃ as, Reads s.heap v d as) vs ds) (hal : AllAlike ds) (ht : ∀ d, d ∈ ds → ∃ xs, d = .tuple xs) (hu : ∀ d, d ∈ ds → A.units + d.depth < cLine) : SortsAt prog w A s (dataKind s.heap ds) vs := by
  by_cases hne : ∀ d, d ∈ ds → ∃ x r, d = .tuple (x :: r)
  · exact SortsAt.data e hal (.inl hne) hu
  have room : ∀ {d d' : PyData}, d ∈ ds → A.units + min d.depth d'.depth < cLine := fun {d d'} hd => Nat.lt_of_le_of_lt (Nat.add_le_add_left (Nat.min_le_left _ _) _) (hu d hd)
  obtain ⟨fs, h1, h2⟩ := firsts_tup (M := model prog w) e ht
  have hnall : (fs.toArray.all fun x => x.isSome) = false := by
    rw [List.all_toArray, Bool.eq_false_iff]
    intro hall
    refine hne fun d hd => ?_
    obtain ⟨xs, rfl⟩ := ht d hd
    cases xs with
    | cons x r => exact ⟨x, r, rfl⟩
    | nil =>
      have : neD (.tuple []) ∈ ds.map neD := List.mem_map_of_mem hd
      rw [← h1] at this
      obtain ⟨f, f1, f2⟩ := List.mem_map.mp this
      have := List.all_eq_true.mp hall f f1
      rw [f2] at this
      cases this
  have hkeys : ∀ v, v ∈ vs → ∃ a, (dataKind s.heap ds).keyOf v = some a := fun v hv => by
    obtain ⟨d, hd, as, r⟩ := e.left v hv
    exact ⟨_, dataKind_some hal hd r⟩
  have hty : ∀ v ∈ vs, Looks (model prog w) s.heap (typeOf v) (.type "tuple") := fun v hv => by
    obtain ⟨d, hd, as, r⟩ := e.left v hv
    obtain ⟨xs, rfl⟩ := ht d hd
    exact looks_reads r
  by_cases hf : ((fs.toArray)[0]?.bind id).isSome = true
  · refine ⟨hkeys, general', ?_, fun h2' E Q hq => ?_⟩
    · intro E x y a b Q ha hb hq
      obtain ⟨d, as, hd, ra, rfl⟩ := dataKind_inv ha
      obtain ⟨d', as', hd', rb, rfl⟩ := dataKind_inv hb
      obtain ⟨xs, rfl⟩ := ht d hd
      show wpAny (model prog w) A (oneLt' false x y) Q E s
      exact oneLt_alike (fun z => by cases z) ra rb (hal _ hd d' hd') (by intro z; cases z) (room hd) hq
    · rw [kat_kind_eq, List.mapM_toArray, map_eq_pure_bind]
      refine wpAny_bind (wpAny_bind (h2 A E _ (wpAny_pure ?_)))
      rw [if_neg (by rw [hnall]; exact Bool.false_ne_true), if_pos hf]
      exact wpAny_pure hq
  · refine ⟨hkeys, oneType', ?_, fun h2' E Q hq => ?_⟩
    · intro E x y a b Q ha hb hq
      obtain ⟨d, as, hd, ra, rfl⟩ := dataKind_inv ha
      obtain ⟨d', as', hd', rb, rfl⟩ := dataKind_inv hb
      have hdd := hal d hd d' hd'
      have hroom := room (d' := d') hd
      obtain ⟨xs, rfl⟩ := ht d hd
      obtain ⟨ys, rfl⟩ := ht d' hd'
      rw [keyLt'_oneType]
      exact oneLt_tuples ra rb (by simpa [alike] using hdd) hroom hq
    · rw [kat_kind_eq, List.mapM_toArray, map_eq_pure_bind]
      refine wpAny_bind (wpAny_bind (h2 A E _ (wpAny_pure ?_)))
      rw [if_neg (by rw [hnall]; exact Bool.false_ne_true), if_neg hf]
      rw [oneTypeOnly'_eq, List.mapM_toArray, map_eq_pure_bind]
      refine wpAny_bind (wpAny_bind (wpAny_bind (kas_mapM (r := Value.type "tuple") _ (fun v hv Q' hq => (hty v hv).here hq) (wpAny_pure ?_))))
      obtain ⟨v0, vr, rfl⟩ : ∃ v0 vr, vs = v0 :: vr := by
        match vs, h2' with
        | [], h2 => simp at h2
        | v :: r, _ => exact ⟨v, r, rfl⟩
      have hall : ((List.map (fun _ => Value.type "tuple") (v0 :: vr)).toArray.all fun x => x == Value.type "tuple") = true := by
        simp only [List.all_toArray, List.all_map, List.all_eq_true]
        intro _ _
        exact beq_self_eq_true _
      have h0 : (List.map (fun _ => Value.type "tuple") (v0 :: vr)).toArray[0]? = some (Value.type "tuple") := by simp
      rw [h0]
      simp only [hall, if_true]
      exact wpAny_pure (wpAny_pure hq)
end
end Mir
namespace Mir
open PySem PySem.Spec L2
abbrev sortedD (ds : List D) : List D := ds.mergeSort (PySem.W.dataLe false id)
def tupB : D → Bool
  | .tuple _ => true
  | _ => false
def plainB : D → Bool
  | .tuple _ => false
  | .none => false
  | _ => true
def sortOk (ds : List D) : Bool := (ds.all fun d => ds.all fun e => PySem.W.alike d e) && (ds.all tupB || ds.all plainB) && (ds.all fun d => decide (d.depth ≤ 130))
def gSorted : List D → Option Ow
  | [.list ds] => if sortOk ds = true then some (.l ((sortedD ds).map Ow.d)) else none
  | _ => none
def rSortD (K : PySem.W.Frag) : List V → Hp → VK → Prop := fun vs H Q => ∃ (a : Addr) (xs : List V) (ds : List D) (T : V → D → Prop), vs = [V.ref a] ∧ SqL K H a xs ∧ DpAll K H xs ds ∧ sortOk ds = true ∧ PySem.W.EachIs T xs ds ∧
  ∀ (ys : List V) (p : Addr), H p = none → PySem.W.EachIs T ys (sortedD ds) → Q (.ref p) (upd H p (.lst ys))
section
variable {X : Cx} {W : WX}
theorem each_vals {T : V → D → Prop} : ∀ {xs : List V} {vs : List Value} {ds : List D}, Vals xs vs → PySem.W.EachIs T xs ds → PySem.W.EachIs (fun v d => ∃ x, RelV x v ∧ T x d) vs ds
  | _, _, _, .nil, .nil => .nil
  | _, _, _, .cons r t, .cons h g => .cons ⟨_, r, h⟩ (each_vals t g)
theorem vals_each {T : V → D → Prop} : ∀ {vs : List Value} {ds : List D}, PySem.W.EachIs (fun v d => ∃ x, RelV x v ∧ T x d) vs ds → ∃ xs, Vals xs vs ∧ PySem.W.EachIs T xs ds
  | _, _, .nil => ⟨[], .nil, .nil⟩
  | _, _, .cons ⟨x, r, h⟩ g => by
    obtain ⟨xs, a, b⟩ := vals_each g
    exact ⟨x :: xs, .cons r a, .cons h b⟩
mutual
theorem Dp.kit_alike {K : PySem.W.Frag} {H : Hp} : ∀ (d : D) (v : V), Dp K H v d → PySem.W.alike d d = true → L2.Dp K H v d
  | .none, _, h, _ => by cases h; exact .non
  | .bool b, _, h, _ => by cases h; exact .bl b
  | .int b, _, h, _ => by cases h; exact .int b
  | .str b, _, h, _ => by cases h; exact .str b
  | .list ds, _, h, c => by
    cases h with
    | lst hs ha => exact .lst hs (DpAll.kit_alike ds _ ha (by rw [PySem.W.alike] at c; exact c))
  | .tuple ds, _, h, c => by
    cases h with
    | tup hs ha => exact .tup hs (DpAll.kit_alike ds _ ha (by rw [PySem.W.alike] at c; exact c))
  | .dict _, _, _, c => by simp [PySem.W.alike] at c
theorem DpAll.kit_alike {K : PySem.W.Frag} {H : Hp} : ∀ (ds : List D) (vs : List V), DpAll K H vs ds → PySem.W.alikeAll ds ds = true → L2.DpAll K H vs ds
  | [], _, h, _ => by cases h; exact .nil
  | d :: ds, _, h, c => by
    rw [PySem.W.alikeAll, Bool.and_eq_true] at c
    cases h with
    | cons h1 h2 => exact .cons (Dp.kit_alike d _ h1 c.1) (DpAll.kit_alike ds _ h2 c.2)
end
theorem each_reads {pins : List (Addr × Obj)} {s : Shared} {σ : L2.St} {H : Hp} (I : Inv X pins σ H s) : ∀ {xs : List V} {vs : List Value} {ds : List D}, Vals xs vs → DpAll X.K H xs ds → (∀ d ∈ ds, PySem.W.alike d d = true) → PySem.W.EachIs (fun v d => ∃ as, PySem.Reads s.heap v d as) vs ds
  | _, _, _, .nil, h, _ => by cases h; exact .nil
  | _, _, _, .cons r t, h, c => by
    cases h with
    | cons h1 h2 => exact .cons (L2.Dp.reads I _ _ _ (Dp.kit_alike _ _ h1 (c _ List.mem_cons_self)) r) (each_reads I t h2 fun d hd => c d (List.mem_cons_of_mem _ hd))
theorem sortOk_cases {ds : List D} (h : sortOk ds = true) : PySem.W.AllAlike ds ∧ ((∀ d, d ∈ ds → ∃ xs, d = .tuple xs) ∨ ∀ d, d ∈ ds → d ≠ .none ∧ ∀ xs, d ≠ .tuple xs) ∧ ∀ d, d ∈ ds → d.depth ≤ 130 := by
  unfold sortOk at h
  simp only [Bool.and_eq_true, Bool.or_eq_true, List.all_eq_true, decide_eq_true_eq] at h
  obtain ⟨⟨h1, h2⟩, h3⟩ := h
  refine ⟨h1, h2.imp (fun h d hd => ?_) (fun h d hd => ?_), h3⟩
  · have := h d hd
    cases d <;> first | exact ⟨_, rfl⟩ | cases this
  · have := h d hd
    cases d with
    | none => cases this
    | tuple _ => cases this
    | _ => exact ⟨nofun, nofun⟩
theorem cr_sortD (hu : X.A.units + 140 < cLine) : CallR X (.builtin "sorted") (rSortD X.K) := by
  intro pins s σ H vs us Q I r h
  obtain ⟨a, xs, ds, T, rfl, hs, hx, ok, hT, q⟩ := h
  obtain ⟨its, rv, hl, hz⟩ := I.list hs
  rw [Vals.ref1 r]
  obtain ⟨hal, hk, hd⟩ := sortOk_cases ok
  have er := each_reads I rv hx fun d hd => hal d hd d hd
  have e := each_vals rv hT
  have hL : its.length ≤ sizeLine := by rw [← rv.length]; exact hz
  have fin : ∀ out, out.length = ds.length → PySem.W.EachIs (fun v d => ∃ x, RelV x v ∧ T x d) out (sortedD ds) → EP X pins σ Q (.ref (s.heap.objs.size + 1)) { s with heap := PyProof.Rows.sortedAll s.heap its out.toArray } := fun out h1 h2 => by
    obtain ⟨ys, h3, h4⟩ := vals_each h2
    have hn : H (s.heap.objs.size + 1) = none := I.hok.fresh (Nat.le_succ _)
    obtain ⟨n, hn2⟩ := PyProof.Rows.sortedAll_at s.heap its out.toArray
    refine ⟨.ref (s.heap.objs.size + 1), upd H (s.heap.objs.size + 1) (.lst ys), I.laid (t' := s.toks) (fun b o e => PyProof.Rows.sortedAll_old e) (Nat.le_succ _) ⟨?_, out, n, h3, hn2⟩, rfl, q ys _ hn h4⟩
    rw [h3.length, h1, ← er.length]
    exact hL
  have er' : PySem.W.EachIs (fun v b => ∃ as, PySem.Reads (PySem.W.sortingHeap (PySem.W.copyHeap s.heap its) (s.heap.objs.size + 1) its) v (id b) as) its ds := er.mono fun _ _ ⟨as, r⟩ => ⟨as, PyProof.Rows.Reads.keeps (fun _ _ => PySem.W.sorting_copy_old) r⟩
  have hb : ∀ d, d ∈ ds → X.A.in1.in1.units + d.depth < cLine := fun d m => by
    have := hd d m
    show X.A.units + 1 + 1 + d.depth < cLine
    omega
  refine PySem.W.sorted_vals (κ := PySem.W.dataKind (PySem.W.sortingHeap (PySem.W.copyHeap s.heap its) (s.heap.objs.size + 1) its) ds) hl.isList ?_ hL (fin _ ?_ ?_)
  · rcases hk with hk | hk
    · exact sortsAt_tuples (s := { s with heap := PySem.W.sortingHeap (PySem.W.copyHeap s.heap its) (s.heap.objs.size + 1) its }) er' hal hk hb
    · exact PySem.W.SortsAt.data (s := { s with heap := PySem.W.sortingHeap (PySem.W.copyHeap s.heap its) (s.heap.objs.size + 1) its }) er' hal (.inr hk) hb
  · rw [PySem.W.sortVals_length false rfl]; exact er.length
  · have z := PySem.W.sortVals_data (enc := (id : D → D)) (bs := ds) false e er' (by simpa using hal)
    simpa using z
theorem each_dpAll {F : Hp} : ∀ {xs : List V} {ds : List D}, DpAll X.K F xs ds → PySem.W.EachIs (Dp X.K F) xs ds
  | _, [], h => by cases h; exact .nil
  | _, d :: ds, h => by
    cases h with
    | cons h1 h2 => exact .cons h1 (each_dpAll h2)
theorem dpAll_each {F : Hp} : ∀ {xs : List V} {ds : List D}, PySem.W.EachIs (Dp X.K F) xs ds → DpAll X.K F xs ds
  | _, _, .nil => .nil
  | _, _, .cons h g => .cons h (dpAll_each g)
theorem caG_sorted : CaG X.K (rSortD X.K) gSorted := by
  intro F H vs ds o Q s h e q
  unfold gSorted at e
  split at e
  · split at e
    · rename_i es c
      cases e
      obtain ⟨v, rfl, p, ws, rfl, p1, p2⟩ := psqs1 h
      refine ⟨p, ws, es, Dp X.K F, rfl, p1, dpaUp p2 s, c, each_dpAll p2, fun ys a ha hy => ?_⟩
      exact q _ _ _ (Ext.own s ha _) (own_l s ha (dpAll_each hy))
    · cases e
  · cases e
theorem de_sorted {x : Expr} {p pos : Pos} {f : Ev → R (List D)} (hu : X.A.units + 140 < cLine) (hg : Gl X "sorted") (hm : X.mg "sorted" = none) (ha : DAl X W [x] f) (he : starEach [x] X.env = (false, eval x X.env) :: starEach [] X.env := by rfl) : DE X W (.Call (.Name "sorted" p) [x] [] pos) (eCa gSorted f) :=
  de_callB (cr_sortD hu) caG_sorted hg hm (by first | rfl | decide +kernel) ha (he := he)
end
end Mir
end
set_option Elab.async false
set_option linter.all false
set_option maxRecDepth 100000
set_option maxHeartbeats 4000000
noncomputable section
namespace Mir
open PySem PySem.Spec L2

open Classical in
section
variable {X : Cx} {W : WX} {S : Nat → Bool} {pos npos : Pos} {x : Str} {fs : Ev → SR}
end
end Mir
end
set_option Elab.async false
set_option linter.all false
set_option maxRecDepth 100000
set_option maxHeartbeats 4000000
noncomputable section
namespace Mir
open PySem PySem.Spec L2

def spL (K : PySem.W.Frag) (m : List D → R Ow) : Sp := fun vs H Q _ => ∃ F ds r, Same F H ∧ DpAll K F vs ds ∧ ds.length = 1 ∧ m ds = .ok r ∧ ∀ v F' H', Ext F H F' H' → POw K H r v F' H' → Q v H'
theorem fnOk_spL {P : Program} {w : World} {K : PySem.W.Frag} {mg : Str → Option Value} {base : Heap} {CX : CXT} {k : Nat} {f : Addr} {fd : FuncData} {ps : List Str} {m : List D → R Ow} (h : FnOk P w K mg base CX k f fd ps (spM K mg 1 m)) : FnOk P w K mg base CX k f fd ps (spL K m) :=
  h.imp fun vs H Q E ⟨F, ds, r, h1, h2, h3, h4, h5⟩ => ⟨F, ds, h1, h2, h3, by rw [h4]; exact h5⟩
theorem law_end {l : PySem.W.OpenLaw} {q : Program} {loose : List Str} {XP : (Str → Option Value) → Heap → Prop} {YP : World → Heap → Prop} {d : DefRec} {K : Params → PySem.W.Frag} {m : List D → R Ow} (k : Nat) (x : Str) (hn : l.most = some 63) (hdf : d.params.defaults = []) (hr : Room k callerA)
    (hY : ∀ (w : World) (h : Heap), YP w h → (K w.params).In h)
    (hm : ∀ ns : List Int, ns.length ≤ 63 → (∀ z ∈ ns, Builtin.Int.intBits z ≤ 1048576) → m [.list (ns.map .int)] = .ok (.d (.bool true)))
    (F : ∀ (w : World) (mg : Str → Option Value) (fa : Addr) (h : Heap), (K w.params).In h → h.Ns PySem.mainGlobals mg → mg d.name = some (.ref fa) →
      ∃ fd : FuncData, (∀ (s : Shared) (u : Value), BindsTo s fd ⟨[u], []⟩ [(x, u)]) ∧ ∀ base : Heap, (K w.params).In base → base.Ns PySem.mainGlobals mg → FnOk l.prog w (K w.params) mg base (L2.CX l.prog w) k fa fd [x] (spM (K w.params) mg 1 m)) :
    PySem.W.WalkO q loose XP YP l.row.toRowW d [] (fun f vs => PySem.call f vs) := by
  refine L2.walk_ofB (n := 63) (k := k) (x := x) (CX := fun w => L2.CX l.prog w) (sp := fun w => spL (K w.params) m) hn (by decide) hdf hr hY (fun w mg fa h a b c => ?_) (fun w H a ns hl hb _ hS => ?_) fun w H s e s' z => ?_
  · obtain ⟨fd, h1, h2⟩ := F w mg fa h a b c
    exact ⟨fd, h1, fun base p q => fnOk_spL (h2 base p q)⟩
  · refine ⟨H, [.list (ns.map .int)], _, Same.refl _, .cons (.lst hS (DpAll.of_ints ns)) .nil, rfl, hm ns hl hb, fun v F' H' _ ⟨fp, ow, _⟩ => ?_⟩
    cases ow with
    | d h => cases h; rfl
  · obtain ⟨_, _, _, _, _, _, _, _, _, _, _, _, z⟩ := z
    exact z
theorem room_eq {k : Nat} {A : Around} (r : Room k A) : A.units + 140 < cLine := by have := r.un; omega
end Mir
end
set_option Elab.async false
set_option linter.all false
set_option maxRecDepth 100000
set_option maxHeartbeats 4000000
noncomputable section
namespace Mir
open PySem PySem.Spec L2
section
variable {X : Cx} {W : WX} {S : Nat → Bool}
def gAddA : D → D → Option D
  | .int i, .int j => some (.int (i + j))
  | .str x, .str y => if x.length + y.length ≤ sizeLine then some (.str (x ++ y)) else none
  | _, _ => none
/-- name = [..], the list made data -/
theorem ds_setLcF {elt tg iter : Expr} {ifs : List Expr} {scope : Scope} {own : List (Str × Nat)} {g : D → Ev → Option Ev} {fi : Ev → R (List D)} {fc : Ev → R Bool} {fe : Ev → R Ow} {ix : List Nat} {y : Str} {py spos pos : Pos} (i : Nat) (hc : X.calm = true) (hN : X.N.Nodup) (hi : DI X W tg iter fi) (ok : BlkOk X.N X.env.scope scope own)
    (hg : ∀ (s : Shared) (H : Hp) (C : Addr) (cl : List (Str × Addr)) (fp : List Addr), DG (X.blk s H scope (compEnvC scope cl C X.env) fp) tg ix g) (ht : ∀ (s : Shared) (H : Hp) (C : Addr) (cl : List (Str × Addr)) (fp : List Addr), DTs (X.blk s H scope (compEnvC scope cl C X.env) fp) W0 ifs fc)
    (he : ∀ (s : Shared) (H : Hp) (C : Addr) (cl : List (Str × Addr)) (fp : List Addr), DE (X.blk s H scope (compEnvC scope cl C X.env) fp) W0 elt fe) (hix : ∀ i ∈ ix, i ∈ own.map (·.2) := by decide) (hs : ∀ x, foldedSetIterable iter X.env x = pure x := by intro _; rfl)
    (hy : X.N[i]? = some y := by rfl) (hyl : X.env.scope.names.lookup y = some .local := by rfl) (hsw : swapsWith (.ListComp elt [⟨tg, iter, ifs, 0⟩] scope pos) (some (.Name y py)) spos.line X.env = pure true := by exact sw_true rfl rfl rfl (by decide +kernel)) (hS : S i = true := by rfl) :
    DS X W S (.Assign [.Name y py] (.ListComp elt [⟨tg, iter, ifs, 0⟩] scope pos) spos) (sSet i (eM (eM (eLc fi g fc fe (own.map (·.2))) viewD) Ow.d)) := by
  obtain ⟨wi, pi, si⟩ := hi
  refine ⟨_, ps_setLc (g := tgOf X.K ix g) (tt := tOf X.K (Post X W0 PTb) fc) (te := tOf X.K (Post X W0 (POw X.K)) fe) hc hN hy hyl hsw pi ok (fun s H C cl fp => hg s H C cl fp) (fun s H C cl fp => (ht s H C cl fp).can) (fun s H C cl fp => (he s H C cl fp).can) hs, fun F H σ env fp D sat h => ?_⟩
  refine de_lc_core si hix F H σ env fp _ sat ?_
  unfold sSet eM at h
  cases e : eLc fi g fc fe (own.map (·.2)) env with
  | no => rw [e] at h; exact h
  | ex c => rw [e] at h; exact fun C F' H' m x => h C σ F' H' fp m (.refl _ _) (StepS.of_ext x fp) (sat.ext x)
  | ok r =>
    rw [e] at h
    intro v F' H' x ⟨fx, q, nd, n⟩
    have h' : PostS X W S σ F H fp D (if i < env.length then .nx (env.set i (some (.d (viewD r)))) else .no) := h
    split at h'
    · obtain ⟨F2, x2, q2⟩ := x.freeze q n
      obtain ⟨fp', s1, s2⟩ := put_step sat x2 (.d q2) List.nodup_nil (fun _ z => nomatch z) ‹_›
      exact h' _ F2 H' fp' (.set hS _) s1 s2
    · exact h'.elim
end
end Mir
end
set_option Elab.async false
set_option linter.all false
set_option maxRecDepth 100000
set_option maxHeartbeats 4000000
noncomputable section
namespace Mir
open PySem PySem.Spec L2

section
variable {α β γ : Type} (env : Ev)
@[simp] theorem eB_eq (f : Ev → R α) (g : α → R β) : eB f g env = (f env).bind g := rfl
@[simp] theorem eM_eq (f : Ev → R α) (g : α → β) : eM f g env = (f env).map g := rfl
@[simp] theorem eC_eq (d : D) : eC d env = .ok d := rfl
@[simp] theorem aNil_eq : aNil env = .ok [] := rfl
@[simp] theorem aCons_eq (f : Ev → R D) (g : Ev → R (List D)) : aCons f g env = (f env).bind fun d => (g env).map fun ds => d :: ds := rfl
@[simp] theorem eTup_eq (f : Ev → R (List D)) : eTup f env = (f env).bind fun ds => guard (ds.length ≤ sizeLine) (.ok (.tuple ds)) := rfl
@[simp] theorem eLst_eq (f : Ev → R (List D)) : eLst f env = (f env).bind fun ds => guard (ds.length ≤ sizeLine) (.ok (.l (ds.map Ow.d))) := rfl
@[simp] theorem eBin_eq (g : D → D → Option D) (f h : Ev → R D) : eBin g f h env = (f env).bind fun x => (h env).bind fun y => R.of (g x y) := rfl
@[simp] theorem eBinO_eq (g : D → D → Option Ow) (f h : Ev → R D) : eBinO g f h env = (f env).bind fun x => (h env).bind fun y => R.of (g x y) := rfl
@[simp] theorem eCa_eq (g : List D → Option Ow) (f : Ev → R (List D)) : eCa g f env = (f env).bind fun ds => R.of (g ds) := rfl
@[simp] theorem eNot_eq (f : Ev → R D) : eNot f env = ((f env).bind asB).bind fun b => .ok (.bool !b) := rfl
@[simp] theorem eAnd_eq (f g : Ev → R D) : eAnd f g env = ((f env).bind asB).bind fun b => if b = true then g env else .ok (.bool false) := rfl
@[simp] theorem eOr_eq (f g : Ev → R D) : eOr f g env = ((f env).bind asB).bind fun b => if b = true then .ok (.bool true) else g env := rfl
@[simp] theorem eIf_eq (c : Ev → R Bool) (f g : Ev → R D) : eIf c f g env = (c env).bind fun b => if b = true then f env else g env := rfl
@[simp] theorem tNotE_eq (f : Ev → R Bool) : tNotE f env = (f env).map (!·) := rfl
@[simp] theorem tAndE_eq (f g : Ev → R Bool) : tAndE f g env = (f env).bind fun b => if b = true then g env else .ok false := rfl
@[simp] theorem tOrE_eq (f g : Ev → R Bool) : tOrE f g env = (f env).bind fun b => if b = true then .ok true else g env := rfl
@[simp] theorem eRep_eq (f : Ev → R Ow) (g : Ev → R D) : eRep f g env = (f env).bind fun o => (g env).bind fun d => repO o d := rfl
@[simp] theorem eIxO_eq (f : Ev → R Ow) (g : Ev → R D) : eIxO f g env = (f env).bind fun o => (g env).bind fun d => ixO o d := rfl
@[simp] theorem eSl_eq (f : Ev → R D) (l h : Ev → R (Option Int)) : eSl f l h env = (f env).bind fun x => (l env).bind fun i => (h env).bind fun j => R.of (gSl x i j) := rfl
@[simp] theorem oNone_eq : oNone env = .ok none := rfl
@[simp] theorem asI_eq (i : Int) : asI (.int i) = .ok (some i) := rfl
@[simp] theorem cYes_eq : cYes env = .ok true := rfl
@[simp] theorem eVar_0 (x : D) : eVar 0 (some (.d x) :: env) = .ok x := rfl
@[simp] theorem eVarO_0 (x : Ow) : eVarO 0 (some x :: env) = .ok x := rfl
@[simp] theorem eVar_s (i : Nat) (x : Option Ow) : eVar (i + 1) (x :: env) = eVar i env := by unfold eVar; rw [List.getElem?_cons_succ]
@[simp] theorem eVarO_s (i : Nat) (x : Option Ow) : eVarO (i + 1) (x :: env) = eVarO i env := by unfold eVarO; rw [List.getElem?_cons_succ]
@[simp] theorem eVar_1 (a : Option Ow) (x : D) : eVar 1 (a :: some (.d x) :: env) = .ok x := rfl
@[simp] theorem eVar_2 (a b : Option Ow) (x : D) : eVar 2 (a :: b :: some (.d x) :: env) = .ok x := rfl
@[simp] theorem eVar_3 (a b c : Option Ow) (x : D) : eVar 3 (a :: b :: c :: some (.d x) :: env) = .ok x := rfl
@[simp] theorem eVar_4 (a b c d : Option Ow) (x : D) : eVar 4 (a :: b :: c :: d :: some (.d x) :: env) = .ok x := rfl
@[simp] theorem eVar_5 (a b c d e : Option Ow) (x : D) : eVar 5 (a :: b :: c :: d :: e :: some (.d x) :: env) = .ok x := rfl
@[simp] theorem eVar_6 (a b c d e f : Option Ow) (x : D) : eVar 6 (a :: b :: c :: d :: e :: f :: some (.d x) :: env) = .ok x := rfl
@[simp] theorem eVar_7 (a b c d e f g : Option Ow) (x : D) : eVar 7 (a :: b :: c :: d :: e :: f :: g :: some (.d x) :: env) = .ok x := rfl
@[simp] theorem eVar_8 (a b c d e f g h : Option Ow) (x : D) : eVar 8 (a :: b :: c :: d :: e :: f :: g :: h :: some (.d x) :: env) = .ok x := rfl
@[simp] theorem eVar_9 (a b c d e f g h i : Option Ow) (x : D) : eVar 9 (a :: b :: c :: d :: e :: f :: g :: h :: i :: some (.d x) :: env) = .ok x := rfl
@[simp] theorem eVarO_1 (a : Option Ow) (x : Ow) : eVarO 1 (a :: some x :: env) = .ok x := rfl
@[simp] theorem eVarO_2 (a b : Option Ow) (x : Ow) : eVarO 2 (a :: b :: some x :: env) = .ok x := rfl
@[simp] theorem eVarO_3 (a b c : Option Ow) (x : Ow) : eVarO 3 (a :: b :: c :: some x :: env) = .ok x := rfl
@[simp] theorem eVarO_4 (a b c d : Option Ow) (x : Ow) : eVarO 4 (a :: b :: c :: d :: some x :: env) = .ok x := rfl
@[simp] theorem eVarO_5 (a b c d e : Option Ow) (x : Ow) : eVarO 5 (a :: b :: c :: d :: e :: some x :: env) = .ok x := rfl
@[simp] theorem eVarO_6 (a b c d e f : Option Ow) (x : Ow) : eVarO 6 (a :: b :: c :: d :: e :: f :: some x :: env) = .ok x := rfl
@[simp] theorem eVarO_7 (a b c d e f g : Option Ow) (x : Ow) : eVarO 7 (a :: b :: c :: d :: e :: f :: g :: some x :: env) = .ok x := rfl
@[simp] theorem sSkip_eq : sSkip env = .nx env := rfl
@[simp] theorem sSeq_eq (f g : Ev → SR) : sSeq f g env = (f env).andThen g := rfl
@[simp] theorem sSet_eq (i : Nat) (f : Ev → R Ow) : sSet i f env = (f env).st env fun r => if i < env.length then .nx (env.set i (some r)) else .no := rfl
@[simp] theorem sRet_eq (f : Ev → R Ow) : sRet f env = (f env).st env fun r => .rt r env := rfl
@[simp] theorem sRetN_eq : sRetN env = .rt (.d .none) env := rfl
@[simp] theorem sIf_eq (c : Ev → R Bool) (f g : Ev → SR) : sIf c f g env = (c env).st env fun b => if b = true then f env else g env := rfl
@[simp] theorem sFor_eq (it : Ev → R (List D)) (g : D → Ev → Option Ev) (f : Ev → SR) : sFor it g f env = (it env).st env fun ds => forL g f ds env := rfl
@[simp] theorem sDrop_eq (f : Ev → R D) : sDrop f env = (f env).st env fun _ => .nx env := rfl
@[simp] theorem sAug_eq (h : D → D → Option D) (i : Nat) (f : Ev → R D) : sAug h i f env = (((eVar i env).bind fun x => (f env).bind fun y => R.of (h x y)).st env fun d => if i < env.length then .nx (env.set i (some (.d d))) else .no) := rfl
@[simp] theorem sAsg_eq (g : D → Ev → Option Ev) (f : Ev → R D) : sAsg g f env = (f env).st env fun d => match g d env with
  | some env' => .nx env'
  | none => .no := rfl
theorem ownL_of {i : Nat} {os : List Ow} (h : env[i]? = some (some (.l os))) (k : List Ow → SR) : ownL i env k = k os := by unfold ownL; rw [h]
@[simp] theorem sApp_eq (i : Nat) (f : Ev → R Ow) : sApp i f env = ownL i env fun os => (f env).st env fun r => if os.length < sizeLine then .nx (env.set i (some (.l (os ++ [r])))) else .no := rfl
@[simp] theorem sExt_eq (i : Nat) (f : Ev → R D) : sExt i f env = ownL i env fun os => (f env).st env fun d => (asL d).st env fun ds => if os.length + ds.length ≤ sizeLine then .nx (env.set i (some (.l (os ++ ds.map Ow.d)))) else .no := rfl
@[simp] theorem sPut_eq (i : Nat) (f : Ev → R Ow) (g : Ev → R D) : sPut i f g env = (f env).st env fun r => ownL i env fun os => (g env).st env (putAt i env os r) := rfl
@[simp] theorem ownL_0 (os : List Ow) (k : List Ow → SR) : ownL 0 (some (.l os) :: env) k = k os := rfl
@[simp] theorem ownL_1 (a : Option Ow) (os : List Ow) (k : List Ow → SR) : ownL 1 (a :: some (.l os) :: env) k = k os := rfl
@[simp] theorem ownL_2 (a b : Option Ow) (os : List Ow) (k : List Ow → SR) : ownL 2 (a :: b :: some (.l os) :: env) k = k os := rfl
@[simp] theorem ownL_3 (a b c : Option Ow) (os : List Ow) (k : List Ow → SR) : ownL 3 (a :: b :: c :: some (.l os) :: env) k = k os := rfl
@[simp] theorem ownL_4 (a b c d : Option Ow) (os : List Ow) (k : List Ow → SR) : ownL 4 (a :: b :: c :: d :: some (.l os) :: env) k = k os := rfl
@[simp] theorem ownL_5 (a b c d e : Option Ow) (os : List Ow) (k : List Ow → SR) : ownL 5 (a :: b :: c :: d :: e :: some (.l os) :: env) k = k os := rfl
@[simp] theorem ownL_6 (a b c d e f : Option Ow) (os : List Ow) (k : List Ow → SR) : ownL 6 (a :: b :: c :: d :: e :: f :: some (.l os) :: env) k = k os := rfl
@[simp] theorem gtName_eq (i : Nat) (d : D) : gtName i d env = if i < env.length then some (env.set i (some (.d d))) else none := rfl
@[simp] theorem gtTup_eq (n : Nat) (h : List D → Ev → Option Ev) (ds : List D) : gtTup n h (.tuple ds) env = if ds.length = n then h ds env else none := rfl
@[simp] theorem gtCons_eq (g : D → Ev → Option Ev) (h : List D → Ev → Option Ev) (d : D) (ds : List D) : gtCons g h (d :: ds) env = (g d env).bind (h ds) := rfl
@[simp] theorem gtNil_eq : gtNil [] env = some env := rfl
theorem guard_ok {c : Prop} {r : R α} (h : c) : guard c r = r := guard_pos h
@[simp] theorem guard_true {r : R α} : guard True r = r := guard_pos trivial
@[simp] theorem guard_small {a : Nat} {r : R α} (h : a ≤ sizeLine) : guard (a ≤ sizeLine) r = r := guard_pos h
end
@[simp] theorem gAddA_int (i j : Int) : gAddA (.int i) (.int j) = some (.int (i + j)) := rfl
@[simp] theorem gEq_int (i j : Int) : gEq (.int i) (.int j) = some (.bool (i == j)) := rfl
@[simp] theorem gNe_int (i j : Int) : gNe (.int i) (.int j) = some (.bool (!(i == j))) := rfl
@[simp] theorem gNeg_int (i : Int) : gNeg (.int i) = .ok (.int (-i)) := rfl
@[simp] theorem gIx_lst (ds : List D) (i : Int) : gIx (.list ds) (.int i) = atI ds i := rfl
@[simp] theorem gIsi_int_int (i : Int) : gIsi "int" (.int i) = .ok (.bool true) := by rfl
@[simp] theorem gIsi_bool_int (i : Int) : gIsi "bool" (.int i) = .ok (.bool false) := by first | rfl | decide +kernel | kernel_rfl
@[simp] theorem gIsi_list_list (ds : List D) : gIsi "list" (.list ds) = .ok (.bool true) := by rfl
@[simp] theorem gIsi_tup_tup (ds : List D) : gIsi "tuple" (.tuple ds) = .ok (.bool true) := by rfl
@[simp] theorem ixO_l (os : List Ow) (k : Int) : ixO (.l os) (.int k) = match atI os k with
    | some o => .ok o
    | none => .no := rfl
@[simp] theorem R.st_no {α : Type} (env : Ev) (f : α → SR) : (R.no : R α).st env f = .no := rfl
theorem atI_natD {α : Type} {xs : List α} {k : Nat} {x : α} (h : xs[k]? = some x) : atI xs (k : Int) = some x := by
  unfold atI ixN
  have hl := (List.getElem?_eq_some_iff.mp h).1
  rw [if_pos (by omega), if_pos (by omega)]
  simpa using h
theorem ixN_nat {n k : Nat} (h : k < n) : ixN n (k : Int) = some k := by
  unfold ixN
  rw [if_pos (by omega), if_pos (by omega)]
  simp
@[simp] theorem atI_0 {α : Type} (x : α) (xs : List α) : atI (x :: xs) 0 = some x := atI_natD (k := 0) rfl
@[simp] theorem atI_1 {α : Type} (x y : α) (xs : List α) : atI (x :: y :: xs) 1 = some y := atI_natD (k := 1) rfl
@[simp] theorem atI_2 {α : Type} (x y z : α) (xs : List α) : atI (x :: y :: z :: xs) 2 = some z := atI_natD (k := 2) rfl
@[simp] theorem atI_3 {α : Type} (x y z u : α) (xs : List α) : atI (x :: y :: z :: u :: xs) 3 = some u := atI_natD (k := 3) rfl
@[simp] theorem atI_4 {α : Type} (x y z u v : α) (xs : List α) : atI (x :: y :: z :: u :: v :: xs) 4 = some v := atI_natD (k := 4) rfl
theorem forL_ind {g : D → Ev → Option Ev} {f : Ev → SR} (items : List D) (I : Nat → Ev → Prop) (step : ∀ i d env, items[i]? = some d → I i env → ∃ env1, g d env = some env1 ∧ ∃ env2, (f env1 = .nx env2 ∨ f env1 = .ct env2) ∧ I (i + 1) env2) :
    ∀ env, I 0 env → ∃ env', forL g f items env = .nx env' ∧ I items.length env' := by
  suffices h : ∀ (ds : List D) (k : Nat) (env : Ev), items.drop k = ds → k ≤ items.length → I k env → ∃ env', forL g f ds env = .nx env' ∧ I items.length env' from fun env h0 => h items 0 env rfl (Nat.zero_le _) h0
  intro ds
  induction ds with
  | nil =>
    intro k env hd hk h
    have : k = items.length := by
      have := congrArg List.length hd
      simp at this
      omega
    subst this
    exact ⟨env, rfl, h⟩
  | cons d ds ih =>
    intro k env hd hk h
    have hk' : k < items.length := by
      have := congrArg List.length hd
      simp at this
      omega
    rw [List.drop_eq_getElem_cons hk'] at hd
    obtain ⟨e1, e2⟩ := List.cons.inj hd
    obtain ⟨env1, g1, env2, g2, g3⟩ := step k d env (by rw [List.getElem?_eq_getElem hk', e1]) h
    obtain ⟨env', r1, r2⟩ := ih (k + 1) env2 e2 hk' g3
    refine ⟨env', ?_, r2⟩
    unfold forL
    rw [g1]
    rcases g2 with g2 | g2 <;> (simp only; rw [g2]; exact r1)
theorem eLc_of {fi : Ev → R (List D)} {g : D → Ev → Option Ev} {c : Ev → R Bool} {e : Ev → R Ow} {vs : List Nat} {env : Ev} {ds : List D} {rs : List Ow} (h1 : fi env = .ok ds) (hl : ds.length ≤ sizeLine) (h2 : lcR g c e (wipeE env vs) ds = .ok rs) : eLc fi g c e vs env = .ok (.l rs) := by
  unfold eLc
  rw [h1, R.bind_ok, guard_ok hl, h2]
  rfl
def finR : SR → R Ow
  | .nx _ => .ok (.d .none)
  | .rt r _ => .ok r
  | .ex c _ => .ex c
  | _ => .no
theorem runB_fin (k : Nat) (f : Ev → SR) (ds : List D) : runB k f ds = finR (f (envOf k ds)) := by
  unfold runB
  cases f (envOf k ds) <;> rfl
@[simp] theorem finR_nx (env : Ev) : finR (.nx env) = .ok (.d .none) := rfl
@[simp] theorem finR_rt (r : Ow) (env : Ev) : finR (.rt r env) = .ok r := rfl
@[simp] theorem finR_ex (c : Str) (env : Ev) : finR (.ex c env) = .ex c := rfl
@[simp] theorem finR_no : finR .no = .no := rfl
@[simp] theorem envOf_nil (k : Nat) : envOf k [] = List.replicate k none := rfl
@[simp] theorem envOf_cons (k : Nat) (d : D) (ds : List D) : envOf k (d :: ds) = some (.d d) :: envOf k ds := rfl
end Mir
end
set_option Elab.async false
set_option linter.all false
set_option maxRecDepth 100000
set_option maxHeartbeats 4000000
noncomputable section
namespace Mir
open PySem PySem.Spec L2

section
variable {X : Cx} {W : WX} {S : Nat → Bool}
def sNo (_ : Ev) : SR := .no
open Classical in
variable {a b : Expr} {pos : Pos} {f g : Ev → R D}
end
@[simp] theorem sNo_eq (env : Ev) : sNo env = .no := rfl
end Mir
end
set_option Elab.async false
set_option linter.all false
set_option maxRecDepth 100000
noncomputable section
namespace Mir
open PySem PySem.Spec L2
@[simp] theorem ownL_7 (a0 a1 a2 a3 a4 a5 a6 : Option Ow) (os : List Ow) (env : Ev) (k : List Ow → SR) : ownL 7 (a0 :: a1 :: a2 :: a3 :: a4 :: a5 :: a6 :: some (.l os) :: env) k = k os := rfl
@[simp] theorem eVarO_8 (a0 a1 a2 a3 a4 a5 a6 a7 : Option Ow) (x : Ow) (env : Ev) : eVarO 8 (a0 :: a1 :: a2 :: a3 :: a4 :: a5 :: a6 :: a7 :: some x :: env) = .ok x := rfl
@[simp] theorem ownL_8 (a0 a1 a2 a3 a4 a5 a6 a7 : Option Ow) (os : List Ow) (env : Ev) (k : List Ow → SR) : ownL 8 (a0 :: a1 :: a2 :: a3 :: a4 :: a5 :: a6 :: a7 :: some (.l os) :: env) k = k os := rfl
@[simp] theorem eVarO_9 (a0 a1 a2 a3 a4 a5 a6 a7 a8 : Option Ow) (x : Ow) (env : Ev) : eVarO 9 (a0 :: a1 :: a2 :: a3 :: a4 :: a5 :: a6 :: a7 :: a8 :: some x :: env) = .ok x := rfl
@[simp] theorem ownL_9 (a0 a1 a2 a3 a4 a5 a6 a7 a8 : Option Ow) (os : List Ow) (env : Ev) (k : List Ow → SR) : ownL 9 (a0 :: a1 :: a2 :: a3 :: a4 :: a5 :: a6 :: a7 :: a8 :: some (.l os) :: env) k = k os := rfl
@[simp] theorem eVar_10 (a0 a1 a2 a3 a4 a5 a6 a7 a8 a9 : Option Ow) (x : D) (env : Ev) : eVar 10 (a0 :: a1 :: a2 :: a3 :: a4 :: a5 :: a6 :: a7 :: a8 :: a9 :: some (.d x) :: env) = .ok x := rfl
@[simp] theorem eVarO_10 (a0 a1 a2 a3 a4 a5 a6 a7 a8 a9 : Option Ow) (x : Ow) (env : Ev) : eVarO 10 (a0 :: a1 :: a2 :: a3 :: a4 :: a5 :: a6 :: a7 :: a8 :: a9 :: some x :: env) = .ok x := rfl
@[simp] theorem ownL_10 (a0 a1 a2 a3 a4 a5 a6 a7 a8 a9 : Option Ow) (os : List Ow) (env : Ev) (k : List Ow → SR) : ownL 10 (a0 :: a1 :: a2 :: a3 :: a4 :: a5 :: a6 :: a7 :: a8 :: a9 :: some (.l os) :: env) k = k os := rfl
@[simp] theorem eVar_11 (a0 a1 a2 a3 a4 a5 a6 a7 a8 a9 a10 : Option Ow) (x : D) (env : Ev) : eVar 11 (a0 :: a1 :: a2 :: a3 :: a4 :: a5 :: a6 :: a7 :: a8 :: a9 :: a10 :: some (.d x) :: env) = .ok x := rfl
@[simp] theorem eVarO_11 (a0 a1 a2 a3 a4 a5 a6 a7 a8 a9 a10 : Option Ow) (x : Ow) (env : Ev) : eVarO 11 (a0 :: a1 :: a2 :: a3 :: a4 :: a5 :: a6 :: a7 :: a8 :: a9 :: a10 :: some x :: env) = .ok x := rfl
@[simp] theorem ownL_11 (a0 a1 a2 a3 a4 a5 a6 a7 a8 a9 a10 : Option Ow) (os : List Ow) (env : Ev) (k : List Ow → SR) : ownL 11 (a0 :: a1 :: a2 :: a3 :: a4 :: a5 :: a6 :: a7 :: a8 :: a9 :: a10 :: some (.l os) :: env) k = k os := rfl
@[simp] theorem eVar_12 (a0 a1 a2 a3 a4 a5 a6 a7 a8 a9 a10 a11 : Option Ow) (x : D) (env : Ev) : eVar 12 (a0 :: a1 :: a2 :: a3 :: a4 :: a5 :: a6 :: a7 :: a8 :: a9 :: a10 :: a11 :: some (.d x) :: env) = .ok x := rfl
@[simp] theorem eVarO_12 (a0 a1 a2 a3 a4 a5 a6 a7 a8 a9 a10 a11 : Option Ow) (x : Ow) (env : Ev) : eVarO 12 (a0 :: a1 :: a2 :: a3 :: a4 :: a5 :: a6 :: a7 :: a8 :: a9 :: a10 :: a11 :: some x :: env) = .ok x := rfl
@[simp] theorem ownL_12 (a0 a1 a2 a3 a4 a5 a6 a7 a8 a9 a10 a11 : Option Ow) (os : List Ow) (env : Ev) (k : List Ow → SR) : ownL 12 (a0 :: a1 :: a2 :: a3 :: a4 :: a5 :: a6 :: a7 :: a8 :: a9 :: a10 :: a11 :: some (.l os) :: env) k = k os := rfl
@[simp] theorem eVar_13 (a0 a1 a2 a3 a4 a5 a6 a7 a8 a9 a10 a11 a12 : Option Ow) (x : D) (env : Ev) : eVar 13 (a0 :: a1 :: a2 :: a3 :: a4 :: a5 :: a6 :: a7 :: a8 :: a9 :: a10 :: a11 :: a12 :: some (.d x) :: env) = .ok x := rfl
@[simp] theorem eVarO_13 (a0 a1 a2 a3 a4 a5 a6 a7 a8 a9 a10 a11 a12 : Option Ow) (x : Ow) (env : Ev) : eVarO 13 (a0 :: a1 :: a2 :: a3 :: a4 :: a5 :: a6 :: a7 :: a8 :: a9 :: a10 :: a11 :: a12 :: some x :: env) = .ok x := rfl
@[simp] theorem ownL_13 (a0 a1 a2 a3 a4 a5 a6 a7 a8 a9 a10 a11 a12 : Option Ow) (os : List Ow) (env : Ev) (k : List Ow → SR) : ownL 13 (a0 :: a1 :: a2 :: a3 :: a4 :: a5 :: a6 :: a7 :: a8 :: a9 :: a10 :: a11 :: a12 :: some (.l os) :: env) k = k os := rfl
@[simp] theorem eVar_14 (a0 a1 a2 a3 a4 a5 a6 a7 a8 a9 a10 a11 a12 a13 : Option Ow) (x : D) (env : Ev) : eVar 14 (a0 :: a1 :: a2 :: a3 :: a4 :: a5 :: a6 :: a7 :: a8 :: a9 :: a10 :: a11 :: a12 :: a13 :: some (.d x) :: env) = .ok x := rfl
@[simp] theorem eVarO_14 (a0 a1 a2 a3 a4 a5 a6 a7 a8 a9 a10 a11 a12 a13 : Option Ow) (x : Ow) (env : Ev) : eVarO 14 (a0 :: a1 :: a2 :: a3 :: a4 :: a5 :: a6 :: a7 :: a8 :: a9 :: a10 :: a11 :: a12 :: a13 :: some x :: env) = .ok x := rfl
@[simp] theorem ownL_14 (a0 a1 a2 a3 a4 a5 a6 a7 a8 a9 a10 a11 a12 a13 : Option Ow) (os : List Ow) (env : Ev) (k : List Ow → SR) : ownL 14 (a0 :: a1 :: a2 :: a3 :: a4 :: a5 :: a6 :: a7 :: a8 :: a9 :: a10 :: a11 :: a12 :: a13 :: some (.l os) :: env) k = k os := rfl
@[simp] theorem eVar_15 (a0 a1 a2 a3 a4 a5 a6 a7 a8 a9 a10 a11 a12 a13 a14 : Option Ow) (x : D) (env : Ev) : eVar 15 (a0 :: a1 :: a2 :: a3 :: a4 :: a5 :: a6 :: a7 :: a8 :: a9 :: a10 :: a11 :: a12 :: a13 :: a14 :: some (.d x) :: env) = .ok x := rfl
@[simp] theorem eVarO_15 (a0 a1 a2 a3 a4 a5 a6 a7 a8 a9 a10 a11 a12 a13 a14 : Option Ow) (x : Ow) (env : Ev) : eVarO 15 (a0 :: a1 :: a2 :: a3 :: a4 :: a5 :: a6 :: a7 :: a8 :: a9 :: a10 :: a11 :: a12 :: a13 :: a14 :: some x :: env) = .ok x := rfl
@[simp] theorem ownL_15 (a0 a1 a2 a3 a4 a5 a6 a7 a8 a9 a10 a11 a12 a13 a14 : Option Ow) (os : List Ow) (env : Ev) (k : List Ow → SR) : ownL 15 (a0 :: a1 :: a2 :: a3 :: a4 :: a5 :: a6 :: a7 :: a8 :: a9 :: a10 :: a11 :: a12 :: a13 :: a14 :: some (.l os) :: env) k = k os := rfl
@[simp] theorem eVar_16 (a0 a1 a2 a3 a4 a5 a6 a7 a8 a9 a10 a11 a12 a13 a14 a15 : Option Ow) (x : D) (env : Ev) : eVar 16 (a0 :: a1 :: a2 :: a3 :: a4 :: a5 :: a6 :: a7 :: a8 :: a9 :: a10 :: a11 :: a12 :: a13 :: a14 :: a15 :: some (.d x) :: env) = .ok x := rfl
@[simp] theorem eVarO_16 (a0 a1 a2 a3 a4 a5 a6 a7 a8 a9 a10 a11 a12 a13 a14 a15 : Option Ow) (x : Ow) (env : Ev) : eVarO 16 (a0 :: a1 :: a2 :: a3 :: a4 :: a5 :: a6 :: a7 :: a8 :: a9 :: a10 :: a11 :: a12 :: a13 :: a14 :: a15 :: some x :: env) = .ok x := rfl
@[simp] theorem ownL_16 (a0 a1 a2 a3 a4 a5 a6 a7 a8 a9 a10 a11 a12 a13 a14 a15 : Option Ow) (os : List Ow) (env : Ev) (k : List Ow → SR) : ownL 16 (a0 :: a1 :: a2 :: a3 :: a4 :: a5 :: a6 :: a7 :: a8 :: a9 :: a10 :: a11 :: a12 :: a13 :: a14 :: a15 :: some (.l os) :: env) k = k os := rfl
@[simp] theorem eVar_17 (a0 a1 a2 a3 a4 a5 a6 a7 a8 a9 a10 a11 a12 a13 a14 a15 a16 : Option Ow) (x : D) (env : Ev) : eVar 17 (a0 :: a1 :: a2 :: a3 :: a4 :: a5 :: a6 :: a7 :: a8 :: a9 :: a10 :: a11 :: a12 :: a13 :: a14 :: a15 :: a16 :: some (.d x) :: env) = .ok x := rfl
@[simp] theorem eVarO_17 (a0 a1 a2 a3 a4 a5 a6 a7 a8 a9 a10 a11 a12 a13 a14 a15 a16 : Option Ow) (x : Ow) (env : Ev) : eVarO 17 (a0 :: a1 :: a2 :: a3 :: a4 :: a5 :: a6 :: a7 :: a8 :: a9 :: a10 :: a11 :: a12 :: a13 :: a14 :: a15 :: a16 :: some x :: env) = .ok x := rfl
@[simp] theorem ownL_17 (a0 a1 a2 a3 a4 a5 a6 a7 a8 a9 a10 a11 a12 a13 a14 a15 a16 : Option Ow) (os : List Ow) (env : Ev) (k : List Ow → SR) : ownL 17 (a0 :: a1 :: a2 :: a3 :: a4 :: a5 :: a6 :: a7 :: a8 :: a9 :: a10 :: a11 :: a12 :: a13 :: a14 :: a15 :: a16 :: some (.l os) :: env) k = k os := rfl
@[simp] theorem eVar_18 (a0 a1 a2 a3 a4 a5 a6 a7 a8 a9 a10 a11 a12 a13 a14 a15 a16 a17 : Option Ow) (x : D) (env : Ev) : eVar 18 (a0 :: a1 :: a2 :: a3 :: a4 :: a5 :: a6 :: a7 :: a8 :: a9 :: a10 :: a11 :: a12 :: a13 :: a14 :: a15 :: a16 :: a17 :: some (.d x) :: env) = .ok x := rfl
@[simp] theorem eVarO_18 (a0 a1 a2 a3 a4 a5 a6 a7 a8 a9 a10 a11 a12 a13 a14 a15 a16 a17 : Option Ow) (x : Ow) (env : Ev) : eVarO 18 (a0 :: a1 :: a2 :: a3 :: a4 :: a5 :: a6 :: a7 :: a8 :: a9 :: a10 :: a11 :: a12 :: a13 :: a14 :: a15 :: a16 :: a17 :: some x :: env) = .ok x := rfl
@[simp] theorem ownL_18 (a0 a1 a2 a3 a4 a5 a6 a7 a8 a9 a10 a11 a12 a13 a14 a15 a16 a17 : Option Ow) (os : List Ow) (env : Ev) (k : List Ow → SR) : ownL 18 (a0 :: a1 :: a2 :: a3 :: a4 :: a5 :: a6 :: a7 :: a8 :: a9 :: a10 :: a11 :: a12 :: a13 :: a14 :: a15 :: a16 :: a17 :: some (.l os) :: env) k = k os := rfl
@[simp] theorem eVar_19 (a0 a1 a2 a3 a4 a5 a6 a7 a8 a9 a10 a11 a12 a13 a14 a15 a16 a17 a18 : Option Ow) (x : D) (env : Ev) : eVar 19 (a0 :: a1 :: a2 :: a3 :: a4 :: a5 :: a6 :: a7 :: a8 :: a9 :: a10 :: a11 :: a12 :: a13 :: a14 :: a15 :: a16 :: a17 :: a18 :: some (.d x) :: env) = .ok x := rfl
@[simp] theorem eVarO_19 (a0 a1 a2 a3 a4 a5 a6 a7 a8 a9 a10 a11 a12 a13 a14 a15 a16 a17 a18 : Option Ow) (x : Ow) (env : Ev) : eVarO 19 (a0 :: a1 :: a2 :: a3 :: a4 :: a5 :: a6 :: a7 :: a8 :: a9 :: a10 :: a11 :: a12 :: a13 :: a14 :: a15 :: a16 :: a17 :: a18 :: some x :: env) = .ok x := rfl
@[simp] theorem ownL_19 (a0 a1 a2 a3 a4 a5 a6 a7 a8 a9 a10 a11 a12 a13 a14 a15 a16 a17 a18 : Option Ow) (os : List Ow) (env : Ev) (k : List Ow → SR) : ownL 19 (a0 :: a1 :: a2 :: a3 :: a4 :: a5 :: a6 :: a7 :: a8 :: a9 :: a10 :: a11 :: a12 :: a13 :: a14 :: a15 :: a16 :: a17 :: a18 :: some (.l os) :: env) k = k os := rfl
@[simp] theorem eVar_20 (a0 a1 a2 a3 a4 a5 a6 a7 a8 a9 a10 a11 a12 a13 a14 a15 a16 a17 a18 a19 : Option Ow) (x : D) (env : Ev) : eVar 20 (a0 :: a1 :: a2 :: a3 :: a4 :: a5 :: a6 :: a7 :: a8 :: a9 :: a10 :: a11 :: a12 :: a13 :: a14 :: a15 :: a16 :: a17 :: a18 :: a19 :: some (.d x) :: env) = .ok x := rfl
@[simp] theorem eVarO_20 (a0 a1 a2 a3 a4 a5 a6 a7 a8 a9 a10 a11 a12 a13 a14 a15 a16 a17 a18 a19 : Option Ow) (x : Ow) (env : Ev) : eVarO 20 (a0 :: a1 :: a2 :: a3 :: a4 :: a5 :: a6 :: a7 :: a8 :: a9 :: a10 :: a11 :: a12 :: a13 :: a14 :: a15 :: a16 :: a17 :: a18 :: a19 :: some x :: env) = .ok x := rfl
@[simp] theorem ownL_20 (a0 a1 a2 a3 a4 a5 a6 a7 a8 a9 a10 a11 a12 a13 a14 a15 a16 a17 a18 a19 : Option Ow) (os : List Ow) (env : Ev) (k : List Ow → SR) : ownL 20 (a0 :: a1 :: a2 :: a3 :: a4 :: a5 :: a6 :: a7 :: a8 :: a9 :: a10 :: a11 :: a12 :: a13 :: a14 :: a15 :: a16 :: a17 :: a18 :: a19 :: some (.l os) :: env) k = k os := rfl
@[simp] theorem eVar_21 (a0 a1 a2 a3 a4 a5 a6 a7 a8 a9 a10 a11 a12 a13 a14 a15 a16 a17 a18 a19 a20 : Option Ow) (x : D) (env : Ev) : eVar 21 (a0 :: a1 :: a2 :: a3 :: a4 :: a5 :: a6 :: a7 :: a8 :: a9 :: a10 :: a11 :: a12 :: a13 :: a14 :: a15 :: a16 :: a17 :: a18 :: a19 :: a20 :: some (.d x) :: env) = .ok x := rfl
@[simp] theorem eVarO_21 (a0 a1 a2 a3 a4 a5 a6 a7 a8 a9 a10 a11 a12 a13 a14 a15 a16 a17 a18 a19 a20 : Option Ow) (x : Ow) (env : Ev) : eVarO 21 (a0 :: a1 :: a2 :: a3 :: a4 :: a5 :: a6 :: a7 :: a8 :: a9 :: a10 :: a11 :: a12 :: a13 :: a14 :: a15 :: a16 :: a17 :: a18 :: a19 :: a20 :: some x :: env) = .ok x := rfl
@[simp] theorem ownL_21 (a0 a1 a2 a3 a4 a5 a6 a7 a8 a9 a10 a11 a12 a13 a14 a15 a16 a17 a18 a19 a20 : Option Ow) (os : List Ow) (env : Ev) (k : List Ow → SR) : ownL 21 (a0 :: a1 :: a2 :: a3 :: a4 :: a5 :: a6 :: a7 :: a8 :: a9 :: a10 :: a11 :: a12 :: a13 :: a14 :: a15 :: a16 :: a17 :: a18 :: a19 :: a20 :: some (.l os) :: env) k = k os := rfl
@[simp] theorem eVar_22 (a0 a1 a2 a3 a4 a5 a6 a7 a8 a9 a10 a11 a12 a13 a14 a15 a16 a17 a18 a19 a20 a21 : Option Ow) (x : D) (env : Ev) : eVar 22 (a0 :: a1 :: a2 :: a3 :: a4 :: a5 :: a6 :: a7 :: a8 :: a9 :: a10 :: a11 :: a12 :: a13 :: a14 :: a15 :: a16 :: a17 :: a18 :: a19 :: a20 :: a21 :: some (.d x) :: env) = .ok x := rfl
@[simp] theorem eVarO_22 (a0 a1 a2 a3 a4 a5 a6 a7 a8 a9 a10 a11 a12 a13 a14 a15 a16 a17 a18 a19 a20 a21 : Option Ow) (x : Ow) (env : Ev) : eVarO 22 (a0 :: a1 :: a2 :: a3 :: a4 :: a5 :: a6 :: a7 :: a8 :: a9 :: a10 :: a11 :: a12 :: a13 :: a14 :: a15 :: a16 :: a17 :: a18 :: a19 :: a20 :: a21 :: some x :: env) = .ok x := rfl
@[simp] theorem ownL_22 (a0 a1 a2 a3 a4 a5 a6 a7 a8 a9 a10 a11 a12 a13 a14 a15 a16 a17 a18 a19 a20 a21 : Option Ow) (os : List Ow) (env : Ev) (k : List Ow → SR) : ownL 22 (a0 :: a1 :: a2 :: a3 :: a4 :: a5 :: a6 :: a7 :: a8 :: a9 :: a10 :: a11 :: a12 :: a13 :: a14 :: a15 :: a16 :: a17 :: a18 :: a19 :: a20 :: a21 :: some (.l os) :: env) k = k os := rfl
@[simp] theorem eVar_23 (a0 a1 a2 a3 a4 a5 a6 a7 a8 a9 a10 a11 a12 a13 a14 a15 a16 a17 a18 a19 a20 a21 a22 : Option Ow) (x : D) (env : Ev) : eVar 23 (a0 :: a1 :: a2 :: a3 :: a4 :: a5 :: a6 :: a7 :: a8 :: a9 :: a10 :: a11 :: a12 :: a13 :: a14 :: a15 :: a16 :: a17 :: a18 :: a19 :: a20 :: a21 :: a22 :: some (.d x) :: env) = .ok x := rfl
@[simp] theorem eVarO_23 (a0 a1 a2 a3 a4 a5 a6 a7 a8 a9 a10 a11 a12 a13 a14 a15 a16 a17 a18 a19 a20 a21 a22 : Option Ow) (x : Ow) (env : Ev) : eVarO 23 (a0 :: a1 :: a2 :: a3 :: a4 :: a5 :: a6 :: a7 :: a8 :: a9 :: a10 :: a11 :: a12 :: a13 :: a14 :: a15 :: a16 :: a17 :: a18 :: a19 :: a20 :: a21 :: a22 :: some x :: env) = .ok x := rfl
@[simp] theorem ownL_23 (a0 a1 a2 a3 a4 a5 a6 a7 a8 a9 a10 a11 a12 a13 a14 a15 a16 a17 a18 a19 a20 a21 a22 : Option Ow) (os : List Ow) (env : Ev) (k : List Ow → SR) : ownL 23 (a0 :: a1 :: a2 :: a3 :: a4 :: a5 :: a6 :: a7 :: a8 :: a9 :: a10 :: a11 :: a12 :: a13 :: a14 :: a15 :: a16 :: a17 :: a18 :: a19 :: a20 :: a21 :: a22 :: some (.l os) :: env) k = k os := rfl
@[simp] theorem eVar_24 (a0 a1 a2 a3 a4 a5 a6 a7 a8 a9 a10 a11 a12 a13 a14 a15 a16 a17 a18 a19 a20 a21 a22 a23 : Option Ow) (x : D) (env : Ev) : eVar 24 (a0 :: a1 :: a2 :: a3 :: a4 :: a5 :: a6 :: a7 :: a8 :: a9 :: a10 :: a11 :: a12 :: a13 :: a14 :: a15 :: a16 :: a17 :: a18 :: a19 :: a20 :: a21 :: a22 :: a23 :: some (.d x) :: env) = .ok x := rfl
@[simp] theorem eVarO_24 (a0 a1 a2 a3 a4 a5 a6 a7 a8 a9 a10 a11 a12 a13 a14 a15 a16 a17 a18 a19 a20 a21 a22 a23 : Option Ow) (x : Ow) (env : Ev) : eVarO 24 (a0 :: a1 :: a2 :: a3 :: a4 :: a5 :: a6 :: a7 :: a8 :: a9 :: a10 :: a11 :: a12 :: a13 :: a14 :: a15 :: a16 :: a17 :: a18 :: a19 :: a20 :: a21 :: a22 :: a23 :: some x :: env) = .ok x := rfl
@[simp] theorem ownL_24 (a0 a1 a2 a3 a4 a5 a6 a7 a8 a9 a10 a11 a12 a13 a14 a15 a16 a17 a18 a19 a20 a21 a22 a23 : Option Ow) (os : List Ow) (env : Ev) (k : List Ow → SR) : ownL 24 (a0 :: a1 :: a2 :: a3 :: a4 :: a5 :: a6 :: a7 :: a8 :: a9 :: a10 :: a11 :: a12 :: a13 :: a14 :: a15 :: a16 :: a17 :: a18 :: a19 :: a20 :: a21 :: a22 :: a23 :: some (.l os) :: env) k = k os := rfl
@[simp] theorem eVar_25 (a0 a1 a2 a3 a4 a5 a6 a7 a8 a9 a10 a11 a12 a13 a14 a15 a16 a17 a18 a19 a20 a21 a22 a23 a24 : Option Ow) (x : D) (env : Ev) : eVar 25 (a0 :: a1 :: a2 :: a3 :: a4 :: a5 :: a6 :: a7 :: a8 :: a9 :: a10 :: a11 :: a12 :: a13 :: a14 :: a15 :: a16 :: a17 :: a18 :: a19 :: a20 :: a21 :: a22 :: a23 :: a24 :: some (.d x) :: env) = .ok x := rfl
@[simp] theorem eVarO_25 (a0 a1 a2 a3 a4 a5 a6 a7 a8 a9 a10 a11 a12 a13 a14 a15 a16 a17 a18 a19 a20 a21 a22 a23 a24 : Option Ow) (x : Ow) (env : Ev) : eVarO 25 (a0 :: a1 :: a2 :: a3 :: a4 :: a5 :: a6 :: a7 :: a8 :: a9 :: a10 :: a11 :: a12 :: a13 :: a14 :: a15 :: a16 :: a17 :: a18 :: a19 :: a20 :: a21 :: a22 :: a23 :: a24 :: some x :: env) = .ok x := rfl
@[simp] theorem ownL_25 (a0 a1 a2 a3 a4 a5 a6 a7 a8 a9 a10 a11 a12 a13 a14 a15 a16 a17 a18 a19 a20 a21 a22 a23 a24 : Option Ow) (os : List Ow) (env : Ev) (k : List Ow → SR) : ownL 25 (a0 :: a1 :: a2 :: a3 :: a4 :: a5 :: a6 :: a7 :: a8 :: a9 :: a10 :: a11 :: a12 :: a13 :: a14 :: a15 :: a16 :: a17 :: a18 :: a19 :: a20 :: a21 :: a22 :: a23 :: a24 :: some (.l os) :: env) k = k os := rfl
theorem fin_step {f g : Ev → SR} {env env1 : Ev} {o : R Ow} (h1 : f env = .nx env1) (h2 : finR (g env1) = o) : finR (sSeq f g env) = o := by
  rw [sSeq_eq, h1]
  exact h2
end Mir
end
set_option Elab.async false
set_option linter.all false
set_option maxRecDepth 100000
set_option maxHeartbeats 4000000
noncomputable section
namespace Mir
open PySem PySem.Spec L2

def PostX (K : PySem.W.Frag) {α β : Type} (P : Hp → α → β → Prop) (F H : Hp) (fp : List Addr) (σ : L2.St) : R (α × Ev) → (β → Hp → Prop) → Prop
  | .ok (a, env), Q => ∀ v F' H' fp', StepS F H fp F' H' fp' → Sat K F' H' σ env fp' → P F' a v → Q v H'
  | _, _ => False
def SmX (K : PySem.W.Frag) {α β : Type} (P : Hp → α → β → Prop) (t : L2.St → Hp → (β → Hp → Prop) → Prop) (f : Ev → R (α × Ev)) : Prop :=
  ∀ F H σ env fp Q, Sat K F H σ env fp → PostX K P F H fp σ (f env) Q → t σ H Q
def XD (K : PySem.W.Frag) (F : Hp) (d : D) (v : V) : Prop := Dp K F v d
section
variable {K : PySem.W.Frag} {α β γ δ : Type} {P : Hp → α → β → Prop} {P2 : Hp → γ → δ → Prop} {F H F1 H1 : Hp} {fp fp1 : List Addr} {σ : L2.St}
theorem PostX.step {r : R (α × Ev)} {Q : β → Hp → Prop} (h : PostX K P F H fp σ r Q) (s : StepS F H fp F1 H1 fp1) : PostX K P F1 H1 fp1 σ r Q := by
  cases r with
  | no => exact h
  | ex c => exact h
  | ok p => exact fun v F' H' fp' s' => h v F' H' fp' (s.trans s')
theorem SmX.go {t : L2.St → Hp → (β → Hp → Prop) → Prop} {f : Ev → R (α × Ev)} (s : SmX K P t f) {g : α × Ev → R (γ × Ev)} {env : Ev} {Q : δ → Hp → Prop} {T : β → Hp → Prop} (sat : Sat K F H σ env fp) (h : PostX K P2 F H fp σ ((f env).bind g) Q)
    (k : ∀ a env1 v F1 H1 fp1, StepS F H fp F1 H1 fp1 → Sat K F1 H1 σ env1 fp1 → P F1 a v → PostX K P2 F1 H1 fp1 σ (g (a, env1)) Q → T v H1) : t σ H T := by
  refine s F H σ env fp T sat ?_
  cases e : f env with
  | no => rw [e] at h; exact h
  | ex c => rw [e] at h; exact h
  | ok p =>
    obtain ⟨a, env1⟩ := p
    rw [e] at h
    exact fun v F' H' fp' st sat' q => k a env1 v F' H' fp' st sat' q (PostX.step (show PostX K P2 F H fp σ (g (a, env1)) Q from h) st)
end
section
variable (X : Cx)
def DXF (e : Expr) (f : Ev → R (D × Ev)) : Prop := ∃ t, PE X e t ∧ SmX X.K (XD X.K) t f
end
section
variable {X : Cx} {W : WX} {e a b : Expr} {es : List Expr} {pos p : Pos} {x : Str}
/-- a plain expression -/
def xP (f : Ev → R D) (env : Ev) : R (D × Ev) := match f env with
  | .ok d => .ok (d, env)
  | _ => .no
def xBin (g : D → D → Option D) (f h : Ev → R (D × Ev)) (env : Ev) : R (D × Ev) := (f env).bind fun p => (h p.2).bind fun q => (R.of (g p.1 q.1)).bind fun d => .ok (d, q.2)
def xNil (env : Ev) : R (List D × Ev) := .ok ([], env)
def xCons (f : Ev → R (D × Ev)) (g : Ev → R (List D × Ev)) (env : Ev) : R (List D × Ev) := (f env).bind fun p => (g p.2).bind fun q => .ok (p.1 :: q.1, q.2)
/-- a def that changes nothing, called -/
def xCall (m : List D → R Ow) (fa : Ev → R (List D × Ev)) (env : Ev) : R (D × Ev) := (fa env).bind fun p => match m p.1 with
  | .ok r => .ok (viewD r, p.2)
  | _ => .no
/-- the own list in slot i, changed by a step within it -/
theorem Sat.chg {K : PySem.W.Frag} {F H : Hp} {σ : L2.St} {env : Ev} {fp : List Addr} (sat : Sat K F H σ env fp) {i : Nat} {dk : List D} (hi : env[i]? = some (some (.l (dk.map Ow.d)))) : ∃ a vs, σ[i]? = some (some (.ref a)) ∧ F a = none ∧ H a = some (.lst vs) ∧ DpAll K F vs dk ∧
    ∀ F' H' vs' dk', StepS F H [a] F' H' [a] → Same F' H' → F' a = none → H' a = some (.lst vs') → DpAll K F' vs' dk' → ∃ fp', StepS F H fp F' H' fp' ∧ Sat K F' H' σ (env.set i (some (.l (dk'.map Ow.d)))) fp' := by
  have hl : i < env.length := (List.getElem?_eq_some_iff.mp hi).1
  obtain ⟨fr, fo0, a1, a2, a3, a3', a4, a5, a6⟩ := sat.en.put hl sat.nd
  obtain ⟨v, e1, e2⟩ := a5 _ hi
  cases e2 with
  | @l a vs _ fo h1 h2 h3 =>
    obtain ⟨dp, rfl⟩ := OwnAll.dp h3
    refine ⟨a, vs, e1, h1, h2, dp, fun F' H' vs' dk' st sf fa ha dp' => ?_⟩
    have na : a ∉ fr := a4 a List.mem_cons_self
    obtain ⟨fp', b1, b2, b3⟩ := (a6 F' H' [a] [a] st fun b hb z => na (by rw [← List.mem_singleton.mp z]; exact hb)).2 (.ref a) (.l (dk'.map Ow.d)) [a] (.l fa ha (OwnAll.of_dp dp')) (by simp) fun b hb => by rw [List.mem_singleton.mp hb]; exact na
    rw [set_self e1] at b3
    refine ⟨fp', ⟨st.ff, fun b o q n => st.fr b o q fun z => n (by rw [List.mem_singleton.mp z]; exact a2 a List.mem_cons_self), fun b o q => (st.fn b o q).imp id (.imp (fun z => by rw [List.mem_singleton.mp z]; exact a2 a List.mem_cons_self) id), fun b hb => ?_⟩, sf, b3, b1⟩
    rcases b2 b hb with q | q
    · rw [List.mem_singleton.mp q]; exact .inl (a2 a List.mem_cons_self)
    · exact .inl (a1 b q)
def lstAt (i : Nat) (env : Ev) : Option (List D) := match env[i]? with
  | some (some (.l os)) => unDs os
  | _ => none
theorem lstAt_eq {i : Nat} {env : Ev} {dk : List D} (h : lstAt i env = some dk) : env[i]? = some (some (.l (dk.map Ow.d))) := by
  unfold lstAt at h
  split at h
  · rename_i os e
    rw [e, unDs_eq h]
  · cases h
theorem pop_step {F H : Hp} {a : Addr} {vs vs' : List V} (s : Same F H) (h : H a = some (.lst vs)) : StepS F H [a] F (upd H a (.lst vs')) [a] :=
  ⟨Same.refl _, fun b o e n => by rw [upd_ne (fun z => n (by simp [z]))]; exact e, fun b o e => .inl e, fun b z => .inl z⟩
end
end Mir
end
set_option Elab.async false
set_option linter.all false
set_option maxRecDepth 100000
set_option maxHeartbeats 4000000
noncomputable section
namespace Mir
open PySem PySem.Spec L2

def tOfX (K : PySem.W.Frag) (f : Ev → R (D × Ev)) : TE := fun σ H Q => ∃ F env fp, Sat K F H σ env fp ∧ PostX K (XD K) F H fp σ (f env) Q
theorem DXF.can {X : Cx} {e : Expr} {f : Ev → R (D × Ev)} (h : DXF X e f) : PE X e (tOfX X.K f) := by
  obtain ⟨t, p, s⟩ := h
  refine PE.imp p ?_
  rintro σ H Q ⟨F, env, fp, sat, h⟩
  exact s F H σ env fp Q sat h
section
variable {X : Cx} {W : WX} {S : Nat → Bool} {pos : Pos}
def xSet (i : Nat) (r : R (D × Ev)) : SR := match r with
  | .ok (d, env1) => if i < env1.length then .nx (env1.set i (some (.d d))) else .no
  | _ => .no
def sXSet (i : Nat) (f : Ev → R (D × Ev)) (env : Ev) : SR := xSet i (f env)
theorem put_stepX {K : PySem.W.Frag} {F H F1 H1 : Hp} {σ : L2.St} {env env1 : Ev} {fp fp1 : List Addr} {i : Nat} {v : V} {d : D} (sat : Sat K F1 H1 σ env1 fp1) (st : StepS F H fp F1 H1 fp1) (h : Dp K F1 v d) (hi : i < env1.length) :
    ∃ fp', StepS F H fp F1 H1 fp' ∧ Sat K F1 H1 (σ.set i (some v)) (env1.set i (some (.d d))) fp' := by
  obtain ⟨fp', s1, s2⟩ := sat.put hi (OwnAt.d h) List.nodup_nil (fun _ z => nomatch z)
  exact ⟨fp', st.subset fun b hb => (s2 b hb).elim (fun z => nomatch z) id, s1⟩
theorem xset_post {F H : Hp} {σ : L2.St} {env : Ev} {fp : List Addr} {D' : Ends} {i : Nat} {f : Ev → R (D × Ev)} (hS : S i = true) (h : PostS X W S σ F H fp D' (sXSet i f env)) : PostX X.K (XD X.K) F H fp σ (f env) fun v H' => D'.nx (σ.set i (some v)) H' := by
  unfold sXSet xSet at h
  cases e : f env with
  | no => rw [e] at h; exact h
  | ex c => rw [e] at h; exact h
  | ok p =>
    obtain ⟨d, env1⟩ := p
    rw [e] at h
    intro v F' H' fp' st sat q
    have h' : PostS X W S σ F H fp D' (if i < env1.length then .nx (env1.set i (some (.d d))) else .no) := h
    split at h'
    · obtain ⟨fp2, s1, s2⟩ := put_stepX (env := env) sat st q ‹_›
      exact h' _ F' H' fp2 (.set hS _) s1 s2
    · exact h'.elim
theorem ds_xset {e : Expr} {f : Ev → R (D × Ev)} {x : Str} {pos' : Pos} (i : Nat) (hN : X.N.Nodup) (he : DXF X e f) (hi : X.N[i]? = some x := by rfl) (hx : Loc X.env.scope x := by first | exact Or.inl rfl | exact Or.inr rfl)
    (hs : swapsWith e (some (.Name x pos')) pos.line X.env = pure false := by rfl) (hf : X.fn x = true ∨ X.env.scope.names.lookup x = some .local := by first | exact .inl rfl | exact .inr rfl | assumption) (hS : S i = true := by rfl) : DS X W S (.Assign [.Name x pos'] e pos) (sXSet i f) := by
  obtain ⟨t, p, s⟩ := he
  exact ⟨_, ps_set hN hi hx p hs hf, fun F H σ env fp D sat h => s F H σ env fp _ sat (xset_post hS h)⟩
def sXRet (f : Ev → R (D × Ev)) (env : Ev) : SR := match f env with
  | .ok (d, env1) => .rt (.d d) env1
  | _ => .no
/-- tuple(e), list handed -/
def xCa (g : List D → Option Ow) (fa : Ev → R (List D × Ev)) (env : Ev) : R (D × Ev) := (fa env).bind fun p => match g p.1 with
  | some r => .ok (viewD r, p.2)
  | none => .no
end
section
variable {P : Program} {w : World} {K : PySem.W.Frag} {mg : Str → Option Value} {base : Heap}
end
end Mir
end
set_option Elab.async false
set_option linter.all false
set_option maxRecDepth 100000
set_option maxHeartbeats 4000000
noncomputable section
namespace RT
open PySem PySem.Spec PyProof.Rows
section
variable {prog : Program} {w : World} {A : Around} {E : Value → Shared → Prop} {s : Shared}
end
end RT
namespace Mir
open PySem PySem.Spec PyProof.Rows L2 RT
section
variable {X : Cx} {W : WX}
def gListRev : D → Option Ow
  | .list ds => some (.l (ds.reverse.map Ow.d))
  | _ => none
@[simp] theorem gListRev_list (ds : List D) : gListRev (.list ds) = some (.l (ds.reverse.map Ow.d)) := rfl
theorem DpAll.reverse {K : PySem.W.Frag} {H : Hp} : ∀ {ds : List D} {vs : List V}, DpAll K H vs ds → DpAll K H vs.reverse ds.reverse
  | [], _, h => by cases h; exact .nil
  | d :: ds, _, h => by
    cases h with
    | cons h1 h2 =>
      rw [List.reverse_cons, List.reverse_cons]
      exact Mir.DpAll.append (DpAll.reverse h2) (.cons h1 .nil)
def eListRev (f : Ev → R D) (env : Ev) : R Ow := (f env).bind fun d => R.of (gListRev d)
@[simp] theorem eListRev_eq (f : Ev → R D) (env : Ev) : eListRev f env = (f env).bind fun d => R.of (gListRev d) := rfl
end
end Mir
end
set_option Elab.async false
set_option linter.all false
set_option maxRecDepth 100000
set_option maxHeartbeats 4000000
noncomputable section
namespace Mir
open PySem PySem.Spec PyProof.Rows L2
def repS (z : Str) (n : Nat) : Str := ⟨(List.replicate n z.cps.toList).flatten.toArray⟩
section
variable {X : Cx} {W : WX} {a b : Expr} {pos : Pos} {f g : Ev → R D}
def gMulS : D → D → Option D
  | .int i, .int j => gMul (.int i) (.int j)
  | .str z, .int n => if 1 ≤ n ∧ n ≤ 1000000 ∧ z.length * n.toNat ≤ sizeLine then some (.str (repS z n.toNat)) else none
  | _, _ => none
@[simp] theorem gMulS_int (i j : Int) : gMulS (.int i) (.int j) = gMul (.int i) (.int j) := rfl
def gIsB : D → D → Option D
  | .bool p, .bool q => some (.bool (p == q))
  | _, _ => none
def gNotB : D → D → Option D
  | .bool p, .bool q => some (.bool (!(p == q)))
  | _, _ => none
@[simp] theorem gIsB_bool (p q : Bool) : gIsB (.bool p) (.bool q) = some (.bool (p == q)) := rfl
@[simp] theorem gNotB_bool (p q : Bool) : gNotB (.bool p) (.bool q) = some (.bool (!(p == q))) := rfl
section
variable {F G : Ev → R (D × Ev)}
end
end
end Mir
end
set_option Elab.async false
set_option linter.all false
set_option maxRecDepth 100000
set_option maxHeartbeats 4000000
noncomputable section
namespace Mir
open PySem PySem.Spec L2
section
variable {X : Cx} {W : WX} {S : Nat → Bool} {pos : Pos}
/-- a target stored from an expression that changes own lists -/
def sXAsg (g : D → Ev → Option Ev) (f : Ev → R (D × Ev)) (env : Ev) : SR := match f env with
  | .ok (d, env1) => match g d env1 with
    | some env2 => .nx env2
    | none => .no
  | _ => .no
end
def flatD : D → Bool
  | .none => true
  | .bool _ => true
  | .int _ => true
  | .str _ => true
  | _ => false
def flatR : R Ow → R D
  | .ok (.d x) => if flatD x = true then .ok x else .no
  | .ex c => .ex c
  | _ => .no
def eCallV (m : List D → R Ow) (fa : Ev → R (List D)) (env : Ev) : R D := (fa env).bind fun ds => flatR (m ds)
@[simp] theorem eCallV_eq (m : List D → R Ow) (fa : Ev → R (List D)) (env : Ev) : eCallV m fa env = (fa env).bind fun ds => flatR (m ds) := rfl
@[simp] theorem flatR_bool (b : Bool) : flatR (.ok (.d (.bool b))) = .ok (.bool b) := rfl
@[simp] theorem flatR_int (b : Int) : flatR (.ok (.d (.int b))) = .ok (.int b) := rfl
@[simp] theorem flatR_none : flatR (.ok (.d .none)) = .ok .none := rfl
section
variable {X : Cx} {W : WX} {e : Expr} {es : List Expr} {pos p : Pos}
end
section
variable (env : Ev)
theorem lstAt_of {i : Nat} {env : Ev} {dk : List D} (h : env[i]? = some (some (.l (dk.map Ow.d)))) : lstAt i env = some dk := by unfold lstAt; rw [h]; exact unDs_map dk
@[simp] theorem lstAt_0 (dk : List D) : lstAt 0 (some (.l (dk.map Ow.d)) :: env) = some dk := lstAt_of rfl
@[simp] theorem lstAt_0n : lstAt 0 (some (.l []) :: env) = some [] := rfl
@[simp] theorem lstAt_s (i : Nat) (x : Option Ow) : lstAt (i + 1) (x :: env) = lstAt i env := by unfold lstAt; rw [List.getElem?_cons_succ]
@[simp] theorem xP_eq (f : Ev → R D) : xP f env = match f env with
  | .ok d => .ok (d, env)
  | _ => .no := rfl
@[simp] theorem xBin_eq (g : D → D → Option D) (f h : Ev → R (D × Ev)) : xBin g f h env = (f env).bind fun p => (h p.2).bind fun q => (R.of (g p.1 q.1)).bind fun d => .ok (d, q.2) := rfl
@[simp] theorem xNil_eq : xNil env = .ok ([], env) := rfl
@[simp] theorem xCons_eq (f : Ev → R (D × Ev)) (g : Ev → R (List D × Ev)) : xCons f g env = (f env).bind fun p => (g p.2).bind fun q => .ok (p.1 :: q.1, q.2) := rfl
@[simp] theorem xCall_eq (m : List D → R Ow) (fa : Ev → R (List D × Ev)) : xCall m fa env = (fa env).bind fun p => match m p.1 with
  | .ok r => .ok (viewD r, p.2)
  | _ => .no := rfl
@[simp] theorem xCa_eq (g : List D → Option Ow) (fa : Ev → R (List D × Ev)) : xCa g fa env = (fa env).bind fun p => match g p.1 with
  | some r => .ok (viewD r, p.2)
  | none => .no := rfl
@[simp] theorem sXSet_eq (i : Nat) (f : Ev → R (D × Ev)) : sXSet i f env = match f env with
  | .ok (d, env1) => if i < env1.length then .nx (env1.set i (some (.d d))) else .no
  | _ => .no := by unfold sXSet xSet; rfl
@[simp] theorem sXRet_eq (f : Ev → R (D × Ev)) : sXRet f env = match f env with
  | .ok (d, env1) => .rt (.d d) env1
  | _ => .no := rfl
@[simp] theorem sXAsg_eq (g : D → Ev → Option Ev) (f : Ev → R (D × Ev)) : sXAsg g f env = match f env with
  | .ok (d, env1) => match g d env1 with
    | some env2 => .nx env2
    | none => .no
  | _ => .no := rfl
end
end Mir
end
set_option Elab.async false
set_option linter.all false
set_option maxRecDepth 100000
set_option maxHeartbeats 4000000
noncomputable section
namespace Mir
open PySem PySem.Spec PyProof.Rows L2
def strsD : List D → Option (List Str)
  | [] => some []
  | .str z :: ds => (strsD ds).map fun zs => z :: zs
  | _ :: _ => none
theorem strsD_map : ∀ zs : List Str, strsD (zs.map PyData.str) = some zs
  | [] => rfl
  | z :: zs => by rw [List.map_cons, strsD, strsD_map zs]; rfl
theorem strsD_dp {K : PySem.W.Frag} {F : Hp} : ∀ {ds : List D} {vs : List V} {zs : List Str}, DpAll K F vs ds → strsD ds = some zs → vs = zs.map V.str
  | [], vs, zs, h, e => by cases h; cases e; rfl
  | d :: ds, vs, zs, h, e => by
    cases h with
    | cons h1 h2 =>
      unfold strsD at e
      split at e
      · rename_i he; cases he
      · rename_i z ds' he
        cases he
        obtain ⟨ws, w1, rfl⟩ := Option.map_eq_some_iff.mp e
        rw [strsD_dp h2 w1, List.map_cons]
        cases dp_str h1
        rfl
      · cases e
def joinS (a : Str) (ys : List Str) : Option D := open Classical in if (ys.map (·.length)).sum + ys.length * a.length ≤ 16777216 then some (.str (Txt.join a ys)) else none
def gJoin : D → D → Option D
  | .str a, .list ds => (strsD ds).bind (joinS a)
  | .str a, .tuple ds => (strsD ds).bind (joinS a)
  | _, _ => none
theorem joinS_ok {a : Str} {ys : List Str} (h : (ys.map (·.length)).sum + ys.length * a.length ≤ 16777216) : joinS a ys = some (.str (Txt.join a ys)) := by
  unfold joinS
  rw [if_pos h]
theorem gJoin_list {a : Str} {ys : List Str} (h : (ys.map (·.length)).sum + ys.length * a.length ≤ 16777216) : gJoin (.str a) (.list (ys.map PyData.str)) = some (.str (Txt.join a ys)) := by
  show (strsD _).bind _ = _
  rw [strsD_map]
  exact joinS_ok h
def eJoin (f g : Ev → R D) (env : Ev) : R D := (f env).bind fun d => match d with
  | .str z => (g env).bind fun d' => R.of (gJoin (.str z) d')
  | _ => .no
theorem eJoin_eq {f g : Ev → R D} {env : Ev} {a : Str} {d : D} (h : f env = .ok (.str a)) (h2 : g env = .ok d) : eJoin f g env = R.of (gJoin (.str a) d) := by
  unfold eJoin
  rw [h, R.bind_ok]
  simp only [h2, R.bind_ok]
section
variable {X : Cx} {W : WX} {o e : Expr} {apos pos : Pos} {f g : Ev → R D}
theorem joinS_some {a : Str} {ys : List Str} {d : D} (h : joinS a ys = some d) : (ys.map (·.length)).sum + ys.length * a.length ≤ 16777216 ∧ d = .str (Txt.join a ys) := by
  unfold joinS at h
  split at h
  · rename_i c
    exact ⟨c, (Option.some.inj h).symm⟩
  · cases h
theorem df_join (ho : DV X W o f) (he : DL X W e g)
    (hs : starEach [e] X.env = [(false, eval e X.env)] := by rfl)
    (hb : attributeBase o (Str.ofString "join") X.env (eval o X.env) = eval o X.env := by rfl)
    (hp : (apos.endLine == pos.line) = true := by rfl) : DF X W (.Call (.Attribute o "join" apos) [e] [] pos) (eJoin f g) := by
  obtain ⟨ta, pa, sa⟩ := ho
  obtain ⟨tb, pb, sb⟩ := he
  refine ⟨_, pe_join pa pb hs hb hp, fun F H σ env fp Q sat hp => ?_⟩
  refine sa.go sat hp fun d v F1 H1 sat1 q _ h1 => ?_
  have key : ∀ z, d = .str z → (∃ a, v = V.str a) := fun z hz => by subst hz; cases dp_str q; exact ⟨_, rfl⟩
  cases d with
  | str z =>
    refine ⟨key z rfl, ?_⟩
    cases dp_str q
    refine sb.go sat1 h1 fun d' v' F2 H2 sat2 q' x2 h2 => ?_
    obtain ⟨r, hr, h3⟩ := post_of h2
    cases d' with
    | list ds =>
      obtain ⟨ys, y1, y2⟩ := Option.bind_eq_some_iff.mp hr
      obtain ⟨c, rfl⟩ := joinS_some y2
      obtain ⟨p, vs, rfl, p1, p2⟩ := q'
      have ev := strsD_dp p2 y1
      subst ev
      exact ⟨z, p, ys, rfl, rfl, .inl p1, c, h3 _ _ _ (.refl sat2.fh) (.str _)⟩
    | tuple ds =>
      obtain ⟨ys, y1, y2⟩ := Option.bind_eq_some_iff.mp hr
      obtain ⟨c, rfl⟩ := joinS_some y2
      obtain ⟨p, vs, rfl, p1, p2⟩ := dp_tup q'
      have ev := strsD_dp p2 y1
      subst ev
      exact ⟨z, p, ys, rfl, rfl, .inr (SqT_mono sat2.fh p1), c, h3 _ _ _ (.refl sat2.fh) (.str _)⟩
    | _ => cases hr
  | _ => exact h1.elim
end
end Mir
end
set_option Elab.async false
set_option linter.all false
set_option maxRecDepth 100000
set_option maxHeartbeats 4000000
noncomputable section
namespace Mir
open PySem PySem.Spec PyProof.Rows L2
section
variable {X : Cx} {W : WX} {S : Nat → Bool} {e a b : Expr} {es : List Expr} {pos p : Pos} {x : Str}
def xTup (f : Ev → R (List D × Ev)) (env : Ev) : R (D × Ev) := (f env).bind fun p => guard (p.1.length ≤ sizeLine) (.ok (.tuple p.1, p.2))
def xBinO (g : D → D → Option Ow) (f h : Ev → R (D × Ev)) (env : Ev) : R (D × Ev) := (f env).bind fun p => (h p.2).bind fun q => (R.of (g p.1 q.1)).bind fun o => .ok (viewD o, q.2)
def xRg1 (f : Ev → R (List D × Ev)) (env : Ev) : R (List D × Ev) := (f env).bind fun p => (rg1 p.1).bind fun ds => .ok (ds, p.2)
end
section
variable {X : Cx} {W : WX} {S : Nat → Bool} {e : Expr} {pos cpos apos npos : Pos} {x : Str}
section
variable (env : Ev)
@[simp] theorem xTup_eq (f : Ev → R (List D × Ev)) : xTup f env = (f env).bind fun p => guard (p.1.length ≤ sizeLine) (.ok (.tuple p.1, p.2)) := rfl
@[simp] theorem xBinO_eq (g : D → D → Option Ow) (f h : Ev → R (D × Ev)) : xBinO g f h env = (f env).bind fun p => (h p.2).bind fun q => (R.of (g p.1 q.1)).bind fun o => .ok (viewD o, q.2) := rfl
@[simp] theorem xRg1_eq (f : Ev → R (List D × Ev)) : xRg1 f env = (f env).bind fun p => (rg1 p.1).bind fun ds => .ok (ds, p.2) := rfl
end
end
end Mir
end
set_option Elab.async false
set_option linter.all false
set_option maxRecDepth 100000
set_option maxHeartbeats 4000000
noncomputable section
namespace Mir
open PySem PySem.Spec PyProof.Rows L2
def pairsD : List D → Option (List (Str × D))
  | [] => some []
  | .tuple [.str k, v] :: ds => (pairsD ds).map fun r => (k, v) :: r
  | _ :: _ => none
/-- the last pair of the key -/
def lastP : List (Str × D) → Str → Option D
  | [], _ => none
  | p :: ps, k => (lastP ps k).or (if p.1 = k then some p.2 else none)
def asPairs : D → Option (List (Str × D))
  | .list ds => pairsD ds
  | _ => none
def lookP (ps : List (Str × D)) : D → Option D
  | .str k => lastP ps k
  | _ => none
def eDictIx (f g : Ev → R D) (env : Ev) : R D := (f env).bind fun d => match asPairs d with
  | none => .no
  | some ps => (g env).bind fun k => R.of (lookP ps k)
def inP (ps : List (Str × D)) (no : Bool) : D → Option D
  | .str k => some (.bool ((lastP ps k).isSome != no))
  | _ => none
def eInDict (no : Bool) (g f : Ev → R D) (env : Ev) : R D := (g env).bind fun k => (f env).bind fun d => match asPairs d with
  | none => .no
  | some ps => R.of (inP ps no k)
@[simp] theorem eDictIx_eq (f g : Ev → R D) (env : Ev) : eDictIx f g env = (f env).bind fun d => match asPairs d with
  | none => .no
  | some ps => (g env).bind fun k => R.of (lookP ps k) := rfl
@[simp] theorem eInDict_eq (no : Bool) (g f : Ev → R D) (env : Ev) : eInDict no g f env = (g env).bind fun k => (f env).bind fun d => match asPairs d with
  | none => .no
  | some ps => R.of (inP ps no k) := rfl
@[simp] theorem lookP_str (ps : List (Str × D)) (k : Str) : lookP ps (.str k) = lastP ps k := rfl
@[simp] theorem inP_str (ps : List (Str × D)) (no : Bool) (k : Str) : inP ps no (.str k) = some (.bool ((lastP ps k).isSome != no)) := rfl
theorem pairsD_map {α : Type} (f : α → Str) (g : α → D) : ∀ xs : List α, pairsD (xs.map fun x => .tuple [.str (f x), g x]) = some (xs.map fun x => (f x, g x))
  | [] => rfl
  | x :: xs => by rw [List.map_cons, pairsD, pairsD_map f g xs]; rfl
/-- the pairs as the dict has them -/
def KV (K : PySem.W.Frag) (F : Hp) (kv : Key × V) (p : Str × D) : Prop := kv.1 = Sum.inr p.1 ∧ Dp K F kv.2 p.2
theorem pairs_dp {K : PySem.W.Frag} {F : Hp} : ∀ {ds : List D} {xs : List V} {ps : List (Str × D)}, DpAll K F xs ds → pairsD ds = some ps →
    ∃ (as : List Addr) (kvs : List (Key × V)), xs = as.map V.ref ∧ Paired (fun a kv => SqT K F a [kV kv.1, kv.2]) as kvs ∧ Paired (KV K F) kvs ps
  | [], xs, ps, h, e => by
    cases h
    cases e
    exact ⟨[], [], rfl, .nil, .nil⟩
  | d :: ds, xs, ps, h, e => by
    cases h with
    | cons h1 h2 =>
      unfold pairsD at e
      split at e
      · rename_i he; cases he
      · rename_i k v ds' he
        cases he
        obtain ⟨r, r1, rfl⟩ := Option.map_eq_some_iff.mp e
        obtain ⟨as, kvs, a1, a2, a3⟩ := pairs_dp h2 r1
        obtain ⟨a, vs, rfl, q1, q2⟩ := dp_tup h1
        obtain ⟨u, w, rfl, w1, w2⟩ := daf2 q2
        cases dp_str w1
        exact ⟨a :: as, (Sum.inr k, w) :: kvs, by rw [a1]; rfl, .cons q1 a2, .cons ⟨rfl, w2⟩ a3⟩
      · cases e
theorem paired_up {K : PySem.W.Frag} {F H : Hp} (s : Same F H) : ∀ {as : List Addr} {kvs : List (Key × V)}, Paired (fun a kv => SqT K F a [kV kv.1, kv.2]) as kvs → Paired (fun a kv => SqT K H a [kV kv.1, kv.2]) as kvs
  | _, _, .nil => .nil
  | _, _, .cons h t => .cons (SqT_mono s h) (paired_up s t)
theorem merge_none {K : PySem.W.Frag} {F : Hp} (k : Str) : ∀ {kvs : List (Key × V)} {ps : List (Str × D)} (acc : List (Key × V)), Paired (KV K F) kvs ps → lastP ps k = none → valV (mergeK acc kvs) (Sum.inr k) = valV acc (Sum.inr k)
  | _, _, acc, .nil, _ => rfl
  | kv :: kvs, p :: ps, acc, .cons h t, hl => by
    have e : mergeK acc (kv :: kvs) = mergeK (putK acc kv.1 kv.2) kvs := rfl
    rw [e]
    unfold lastP at hl
    cases hl2 : lastP ps k with
    | some d' => rw [hl2] at hl; cases hl
    | none =>
      rw [hl2] at hl
      simp only [Option.none_or] at hl
      split at hl
      · cases hl
      · rename_i c
        rw [merge_none k (putK acc kv.1 kv.2) t hl2, valV_put, if_neg (by
          rw [h.1]
          exact fun z => c (Sum.inr.inj z).symm)]
theorem merge_some {K : PySem.W.Frag} {F : Hp} (k : Str) : ∀ {kvs : List (Key × V)} {ps : List (Str × D)} (acc : List (Key × V)) (d : D), Paired (KV K F) kvs ps → lastP ps k = some d → ∃ v, valV (mergeK acc kvs) (Sum.inr k) = some v ∧ Dp K F v d
  | _, _, acc, d, .nil, h => by cases h
  | kv :: kvs, p :: ps, acc, d, .cons h t, hl => by
    have e : mergeK acc (kv :: kvs) = mergeK (putK acc kv.1 kv.2) kvs := rfl
    rw [e]
    unfold lastP at hl
    cases hl2 : lastP ps k with
    | some d' =>
      rw [hl2] at hl
      cases hl
      exact merge_some k (putK acc kv.1 kv.2) d t hl2
    | none =>
      rw [hl2] at hl
      simp only [Option.none_or] at hl
      split at hl
      · rename_i c
        cases hl
        have := merge_none k (putK acc kv.1 kv.2) t hl2
        rw [valV_put, if_pos (by rw [h.1, c])] at this
        exact ⟨kv.2, this, h.2⟩
      · cases hl
section
variable {X : Cx} {W : WX} {e key : Expr} {p pos cpos : Pos} {f g : Ev → R D}
theorem df_dictIx (hc : X.calm = true) (hu : X.A.units + 140 < cLine) (hg : Gl X "dict") (hm : X.mg "dict" = none) (ha : DL X W e f) (hb : DV X W key g) (hs : NoSl key := by exact fun _ _ => rfl)
    (he : starEach [e] X.env = (false, eval e X.env) :: starEach [] X.env := by rfl) : DF X W (.Subscript (.Call (.Name "dict" p) [e] [] cpos) key pos) (eDictIx f g) := by
  obtain ⟨ta, pa, sa⟩ := ha
  obtain ⟨tb, pb, sb⟩ := hb
  refine ⟨_, pe_dget (by omega) (pe_callTy (call_dictP hc) hg hm (by decide +kernel) (pa_cons pa pa_nil he) (by decide) (by decide) he rfl) pb hs, fun F H σ env fp Q sat hp => ?_⟩
  refine sa.go sat hp fun d v F1 H1 sat1 q _ h1 => ?_
  cases hps : asPairs d with
  | none => rw [hps] at h1; exact h1.elim
  | some ps =>
  rw [hps] at h1
  simp only at h1
  cases d with
  | list ds =>
    obtain ⟨a, xs, rfl, q1, q2⟩ := q
    obtain ⟨as, kvs, rfl, k1, k2⟩ := pairs_dp q2 hps
    refine ⟨a, as, kvs, rfl, q1, paired_up sat1.fh k1, fun p hpn => ?_⟩
    have x2 := Ext.own sat1.fh hpn (.dK (mergeK [] kvs))
    refine sb.go (sat1.ext x2) (Post.ext h1 x2) fun d' w F2 H2 sat2 q' x3 h2 => ?_
    obtain ⟨z, hz, h3⟩ := post_of h2
    cases d' with
    | str k =>
      cases dp_str q'
      obtain ⟨u, u1, u2⟩ := merge_some k [] z k2 hz
      exact ⟨p, u, rfl, .inl ⟨_, Sum.inr k, .inl (x3.hh _ _ upd_same), rfl, u1.symm⟩, h3 u F2 H2 (.refl sat2.fh) (dpUp u2 x3.ff)⟩
    | _ => cases hz
  | _ => cases hps
end
section
variable {X : Cx} {W : WX} {a b c : Expr} {pos : Pos} {f g h : Ev → R D}
end
end Mir
end
set_option Elab.async false
set_option linter.all false
set_option maxRecDepth 100000
set_option maxHeartbeats 4000000
noncomputable section
namespace Mir
open PySem PySem.Spec PyProof.Rows L2
theorem fits (x : Int) (h : -(2 ^ 62) ≤ x) (h' : x < 2 ^ 62) : Builtin.Range.rangeFitsLong x = true := by
  unfold Builtin.Range.rangeFitsLong
  simp only [Bool.and_eq_true, decide_eq_true_eq]
  constructor <;> omega
section
variable {X : Cx} {W : WX} {tg e e2 e3 : Expr} {p pos : Pos} {fa : Ev → R (List D)}
end
end Mir
end
set_option Elab.async false
set_option linter.all false
set_option maxRecDepth 100000
set_option maxHeartbeats 4000000
noncomputable section
namespace Mir
open PySem PySem.Spec PyProof.Rows L2
open AutoSeq1 (wpAny_loadPart')
section
variable {X : Cx} {W : WX} {S : Nat → Bool} {e : Expr} {pos cpos apos npos : Pos} {x : Str}
def asT : D → R (List D)
  | .tuple ds => .ok ds
  | _ => .no
@[simp] theorem asT_tup (ds : List D) : asT (.tuple ds) = .ok ds := rfl
def sExtT (i : Nat) (f : Ev → R D) (env : Ev) : SR := ownL i env fun os => (f env).st env fun d => (asT d).st env fun ds => if os.length + ds.length ≤ sizeLine then .nx (env.set i (some (.l (os ++ ds.map Ow.d)))) else .no
@[simp] theorem sExtT_eq (i : Nat) (f : Ev → R D) (env : Ev) : sExtT i f env = ownL i env fun os => (f env).st env fun d => (asT d).st env fun ds => if os.length + ds.length ≤ sizeLine then .nx (env.set i (some (.l (os ++ ds.map Ow.d)))) else .no := rfl
end
end Mir
end
set_option Elab.async false
set_option linter.all false
set_option maxRecDepth 100000
set_option maxHeartbeats 4000000
noncomputable section
namespace Mir
open PySem PySem.Spec PySem.Calls PyProof.Rows L2
def keyEq : D → D → Bool
  | .int i, .int j => i == j
  | .str x, .str y => x == y
  | _, _ => false
def isKey : D → Bool
  | .int _ => true
  | .str _ => true
  | _ => false
def getP (ps : List (D × D)) (k : D) : Option D := (ps.find? fun p => keyEq p.1 k).map (·.2)
def putP (ps : List (D × D)) (k v : D) : List (D × D) := if (ps.any fun p => keyEq p.1 k) = true then ps.map (fun p => if keyEq p.1 k = true then (p.1, v) else p) else ps ++ [(k, v)]
theorem key_of_data {k : D} (h : isKey k = true) : ∃ q : Key, k = keyD q := by
  cases k <;> first | cases h; done | skip
  · exact ⟨.inl _, rfl⟩
  · exact ⟨.inr _, rfl⟩
theorem keyEq_iff (p q : Key) : keyEq (keyD p) (keyD q) = decide (p = q) := by
  cases p <;> cases q <;> simp [keyD, keyEq] <;> rfl
theorem key_dp {K : PySem.W.Frag} {H : Hp} {v : V} {q : Key} (h : Dp K H v (keyD q)) : v = kV q := by
  cases q with
  | inl i => cases h; rfl
  | inr z => cases h; rfl
theorem dpKv_any {K : PySem.W.Frag} {H : Hp} (q : Key) : ∀ {kvs : List (Key × V)} {ps : List (D × D)}, DpKv K H kvs ps → (ps.any fun p => keyEq p.1 (keyD q)) = (kvs.any fun kv => decide (kv.1 = q))
  | [], _, h => by cases h; rfl
  | p :: kvs, _, h => by
    cases h with
    | cons h1 h2 =>
      rw [List.any_cons, List.any_cons, dpKv_any q h2]
      show (keyEq (keyD _) (keyD q) || _) = _
      rw [keyEq_iff]
theorem dpKv_get {K : PySem.W.Frag} {H : Hp} (q : Key) : ∀ {kvs : List (Key × V)} {ps : List (D × D)}, DpKv K H kvs ps → (getP ps (keyD q) = none ∧ valV kvs q = none) ∨ ∃ d v, getP ps (keyD q) = some d ∧ valV kvs q = some v ∧ Dp K H v d
  | [], _, h => by cases h; exact .inl ⟨rfl, rfl⟩
  | p :: kvs, _, h => by
    cases h with
    | @cons k v _ d ps h1 h2 =>
      by_cases c : k = q
      · refine .inr ⟨d, v, ?_, valV_pos c, h1⟩
        unfold getP
        rw [List.find?_cons_of_pos (by rw [keyEq_iff]; simpa using c)]
        rfl
      · have e1 : getP ((keyD k, d) :: ps) (keyD q) = getP ps (keyD q) := by
          unfold getP
          rw [List.find?_cons_of_neg (by rw [keyEq_iff]; simpa using c)]
        have e2 : valV ((k, v) :: kvs) q = valV kvs q := valV_neg c
        rw [e1, e2]
        exact dpKv_get q h2
theorem dpKv_map {K : PySem.W.Frag} {H : Hp} (q : Key) {w : V} {x : D} (hw : Dp K H w x) : ∀ {kvs : List (Key × V)} {ps : List (D × D)}, DpKv K H kvs ps → DpKv K H (kvs.map fun kv => if kv.1 = q then (kv.1, w) else kv) (ps.map fun p => if keyEq p.1 (keyD q) = true then (p.1, x) else p)
  | [], _, h => by cases h; exact .nil
  | p :: kvs, _, h => by
    cases h with
    | @cons k v _ d ps h1 h2 =>
      rw [List.map_cons, List.map_cons]
      have e : keyEq (keyD k) (keyD q) = decide (k = q) := keyEq_iff k q
      simp only [e, decide_eq_true_eq]
      by_cases c : k = q
      · rw [if_pos c, if_pos c]
        exact .cons hw (dpKv_map q hw h2)
      · rw [if_neg c, if_neg c]
        exact .cons h1 (dpKv_map q hw h2)
theorem dpKv_snoc {K : PySem.W.Frag} {H : Hp} {q : Key} {w : V} {x : D} (hw : Dp K H w x) : ∀ {kvs : List (Key × V)} {ps : List (D × D)}, DpKv K H kvs ps → DpKv K H (kvs ++ [(q, w)]) (ps ++ [(keyD q, x)])
  | [], _, h => by cases h; exact .cons hw .nil
  | p :: kvs, _, h => by
    cases h with
    | cons h1 h2 => exact .cons h1 (dpKv_snoc hw h2)
theorem dpKv_put {K : PySem.W.Frag} {H : Hp} {q : Key} {w : V} {x : D} (hw : Dp K H w x) {kvs : List (Key × V)} {ps : List (D × D)} (h : DpKv K H kvs ps) : DpKv K H (putK kvs q w) (putP ps (keyD q) x) := by
  unfold putK putP
  rw [dpKv_any q h]
  split
  · exact dpKv_map q hw h
  · exact dpKv_snoc hw h
section
variable {X : Cx} {W : WX} {S : Nat → Bool} {e k : Expr} {pos tpos npos p2 : Pos} {x : Str} {f g : Ev → R D}
/-- {} -/
def eDictNew (_ : Ev) : R Ow := .ok (.m [])
@[simp] theorem eDictNew_eq (env : Ev) : eDictNew env = .ok (.m []) := rfl
/-- the own dict at a slot -/
def mAt (i : Nat) (env : Ev) : Option (List (D × D)) := match env[i]? with
  | some (some (.m ps)) => some ps
  | _ => none
theorem mAt_eq {i : Nat} {env : Ev} {ps : List (D × D)} (h : mAt i env = some ps) : env[i]? = some (some (.m ps)) := by
  unfold mAt at h
  split at h
  · cases h; assumption
  · cases h
/-- x[k], x an own dict -/
def eGetM (i : Nat) (g : Ev → R D) (env : Ev) : R D := match mAt i env with
  | none => .no
  | some ps => (g env).bind fun k => if isKey k = true then R.of (getP ps k) else .no
theorem df_getM (i : Nat) (hu : X.A.units + 140 < cLine) (hk : DV X W k g) (hs : NoSl k := by exact fun _ _ => rfl) (hN : X.N[i]? = some x := by rfl) (hv : Vis X.env.scope x := by first | exact Or.inl rfl | exact Or.inr (Or.inl rfl) | exact Or.inr (Or.inr rfl)) (hd : (x == ("__debug__" : Str)) = false := by decide) (hcd : (x == ("__classdict__" : Str)) = false := by decide) :
    DF X W (.Subscript (.Name x npos) k pos) (eGetM i g) := by
  obtain ⟨t, pk, sk⟩ := hk
  refine ⟨_, pe_dget (by omega) (pe_var hN hv hd hcd) pk hs, fun F H σ env fp Q sat hp => ?_⟩
  unfold eGetM at hp
  cases hm : mAt i env with
  | none => rw [hm] at hp; exact hp.elim
  | some ps =>
    rw [hm] at hp
    simp only at hp
    obtain ⟨v, fo, e1, e2, _⟩ := sat.en.get (mAt_eq hm)
    cases e2 with
    | @m a kvs _ m1 m2 m3 =>
      refine ⟨_, e1, ?_⟩
      refine sk.go sat hp fun d u F1 H1 sat1 q1 x1 h1 => ?_
      split at h1
      · rename_i c
        obtain ⟨q, rfl⟩ := key_of_data c
        obtain ⟨z, hz, h2⟩ := post_of h1
        rcases dpKv_get q m3 with ⟨g1, _⟩ | ⟨d, w, g1, g2, g3⟩
        · rw [g1] at hz; cases hz
        · rw [g1] at hz; cases hz
          have hg := DGet.k (k := q) (x1.hh _ _ m2)
          rw [g2] at hg
          refine ⟨a, w, rfl, ?_, h2 _ F1 H1 (.refl sat1.fh) (dpUp g3 x1.ff)⟩
          rw [key_dp q1]
          exact hg
      · exact h1.elim
/-- d[k], d any data that is a dict -/
def gGetD : D → D → Option D
  | .dict ps, k => if isKey k = true then getP ps k else none
  | _, _ => none
end
@[simp] theorem mAt_0 (ps : List (D × D)) (env : Ev) : mAt 0 (some (.m ps) :: env) = some ps := rfl
@[simp] theorem mAt_s (i : Nat) (x : Option Ow) (env : Ev) : mAt (i + 1) (x :: env) = mAt i env := by unfold mAt; rw [List.getElem?_cons_succ]
@[simp] theorem mAt_1 (a0 : Option Ow) (ps : List (D × D)) (env : Ev) : mAt 1 (a0 :: some (.m ps) :: env) = some ps := rfl
@[simp] theorem mAt_2 (a0 a1 : Option Ow) (ps : List (D × D)) (env : Ev) : mAt 2 (a0 :: a1 :: some (.m ps) :: env) = some ps := rfl
@[simp] theorem mAt_3 (a0 a1 a2 : Option Ow) (ps : List (D × D)) (env : Ev) : mAt 3 (a0 :: a1 :: a2 :: some (.m ps) :: env) = some ps := rfl
@[simp] theorem mAt_4 (a0 a1 a2 a3 : Option Ow) (ps : List (D × D)) (env : Ev) : mAt 4 (a0 :: a1 :: a2 :: a3 :: some (.m ps) :: env) = some ps := rfl
theorem mAt_of {i : Nat} {env : Ev} {ps : List (D × D)} (h : env[i]? = some (some (.m ps))) : mAt i env = some ps := by unfold mAt; rw [h]
theorem eGetM_of {i : Nat} {g : Ev → R D} {env : Ev} {ps : List (D × D)} (h : env[i]? = some (some (.m ps))) : eGetM i g env = (g env).bind fun k => if isKey k = true then R.of (getP ps k) else .no := by unfold eGetM; rw [mAt_of h]
@[simp] theorem gGetD_dict (ps : List (D × D)) (k : D) : gGetD (.dict ps) k = if isKey k = true then getP ps k else none := rfl
@[simp] theorem isKey_int (i : Int) : isKey (.int i) = true := rfl
@[simp] theorem isKey_str (z : Str) : isKey (.str z) = true := rfl
end Mir
end
set_option Elab.async false
set_option linter.all false
set_option maxRecDepth 100000
set_option maxHeartbeats 4000000
noncomputable section
namespace Mir
open PySem PySem.Spec L2
section
variable {X : Cx} {W : WX} {S : Nat → Bool} {e k : Expr} {pos tpos npos p2 : Pos} {x : Str} {f g : Ev → R D}
/-- what a stateful expression tells, walked: a list -/
def xSeq (f : Ev → R (D × Ev)) (env : Ev) : R (List D × Ev) := (f env).bind fun p => match p.1 with
  | .list ds => .ok (ds, p.2)
  | _ => .no
@[simp] theorem xSeq_eq (f : Ev → R (D × Ev)) (env : Ev) : xSeq f env = (f env).bind fun p => match p.1 with
  | .list ds => .ok (ds, p.2)
  | _ => .no := rfl
end
end Mir
end
set_option Elab.async false
set_option linter.all false
set_option maxRecDepth 100000
set_option maxHeartbeats 4000000
noncomputable section
namespace Mir
open PySem PySem.Spec PyProof.Rows L2
/-- what is to be known of an own class over ValueError -/
structure ExcT (K : PySem.W.Frag) (mg : Str → Option Value) (x : Str) (C : Addr) : Prop where
  gC : mg x = some (.ref C)
  ex : PySem.W.excIn K C [.type "ValueError", .type "Exception", .type "BaseException", .type "object"] "ValueError.__new__" = true
  kC : PySem.W.keepIn K (.ref C) = true
  bP : PySem.W.subIn K (.ref C) (.type "BaseException") = some true
  tP : PySem.W.typeIn K (.ref C) = some (.type "type")
def sRaise (x : Str) (env : Ev) : SR := .ex x env
@[simp] theorem sRaise_eq (x : Str) (env : Ev) : sRaise x env = .ex x env := rfl
section
variable {X : Cx} {W : WX} {S : Nat → Bool} {pos p p2 np pos' : Pos} {x m : Str} {j : Nat} {C : Addr}
theorem ds_raise (hc : X.calm = true) (tk : Takes X W) (T : ExcT X.K X.mg x C) (hg : Gl X x) (hdb : (x == ("__debug__" : Str)) = false := by decide) : DS X W S (.Raise (some (.Call (.Name x p) [.Constant (.str m) j p2] [] pos')) none pos) (sRaise x) := by
  refine ⟨_, ps_raise hc tk (pmk_own PySem.F.excBase_ValueError T.ex T.gC T.kC (raises_own T.bP T.tP) hg hdb), fun F H σ env fp D sat h => ?_⟩
  exact h C σ F H fp T.gC (.refl _ _) (StepS.of_ext (.refl sat.fh) fp) sat
theorem PSs.imp {st : List Stmt} {t t' : TS} (h : PSs X st t) (k : ∀ D σ H, t' D σ H → t D σ H) : PSs X st t' := ⟨fun pins s σ H D I q => h.run pins s σ H D I (k D σ H q)⟩
/-- canonical: what a block's mirror asks -/
def tsOf (X : Cx) (W : WX) (S : Nat → Bool) (f : Ev → SR) : TS := fun D σ H => ∃ F env fp, Sat X.K F H σ env fp ∧ PostS X W S σ F H fp D (f env)
theorem DSs.can {st : List Stmt} {f : Ev → SR} (h : DSs X W S st f) : PSs X st (tsOf X W S f) := by
  obtain ⟨t, p, s⟩ := h
  refine PSs.imp p ?_
  rintro D σ H ⟨F, env, fp, sat, h⟩
  exact s F H σ env fp D sat h
end
section
variable {X : Cx} {W : WX} {S : Nat → Bool} {i : Nat} {a : Addr} {pos p p2 np pos' : Pos} {x n T : Str} {e e1 e2 : Expr} {g g1 g2 : Ev → R D}
/-- a flat name -/
def eFlat (k : Nat) (env : Ev) : R D := (eVar k env).bind fun d => if flatD d = true then .ok d else .no
@[simp] theorem eFlat_eq (k : Nat) (env : Ev) : eFlat k env = (eVar k env).bind fun d => if flatD d = true then .ok d else .no := rfl
/-- int(a truth) -/
def eIntB (g : Ev → R D) (env : Ev) : R D := (g env).bind fun d => match d with
  | .bool b => .ok (.int (if b = true then 1 else 0))
  | _ => .no
@[simp] theorem eIntB_eq (g : Ev → R D) (env : Ev) : eIntB g env = (g env).bind fun d => match d with
  | .bool b => .ok (.int (if b = true then 1 else 0))
  | _ => .no := rfl
/-- + of whole numbers -/
def eAddI (g1 g2 : Ev → R D) (env : Ev) : R D := (g1 env).bind fun x => (g2 env).bind fun y => match x, y with
  | .int i, .int j => .ok (.int (i + j))
  | _, _ => .no
@[simp] theorem eAddI_eq (g1 g2 : Ev → R D) (env : Ev) : eAddI g1 g2 env = (g1 env).bind fun x => (g2 env).bind fun y => match x, y with
  | .int i, .int j => .ok (.int (i + j))
  | _, _ => .no := rfl
end
end Mir
end
set_option Elab.async false
set_option linter.all false
set_option maxRecDepth 100000
set_option maxHeartbeats 4000000
noncomputable section
namespace Mir
open PySem PySem.Spec PyProof.Rows L2
section
variable {X : Cx} {W : WX} {S : Nat → Bool} {i : Nat} {a : Addr} {pos p p2 np pos' : Pos} {x n T : Str} {e e1 e2 : Expr} {g g1 g2 : Ev → R D}
end
section
variable {K : PySem.W.Frag}
end
end Mir
end
set_option Elab.async false
set_option linter.all false
set_option maxRecDepth 100000
set_option maxHeartbeats 4000000
noncomputable section
namespace Mir
open PySem PySem.Spec PyProof.Rows L2
def gLtS : D → D → Option D
  | .str x, .str y => some (.bool (decide (x.cps.toList < y.cps.toList)))
  | _, _ => none
@[simp] theorem gLtS_str (x y : Str) : gLtS (.str x) (.str y) = some (.bool (decide (x.cps.toList < y.cps.toList))) := rfl
section
variable {X : Cx} {W : WX} {a b : Expr} {f g : Ev → R D} {pos : Pos}
end
end Mir
end
set_option Elab.async false
set_option linter.all false
set_option maxRecDepth 100000
set_option maxHeartbeats 4000000
noncomputable section
namespace Mir
open PySem PySem.Spec PyProof.Rows L2
section
variable {X : Cx} {W : WX} {S : Nat → Bool} {e k : Expr} {pos cpos apos npos tpos : Pos} {x : Str}
end
end Mir
end
set_option Elab.async false
set_option linter.all false
set_option maxRecDepth 100000
set_option maxHeartbeats 4000000
noncomputable section
namespace Mir
open PySem PySem.Spec PyProof.Rows L2
section
variable {K : PySem.W.Frag} {F H : Hp} {σ : L2.St} {env : Ev} {fp : List Addr}
/-- one level down, and back up behind a change below -/
theorem OwnAll.dig {os os1 : List Ow} {vs : List V} {fI : List Addr} {j : Nat} (h3 : OwnAll K F H vs os fI) (nd2 : fI.Nodup) (hj : os[j]? = some (.l os1)) : ∃ a vs1 fo, vs[j]? = some (.ref a) ∧ F a = none ∧ H a = some (.lst vs1) ∧ OwnAll K F H vs1 os1 fo ∧ fo.Nodup ∧ a ∉ fo ∧ (∀ b ∈ a :: fo, b ∈ fI) ∧
    ∀ F1 H1 a' os' fn, StepS F H [a'] F1 H1 [] → a' ∈ a :: fo → OwnAt K F1 H1 (.ref a) (.l os') fn → fn.Nodup → (∀ b ∈ fn, b ∈ a :: fo ∨ H b = none) → ∃ f1, OwnAll K F1 H1 vs (os.set j (.l os')) f1 ∧ f1.Nodup ∧ ∀ b ∈ f1, b ∈ fI ∨ H b = none := by
  obtain ⟨vj, fo1, fr1, g1, g2, g3, g4, g5, g6, g7, g8⟩ := OwnAll.get h3 nd2 hj
  cases g2 with
  | @l a vs1 _ fo m1 m2 m3 =>
    obtain ⟨nd3, nd4⟩ := List.nodup_cons.mp g3
    refine ⟨a, vs1, fo, g1, m1, m2, m3, nd4, nd3, g5, fun F1 H1 a' os' fn st ha ow nf sub => ?_⟩
    have fresh1 : ∀ b, H b = none → b ∉ fr1 := fun b q z => by
      obtain ⟨_, w, e⟩ := OwnAll.there _ _ _ h3 b (g6 b z)
      rw [q] at e; cases e
    obtain ⟨f1, k1, k2, k3⟩ := g8 F1 H1 [a'] [] (.ref a) (.l os') fn st (fun b hb z => g7 b (by rw [List.mem_singleton.mp z]; exact ha) hb) ow nf fun b hb z => by
      rcases sub b hb with q | q
      · exact g7 b q z
      · exact fresh1 b q z
    rw [set_selfV g1] at k1
    refine ⟨f1, k1, k2, fun b hb => ?_⟩
    rcases k3 b hb with q | q
    · exact (sub b q).imp (g5 b) id
    · exact .inl (g6 b q)
theorem Sat.dig (sat : Sat K F H σ env fp) {i : Nat} {os : List Ow} (hi : env[i]? = some (some (.l os))) : ∃ a vs fo, σ[i]? = some (some (.ref a)) ∧ F a = none ∧ H a = some (.lst vs) ∧ OwnAll K F H vs os fo ∧ fo.Nodup ∧ a ∉ fo ∧
    ∀ F1 H1 a' os' fn, StepS F H [a'] F1 H1 [] → Same F1 H1 → a' ∈ a :: fo → OwnAt K F1 H1 (.ref a) (.l os') fn → fn.Nodup → (∀ b ∈ fn, b ∈ a :: fo ∨ H b = none) → ∃ fp', StepS F H fp F1 H1 fp' ∧ Sat K F1 H1 σ (env.set i (some (.l os'))) fp' := by
  have hl : i < env.length := (List.getElem?_eq_some_iff.mp hi).1
  obtain ⟨fr, fo0, a1, a2, a3, a3', a4, a5, a6⟩ := sat.en.put hl sat.nd
  obtain ⟨v, e1, e2⟩ := a5 _ hi
  cases e2 with
  | @l a vs _ fo h1 h2 h3 =>
    obtain ⟨nd1, nd2⟩ := List.nodup_cons.mp a3'
    refine ⟨a, vs, fo, e1, h1, h2, h3, nd2, nd1, fun F1 H1 a' os' fn st sm ha ow nf sub => ?_⟩
    have fresh : ∀ b, H b = none → b ∉ fr := fun b q z => by
      obtain ⟨_, w, e⟩ := sat.en.there b (a1 b z)
      rw [q] at e; cases e
    obtain ⟨fp', b1, b2, b3⟩ := (a6 F1 H1 [a'] [] st fun b hb z => a4 b (by rw [List.mem_singleton.mp z]; exact ha) hb).2 (.ref a) (.l os') fn ow nf fun b hb z => by
      rcases sub b hb with q | q
      · exact a4 b q z
      · exact fresh b q z
    rw [set_self e1] at b3
    refine ⟨fp', st.mono (fun b hb => by rw [List.mem_singleton.mp hb]; exact a2 a' ha) |> fun s => ⟨s.ff, s.fr, s.fn, fun b hb => ?_⟩, sm, b3, b1⟩
    rcases b2 b hb with q | q
    · exact (sub b q).imp (a2 b) id
    · exact .inl (a1 b q)
theorem Sat.mut2 (sat : Sat K F H σ env fp) {i j l : Nat} {os os1 os2 : List Ow} (hi : env[i]? = some (some (.l os))) (hj : os[j]? = some (.l os1)) (hl : os1[l]? = some (.l os2)) : ∃ a0 vs0 a1 vs1 a vs fo, σ[i]? = some (some (.ref a0)) ∧ H a0 = some (.lst vs0) ∧ vs0[j]? = some (.ref a1) ∧ H a1 = some (.lst vs1) ∧ vs1[l]? = some (.ref a) ∧ F a = none ∧ H a = some (.lst vs) ∧ OwnAll K F H vs os2 fo ∧ fo.Nodup ∧ a ∉ fo ∧
    ∀ F1 H1 vs' os' fo', Ext F H F1 H1 → OwnAll K F1 (upd H1 a (.lst vs')) vs' os' fo' → fo'.Nodup → (∀ b ∈ fo', b ∈ fo ∨ H b = none) → ∃ fp', StepS F H fp F1 (upd H1 a (.lst vs')) fp' ∧ Sat K F1 (upd H1 a (.lst vs')) σ (env.set i (some (.l (os.set j (.l (os1.set l (.l os'))))))) fp' := by
  obtain ⟨a0, vs0, f0, t1, t2, t3, t4, t5, t6, t7⟩ := sat.dig hi
  obtain ⟨a1, vs1, f1, u1, u2, u3, u4, u5, u6, u7, u8⟩ := OwnAll.dig t4 t5 hj
  obtain ⟨a, vs, fo, w1, w2, w3, w4, w5, w6, w7, w8⟩ := OwnAll.dig u4 u5 hl
  refine ⟨a0, vs0, a1, vs1, a, vs, fo, t1, t3, u1, u3, w1, w2, w3, w4, w5, w6, fun F1 H1 vs' os' fo' x ow nd sub => ?_⟩
  have st := mut_step (vs' := vs') x w3
  have hfa := mut_free x w2 w3
  have na' : a ∉ fo' := fun z => by
    rcases sub a z with q | q
    · exact w6 q
    · rw [w3] at q; cases q
  have i1 : a ∈ a1 :: f1 := List.mem_cons_of_mem _ (w7 a List.mem_cons_self)
  have i0 : a ∈ a0 :: f0 := List.mem_cons_of_mem _ (u7 a i1)
  obtain ⟨g1, k1, k2, k3⟩ := w8 F1 (upd H1 a (.lst vs')) a os' (a :: fo') st List.mem_cons_self (.l hfa upd_same ow) (List.nodup_cons.mpr ⟨na', nd⟩) fun b hb => by
    rcases List.mem_cons.mp hb with q | q
    · subst q; exact .inl List.mem_cons_self
    · exact (sub b q).imp (List.mem_cons_of_mem _) id
  have ne1 : a ≠ a1 := fun e => u6 (e ▸ w7 a List.mem_cons_self)
  have n1 : a1 ∉ g1 := fun z => by
    rcases k3 a1 z with q | q
    · exact u6 q
    · rw [u3] at q; cases q
  obtain ⟨g0, l1, l2, l3⟩ := u8 F1 (upd H1 a (.lst vs')) a (os1.set l (.l os')) (a1 :: g1) st i1 (.l (mut_free x u2 u3) ((upd_ne (Ne.symm ne1)).trans (x.hh _ _ u3)) k1) (List.nodup_cons.mpr ⟨n1, k2⟩) fun b hb => by
    rcases List.mem_cons.mp hb with q | q
    · subst q; exact .inl List.mem_cons_self
    · exact (k3 b q).imp (List.mem_cons_of_mem _) id
  have ne0 : a ≠ a0 := fun e => t6 (e ▸ u7 a i1)
  have n0 : a0 ∉ g0 := fun z => by
    rcases l3 a0 z with q | q
    · exact t6 q
    · rw [t3] at q; cases q
  exact t7 F1 (upd H1 a (.lst vs')) a (os.set j (.l (os1.set l (.l os')))) (a0 :: g0) st (mut_same x.fh hfa) i0 (.l (mut_free x t2 t3) ((upd_ne (Ne.symm ne0)).trans (x.hh _ _ t3)) l1) (List.nodup_cons.mpr ⟨n0, l2⟩) fun b hb => by
    rcases List.mem_cons.mp hb with q | q
    · subst q; exact .inl List.mem_cons_self
    · exact (l3 b q).imp (List.mem_cons_of_mem _) id
end
section
variable {X : Cx} {W : WX} {S : Nat → Bool} {e k k2 : Expr} {pos cpos apos npos tpos tpos2 : Pos} {x : Str}
/-- x[g][h] of an own list of own lists of own lists -/
def own2 (i : Nat) (g h : Ev → R D) (env : Ev) (c : List Ow → Nat → List Ow → Nat → List Ow → SR) : SR := own1 i g env fun os j os1 => (h env).st env fun d => match d with
  | .int n => match ixN os1.length n with
    | some l => match os1[l]? with
      | some (.l os2) => c os j os1 l os2
      | _ => .no
    | none => .no
  | _ => .no
def sPut1 (i : Nat) (g h : Ev → R D) (f : Ev → R Ow) (env : Ev) : SR := (f env).st env fun r => own1 i g env fun os j os1 => (h env).st env fun d => match d with
  | .int n => match ixN os1.length n with
    | some l => .nx (env.set i (some (.l (os.set j (.l (os1.set l r))))))
    | none => .no
  | _ => .no
def sApp2 (i : Nat) (g h : Ev → R D) (f : Ev → R Ow) (env : Ev) : SR := own2 i g h env fun os j os1 l os2 => (f env).st env fun r => if os2.length < sizeLine then .nx (env.set i (some (.l (os.set j (.l (os1.set l (.l (os2 ++ [r])))))))) else .no
/-- x[k][k2] = e -/
theorem ds_put1 {g h : Ev → R D} {f : Ev → R Ow} (i : Nat) (hk : DV X W k g) (hk2 : DV X W k2 h) (he : DE X W e f) (hN : X.N[i]? = some x := by rfl) (hv : Vis X.env.scope x := by first | exact Or.inl rfl | exact Or.inr (Or.inl rfl) | exact Or.inr (Or.inr rfl)) (hd : (x == ("__debug__" : Str)) = false := by decide) (hcd : (x == ("__classdict__" : Str)) = false := by decide)
    (hpx : PlainIx k := by exact fun _ _ => rfl)
    (ha : ∀ v, assign (.Subscript (.Subscript (.Name x npos) k tpos2) k2 tpos) X.env v = (do
      let ov ← holding [v] (eval (.Subscript (.Name x npos) k tpos2) X.env)
      let iv ← holding [v, ov] (eval k2 X.env)
      standAt tpos
      holding [v, ov, iv] (setItem ov iv v)
      release [v, ov, iv] []) := by intro _; rfl)
    (hs : swapsWithSole [.Subscript (.Subscript (.Name x npos) k tpos2) k2 tpos] e pos.line X.env = pure false := by rfl) (hw : swappedStores [.Subscript (.Subscript (.Name x npos) k tpos2) k2 tpos] e X.env = pure none := by rfl)
    (h1 : (assignEach [.Subscript (.Subscript (.Name x npos) k tpos2) k2 tpos] X.env).map (·.2) = [assign (.Subscript (.Subscript (.Name x npos) k tpos2) k2 tpos) X.env] := by rfl) : DS X W S (.Assign [.Subscript (.Subscript (.Name x npos) k tpos2) k2 tpos] e pos) (sPut1 i g h f) := by
  obtain ⟨t, p, s⟩ := he
  obtain ⟨t', p', s'⟩ := hk
  obtain ⟨t2, p2, s2⟩ := hk2
  refine ⟨_, ps_asg p (pg_sub (pe_ix ix_list (pe_var hN hv hd hcd) p' hpx) p2 set_list ha) hs hw h1, fun F H σ env fp D sat hh => ?_⟩
  refine s F H σ env fp _ sat ?_
  unfold sPut1 at hh
  cases ef : f env with
  | no => rw [ef] at hh; exact hh
  | ex c => rw [ef] at hh; exact fun C F' H' m x => hh C σ F' H' fp m (.refl _ _) (StepS.of_ext x fp) (sat.ext x)
  | ok r =>
    rw [ef] at hh
    intro v F1 H1 x1 ⟨fx, ow, nx, fr⟩
    have q1 : PostS X W S σ F H fp D (own1 i g env fun os j os1 => (h env).st env fun d => match d with
      | .int n => match ixN os1.length n with
        | some l => .nx (env.set i (some (.l (os.set j (.l (os1.set l r))))))
        | none => .no
      | _ => .no) := hh
    obtain ⟨os, eo, q2⟩ := ownL_post q1
    have sat1 := sat.ext x1
    obtain ⟨w0, fo0, z1, z2, _⟩ := sat.en.get eo
    refine ⟨w0, z1, ?_⟩
    refine s' F1 H1 σ env fp _ sat1 ?_
    cases eg : g env with
    | no => rw [eg] at q2; exact q2.elim
    | ex c => rw [eg] at q2; exact fun C F' H' m x => q2 C σ F' H' fp m (.refl _ _) (StepS.of_ext (x1.trans x) fp) (sat.ext (x1.trans x))
    | ok d =>
      rw [eg] at q2
      intro u F2 H2 x2 qd
      cases d with
      | int k =>
        cases dp_int qd
        simp only [R.st_ok] at q2
        cases hj : ixN os.length k with
        | none => simp only [hj] at q2; exact q2.elim
        | some j =>
          simp only [hj] at q2
          cases ho : os[j]? with
          | none => simp only [ho] at q2; exact q2.elim
          | some o =>
            cases o with
            | d _ => simp only [ho] at q2; exact q2.elim
            | m _ => simp only [ho] at q2; exact q2.elim
            | l os1 =>
              simp only [ho] at q2
              obtain ⟨a0, vs0, a, vs, fo, c1, c2, c3, c4, c5, c6, c7, c8, c9, c10⟩ := sat.mut1 eo ho
              rw [c1] at z1; cases z1
              have b2 := x2.hh _ _ (x1.hh _ _ c2)
              have b6 := x2.hh _ _ (x1.hh _ _ c6)
              refine ⟨a0, vs0, k, .ref a, rfl, rfl, SqL.of b2, ?_, ?_⟩
              · unfold atI
                rw [c3, hj]
                exact c4
              refine s2 F2 H2 σ env fp _ (sat1.ext x2) ?_
              cases eh : h env with
              | no => rw [eh] at q2; exact q2.elim
              | ex c => rw [eh] at q2; exact fun C F' H' m x => q2 C σ F' H' fp m (.refl _ _) (StepS.of_ext (x1.trans (x2.trans x)) fp) (sat.ext (x1.trans (x2.trans x)))
              | ok d2 =>
                rw [eh] at q2
                intro w F3 H3 x3 qw
                cases d2 with
                | int n =>
                  cases dp_int qw
                  simp only [R.st_ok] at q2
                  cases hl : ixN os1.length n with
                  | none => simp only [hl] at q2; exact q2.elim
                  | some l =>
                    simp only [hl] at q2
                    have x := x1.trans (x2.trans x3)
                    have la := OwnAll.len c7
                    have hb := x.hh _ _ c6
                    have hll : l < os1.length := (ixN_seq hl).2.1
                    have f2 := mut_free x c5 c6
                    have na : a ∉ fx := fun z => by rw [fr a z] at c6; cases c6
                    obtain ⟨fo', g1, g2, g3⟩ := OwnAll.set (j := l) (mut_same x.fh f2) (own_mut (vs' := vs.set l v) x c6 c7 c9) c8 hll (own_mut1 (vs' := vs.set l v) x.fh f2 hb (ow.ext (x2.trans x3)) na) nx fun b hb z => by
                      obtain ⟨_, w, e⟩ := OwnAll.there _ _ _ c7 b z
                      rw [fr b hb] at e; cases e
                    obtain ⟨fp', st, sat'⟩ := c10 F3 H3 (vs.set l v) (os1.set l r) fo' x g1 g2 fun b hb => (g3 b hb).imp id (fr b)
                    exact ⟨a, vs, n, l, rfl, rfl, hb, by rw [la]; exact hl, q2 σ F3 _ fp' (.refl _ _) st sat'⟩
                | _ => exact q2.elim
      | _ => exact q2.elim
/-- x[k][k2].append(e) -/
theorem ds_app2 {g h : Ev → R D} {f : Ev → R Ow} (i : Nat) (hk : DV X W k g) (hk2 : DV X W k2 h) (he : DE X W e f) (hN : X.N[i]? = some x := by rfl) (hv : Vis X.env.scope x := by first | exact Or.inl rfl | exact Or.inr (Or.inl rfl) | exact Or.inr (Or.inr rfl)) (hd : (x == ("__debug__" : Str)) = false := by decide) (hcd : (x == ("__classdict__" : Str)) = false := by decide)
    (hpx : PlainIx k := by exact fun _ _ => rfl) (hpx2 : PlainIx k2 := by exact fun _ _ => rfl)
    (hbase : attributeBase (.Subscript (.Subscript (.Name x npos) k tpos2) k2 tpos) "append" X.env (eval (.Subscript (.Subscript (.Name x npos) k tpos2) k2 tpos) X.env) = eval (.Subscript (.Subscript (.Name x npos) k tpos2) k2 tpos) X.env := by rfl)
    (hfew : ((backTo cpos (starEach [e] X.env)).all (fun x => !x.1) && (backToKw cpos (keywordEach [] X.env)).all (fun x => x.1.isSome) && decide ([e].length + ([] : List Keyword).length + (if ([] : List Keyword).isEmpty then 0 else 1) < 30)) = true := by rfl)
    (hline : (apos.endLine == cpos.line) = true := by rfl) (hst : starEach [e] X.env = (false, eval e X.env) :: starEach [] X.env := by rfl) (hplain : (backTo cpos (starEach [] X.env)).any (·.1) = false := by rfl)
    (hsw : swapsWith (.Call (.Attribute (.Subscript (.Subscript (.Name x npos) k tpos2) k2 tpos) "append" apos) [e] [] cpos) none pos.line X.env = pure false := by rfl) : DS X W S (.Expr (.Call (.Attribute (.Subscript (.Subscript (.Name x npos) k tpos2) k2 tpos) "append" apos) [e] [] cpos) pos) (sApp2 i g h f) := by
  obtain ⟨t, p, s⟩ := he
  obtain ⟨t', p', s'⟩ := hk
  obtain ⟨t2, p2, s2⟩ := hk2
  refine ⟨_, ps_expr (pe_bm PySem.F.plainAttrs_list PySem.F.slot_list_append PySem.F.type_list_append mt_append (pe_ix ix_list (pe_ix ix_list (pe_var hN hv hd hcd) p' hpx) p2 hpx2) (pa_cons p pa_nil hst) hbase hfew hline hst hplain) hsw, fun F H σ env fp D sat hh => ?_⟩
  obtain ⟨os, eo, q2⟩ := ownL_post hh
  obtain ⟨w0, fo0, z1, z2, _⟩ := sat.en.get eo
  refine ⟨w0, z1, ?_⟩
  refine s' F H σ env fp _ sat ?_
  cases eg : g env with
  | no => rw [eg] at q2; exact q2.elim
  | ex c => rw [eg] at q2; exact fun C F' H' m x => q2 C σ F' H' fp m (.refl _ _) (StepS.of_ext x fp) (sat.ext x)
  | ok d =>
    rw [eg] at q2
    intro u F2 H2 x2 qd
    cases d with
    | int kk =>
      cases dp_int qd
      simp only [R.st_ok] at q2
      cases hj : ixN os.length kk with
      | none => simp only [hj] at q2; exact q2.elim
      | some j =>
        simp only [hj] at q2
        cases ho : os[j]? with
        | none => simp only [ho] at q2; exact q2.elim
        | some o =>
          cases o with
          | d _ => simp only [ho] at q2; exact q2.elim
          | m _ => simp only [ho] at q2; exact q2.elim
          | l os1 =>
            simp only [ho] at q2
            obtain ⟨b0, ws0, b1, ws1, fo1, d1, d2, d3, d4, d5, d6, d7, _⟩ := sat.mut1 eo ho
            rw [d1] at z1; cases z1
            refine ⟨b0, ws0, kk, .ref b1, rfl, rfl, SqL.of (x2.hh _ _ d2), ?_, ?_⟩
            · unfold atI
              rw [d3, hj]
              exact d4
            refine s2 F2 H2 σ env fp _ (sat.ext x2) ?_
            cases eh : h env with
            | no => rw [eh] at q2; exact q2.elim
            | ex c => rw [eh] at q2; exact fun C F' H' m x => q2 C σ F' H' fp m (.refl _ _) (StepS.of_ext (x2.trans x) fp) (sat.ext (x2.trans x))
            | ok dd =>
              rw [eh] at q2
              intro w F3 H3 x3 qw
              cases dd with
              | int n =>
                cases dp_int qw
                simp only [R.st_ok] at q2
                cases hl : ixN os1.length n with
                | none => simp only [hl] at q2; exact q2.elim
                | some l =>
                  simp only [hl] at q2
                  cases ho2 : os1[l]? with
                  | none => simp only [ho2] at q2; exact q2.elim
                  | some o2 =>
                    cases o2 with
                    | d _ => simp only [ho2] at q2; exact q2.elim
                    | m _ => simp only [ho2] at q2; exact q2.elim
                    | l os2 =>
                      simp only [ho2] at q2
                      have x23 := x2.trans x3
                      obtain ⟨a0, vs0, a1, vs1, a, vs, fo, c1, c2, c2', c3, c4, c5, c6, c7, c8, c9, c10⟩ := sat.mut2 eo ho ho2
                      rw [d1] at c1; cases c1
                      rw [d2] at c2; cases c2
                      rw [d4] at c2'; cases c2'
                      rw [d6] at c3; cases c3
                      refine ⟨b1, ws1, n, .ref a, rfl, rfl, SqL.of (x23.hh _ _ d6), ?_, ?_⟩
                      · unfold atI
                        rw [OwnAll.len d7, hl]
                        exact c4
                      refine ⟨.inl ⟨rfl, vs, SqL.of (x23.hh _ _ c6)⟩, ?_⟩
                      refine s F3 H3 σ env fp _ (sat.ext x23) ?_
                      cases ef : f env with
                      | no => rw [ef] at q2; exact q2
                      | ex c => rw [ef] at q2; exact fun C F' H' m x => q2 C σ F' H' fp m (.refl _ _) (StepS.of_ext (x23.trans x) fp) (sat.ext (x23.trans x))
                      | ok r =>
                        rw [ef] at q2
                        intro v F4 H4 x4 ⟨fx, ow, nx, fr⟩
                        simp only [R.st_ok] at q2
                        split at q2
                        · rename_i cc
                          have x := x23.trans x4
                          have la := OwnAll.len c7
                          have hb := x.hh _ _ c6
                          have e3 := x23.hh _ _ c6
                          have f2 := mut_free x c5 c6
                          have na : a ∉ fx := fun z => by rw [fr a z] at e3; cases e3
                          obtain ⟨fo', g1, g2, g3⟩ := OwnAll.snoc (own_mut (vs' := vs ++ [v]) x c6 c7 c9) (own_mut1 x.fh f2 hb ow na) c8 nx fun b hb z => by
                            obtain ⟨_, w, e⟩ := OwnAll.there _ _ _ c7 b z
                            have := x23.hh _ _ e
                            rw [fr b hb] at this; cases this
                          obtain ⟨fp', st, sat'⟩ := c10 F4 H4 (vs ++ [v]) (os2 ++ [r]) fo' x g1 g2 fun b hb => (g3 b hb).imp id fun z => by
                            cases hz : H b with
                            | none => rfl
                            | some w => have := x23.hh _ _ hz; rw [fr b z] at this; cases this
                          exact ⟨a, vs, v, rfl, rfl, hb, by omega, q2 σ F4 _ fp' (.refl _ _) st sat'⟩
                        · exact q2.elim
              | _ => exact q2.elim
    | _ => exact q2.elim
end
end Mir
end
set_option Elab.async false
set_option linter.all false
set_option maxRecDepth 100000
set_option maxHeartbeats 4000000
noncomputable section
namespace Mir
open PySem PySem.Spec PyProof.Rows L2
section
variable {X : Cx} {W : WX} {S : Nat → Bool} {e k : Expr} {es : List Expr} {pos cpos apos npos p p2 pos2 : Pos} {x : Str} {tg : Expr}
def mergeD (acc : List (D × D)) (ps : List (Str × D)) : List (D × D) := ps.foldl (fun acc p => putP acc (.str p.1) p.2) acc
theorem dpKv_merge {K : PySem.W.Frag} {F : Hp} : ∀ {kvs : List (Key × V)} {ps : List (Str × D)} {acc : List (Key × V)} {acd : List (D × D)}, Paired (KV K F) kvs ps → DpKv K F acc acd → DpKv K F (mergeK acc kvs) (mergeD acd ps)
  | _, _, _, _, .nil, h => h
  | kv :: kvs, p :: ps, acc, acd, .cons h t, ha => by
    have e : mergeK acc (kv :: kvs) = mergeK (putK acc kv.1 kv.2) kvs := rfl
    have e2 : mergeD acd (p :: ps) = mergeD (putP acd (.str p.1) p.2) ps := rfl
    rw [e, e2, h.1]
    exact dpKv_merge t (dpKv_put (q := Sum.inr p.1) h.2 ha)
def eDictOf (f : Ev → R D) (env : Ev) : R Ow := (f env).bind fun d => match asPairs d with
  | none => .no
  | some ps => .ok (.m (mergeD [] ps))
@[simp] theorem eDictOf_eq (f : Ev → R D) (env : Ev) : eDictOf f env = (f env).bind fun d => match asPairs d with
  | none => .no
  | some ps => .ok (.m (mergeD [] ps)) := rfl
theorem de_dictOf {f : Ev → R D} (hc : X.calm = true) (hg : Gl X "dict") (hm : X.mg "dict" = none) (ha : DL X W e f)
    (he : starEach [e] X.env = (false, eval e X.env) :: starEach [] X.env := by rfl) : DE X W (.Call (.Name "dict" p) [e] [] pos) (eDictOf f) := by
  obtain ⟨ta, pa, sa⟩ := ha
  refine ⟨_, pe_callTy (call_dictP hc) hg hm (by decide +kernel) (pa_cons pa pa_nil he) (by decide) (by decide) he rfl, fun F H σ env fp Q sat hp => ?_⟩
  refine sa.go sat hp fun d v F1 H1 sat1 q _ h1 => ?_
  cases hps : asPairs d with
  | none => rw [hps] at h1; exact h1.elim
  | some ps =>
  rw [hps] at h1
  simp only at h1
  cases d with
  | list ds =>
    obtain ⟨a, xs, rfl, q1, q2⟩ := q
    obtain ⟨as, kvs, rfl, k1, k2⟩ := pairs_dp q2 hps
    refine ⟨a, as, kvs, rfl, q1, paired_up sat1.fh k1, fun b hb => ?_⟩
    exact h1 _ F1 _ (Ext.own sat1.fh hb _) ⟨[b], .m (free_of sat1.fh hb) upd_same (dpKv_merge k2 .nil), by simp, fun c hc => by rw [List.mem_singleton.mp hc]; exact hb⟩
  | _ => cases hps
def PAo (K : PySem.W.Frag) (H : Hp) (os : List Ow) (vs : List V) (F' H' : Hp) : Prop := ∃ fp, OwnAll K F' H' vs os fp ∧ fp.Nodup ∧ ∀ b ∈ fp, H b = none
def DAo (X : Cx) (W : WX) (es : List Expr) (f : Ev → R (List Ow)) : Prop := ∃ t, PA X es t ∧ Sm X W (PAo X.K) t f
def oNil (_ : Ev) : R (List Ow) := .ok []
def oCons (f : Ev → R Ow) (g : Ev → R (List Ow)) (env : Ev) : R (List Ow) := (f env).bind fun o => (g env).map fun os => o :: os
@[simp] theorem oNil_eq (env : Ev) : oNil env = .ok [] := rfl
@[simp] theorem oCons_eq (f : Ev → R Ow) (g : Ev → R (List Ow)) (env : Ev) : oCons f g env = (f env).bind fun o => (g env).map fun os => o :: os := rfl
theorem dao_nil : DAo X W [] oNil := ⟨_, pa_nil, fun F H σ env fp Q sat h => h _ F H (.refl sat.fh) ⟨[], .nil, List.nodup_nil, fun b z => nomatch z⟩⟩
theorem dao_cons {f : Ev → R Ow} {g : Ev → R (List Ow)} (hf : DE X W e f) (hg : DAo X W es g) (hs : starEach (e :: es) X.env = (false, eval e X.env) :: starEach es X.env := by rfl) : DAo X W (e :: es) (oCons f g) := by
  obtain ⟨t, p, s⟩ := hf
  obtain ⟨t', p', s'⟩ := hg
  refine ⟨_, pa_cons p p' hs, fun F H σ env fp Q sat h => ?_⟩
  refine s F H σ env fp _ sat ?_
  unfold oCons at h
  cases ef : f env with
  | no => rw [ef] at h; exact h.elim
  | ex c => rw [ef] at h; exact h
  | ok o =>
    rw [ef] at h
    intro v F1 H1 x1 ⟨fx, ow, nx, fr⟩
    refine s' F1 H1 σ env fp _ (sat.ext x1) ?_
    cases eg : g env with
    | no => rw [eg] at h; exact h.elim
    | ex c => rw [eg] at h; exact fun C F' H' m x => h C F' H' m (x1.trans x)
    | ok os =>
      rw [eg] at h
      intro vs F2 H2 x2 ⟨fy, oy, ny, fry⟩
      have h' : Post X W (PAo X.K) F H σ (.ok (o :: os)) Q := h
      refine h' (v :: vs) F2 H2 (x1.trans x2) ⟨fx ++ fy, .cons (ow.ext x2) oy, ?_, fun b hb => ?_⟩
      · rw [List.nodup_append]
        refine ⟨nx, ny, fun a ha b hb e => ?_⟩
        subst e
        obtain ⟨_, w, e⟩ := OwnAt.there _ _ _ ow a ha
        rw [fry a hb] at e; cases e
      · rcases List.mem_append.mp hb with z | z
        · exact fr b z
        · cases hz : H b with
          | none => rfl
          | some w => have := x1.hh _ _ hz; rw [fry b z] at this; cases this
def eLstO (f : Ev → R (List Ow)) (env : Ev) : R Ow := (f env).bind fun os => guard (os.length ≤ sizeLine) (.ok (.l os))
@[simp] theorem eLstO_eq (f : Ev → R (List Ow)) (env : Ev) : eLstO f env = (f env).bind fun os => guard (os.length ≤ sizeLine) (.ok (.l os)) := rfl
theorem de_lstO {f : Ev → R (List Ow)} (hf : DAo X W es f) : DE X W (.List es pos) (eLstO f) := by
  obtain ⟨t, p, s⟩ := hf
  refine ⟨_, pe_lst p, fun F H σ env fp Q sat h => ?_⟩
  refine s F H σ env fp _ sat ?_
  unfold eLstO at h
  cases ef : f env with
  | no => rw [ef] at h; exact h.elim
  | ex c => rw [ef] at h; exact h
  | ok os =>
    rw [ef] at h
    have h' : Post X W (POw X.K) F H σ (guard (os.length ≤ sizeLine) (.ok (.l os))) Q := h
    intro vs F1 H1 x1 ⟨fy, oy, ny, fry⟩
    obtain ⟨hl, h2⟩ := guard_post h'
    refine ⟨by rw [OwnAll.len oy]; exact hl, fun p hp => ?_⟩
    have fh := x1.fh
    have x := Ext.own fh hp (.lst vs)
    have fp0 : ∀ b ∈ fy, b ≠ p := fun b hb e => by
      subst e
      obtain ⟨_, w, e⟩ := OwnAll.there _ _ _ oy b hb
      rw [hp] at e; cases e
    refine h2 _ F1 _ (x1.trans x) ⟨p :: fy, .l (free_of fh hp) upd_same (oy.ext x), List.nodup_cons.mpr ⟨fun z => fp0 p z rfl, ny⟩, fun b hb => ?_⟩
    rcases List.mem_cons.mp hb with z | z
    · subst z
      cases hz : H b with
      | none => rfl
      | some w => have := x1.hh _ _ hz; rw [hp] at this; cases this
    · exact fry b z
def eLenO (f : Ev → R Ow) (env : Ev) : R D := (f env).bind fun o => match o with
  | .l os => .ok (.int (os.length : Nat))
  | _ => .no
@[simp] theorem eLenO_eq (f : Ev → R Ow) (env : Ev) : eLenO f env = (f env).bind fun o => match o with
  | .l os => .ok (.int (os.length : Nat))
  | _ => .no := rfl
theorem df_lenO {f : Ev → R Ow} (hg : Gl X "len") (hm : X.mg "len" = none) (ha : DP X W e f) (hpl : starEach [e] X.env = (false, eval e X.env) :: starEach [] X.env := by rfl) : DF X W (.Call (.Name "len" p) [e] [] pos) (eLenO f) := by
  obtain ⟨t, pe, s⟩ := ha
  refine ⟨_, pe_callB call_len_seq hg hm PySem.boot_len (pa_cons pe pa_nil hpl) (he := hpl), fun F H σ env fp Q sat h => ?_⟩
  unfold eLenO at h
  refine s.go sat h fun o v F1 H1 sat1 q _ h1 => ?_
  cases o with
  | l os =>
    obtain ⟨fo, q⟩ := q
    cases q with
    | @l a vs _ fo m1 m2 m3 =>
      have la := OwnAll.len m3
      refine ⟨a, vs, rfl, .inl (SqL.of m2), ?_⟩
      rw [la]
      exact h1 _ F1 H1 (.refl sat1.fh) (.int _)
  | _ => exact h1.elim
def xPopAt (i : Nat) (g : Ev → R D) (env : Ev) : R (D × Ev) := match lstAt i env with
  | none => .no
  | some dk => match g env with
    | .ok (.int n) => if dk.length ≤ sizeLine then (match ixN dk.length n with
      | some j => match dk[j]? with
        | some d => .ok (d, env.set i (some (.l ((dk.eraseIdx j).map Ow.d))))
        | none => .no
      | none => .no) else .no
    | _ => .no
theorem DpAll.eraseIdx {H : Hp} {K : PySem.W.Frag} : ∀ {vs : List V} {ds : List D} (j : Nat), DpAll K H vs ds → DpAll K H (vs.eraseIdx j) (ds.eraseIdx j)
  | _, _, _, .nil => .nil
  | _, _, 0, .cons h t => t
  | _, _, j + 1, .cons h t => .cons h (DpAll.eraseIdx j t)
theorem xf_popAt {g : Ev → R D} (i : Nat) (hk : DV X W0 k g) (hN : X.N[i]? = some x := by rfl) (hv : Vis X.env.scope x := by first | exact Or.inl rfl | exact Or.inr (Or.inl rfl) | exact Or.inr (Or.inr rfl)) (hd : (x == ("__debug__" : Str)) = false := by decide) (hcd : (x == ("__classdict__" : Str)) = false := by decide)
    (hbase : attributeBase (.Name x npos) "pop" X.env (eval (.Name x npos) X.env) = eval (.Name x npos) X.env := by rfl)
    (hfew : ((backTo cpos (starEach [k] X.env)).all (fun x => !x.1) && (backToKw cpos (keywordEach [] X.env)).all (fun x => x.1.isSome) && decide ([k].length + ([] : List Keyword).length + (if ([] : List Keyword).isEmpty then 0 else 1) < 30)) = true := by rfl)
    (hline : (apos.endLine == cpos.line) = true := by rfl) (hst : starEach [k] X.env = (false, eval k X.env) :: starEach [] X.env := by rfl) (hplain : (backTo cpos (starEach [] X.env)).any (·.1) = false := by rfl) :
    DXF X (.Call (.Attribute (.Name x npos) "pop" apos) [k] [] cpos) (xPopAt i g) := by
  obtain ⟨t', p', s'⟩ := hk
  refine ⟨_, pe_bm PySem.F.plainAttrs_list PySem.F.slot_list_pop PySem.F.type_list_pop mt_popAt (pe_var hN hv hd hcd) (pa_cons p' pa_nil hst) hbase hfew hline hst hplain, fun F H σ env fp Q sat hp => ?_⟩
  unfold xPopAt at hp
  cases e0 : lstAt i env with
  | none => rw [e0] at hp; exact hp.elim
  | some dk =>
  rw [e0] at hp
  simp only at hp
  obtain ⟨a, vs, b1, b2, b3, b4, b5⟩ := sat.chg (lstAt_eq e0)
  refine ⟨.ref a, b1, .inl ⟨rfl, vs, SqL.of b3⟩, ?_⟩
  refine s' F H σ env fp _ sat ?_
  cases eg : g env with
  | no => rw [eg] at hp; exact hp.elim
  | ex c => rw [eg] at hp; exact hp.elim
  | ok d0 =>
  rw [eg] at hp
  intro u F1 H1 x1 qd
  cases d0 with
  | int n =>
    cases dp_int qd
    simp only at hp
    by_cases cs : dk.length ≤ sizeLine
    · rw [if_pos cs] at hp
      cases hj : ixN dk.length n with
      | none => simp only [hj] at hp; exact hp.elim
      | some j =>
      simp only [hj] at hp
      cases el : dk[j]? with
      | none => simp only [el] at hp; exact hp.elim
      | some d =>
      simp only [el] at hp
      have sat1 := sat.ext x1
      obtain ⟨a', vs', c1, c2, c3, c4, c5⟩ := sat1.chg (lstAt_eq e0)
      rw [b1] at c1; cases c1
      have e3 := x1.hh _ _ b3
      rw [e3] at c3; cases c3
      have hl := DpAll.len c4
      obtain ⟨v, g1, g2⟩ := Mir.DpAll.get c4 el
      have sx := ixN_seq hj
      refine ⟨a, vs, n, j, v, rfl, rfl, e3, by have := sx.2.2.1; rw [sizeLine_eq] at cs; omega, by have := sx.2.2.2; rw [sizeLine_eq] at cs; omega, by rw [hl]; exact sx.1, g1, ?_⟩
      obtain ⟨fp', d1, d2⟩ := c5 F1 (upd H1 a (.lst (vs.eraseIdx j))) (vs.eraseIdx j) (dk.eraseIdx j) (pop_step sat1.fh e3) (mut_same sat1.fh c2) c2 upd_same (DpAll.eraseIdx j c4)
      exact PostX.step hp (StepS.of_ext x1 fp) v F1 _ fp' d1 d2 g2
    · rw [if_neg cs] at hp; exact hp.elim
  | _ => exact hp.elim
def rgRev : D → R (List D)
  | .int j => guard (0 ≤ j ∧ j < 2 ^ 62) (.ok (rangeCD (j - 1) (-1) j.toNat))
  | _ => .no
theorem di_revRange {f : Ev → R D} (hg : Gl X "reversed") (hm : X.mg "reversed" = none) (hg2 : Gl X "range") (hm2 : X.mg "range" = none) (h : DV X W e f) (hs : starEach [e] X.env = (false, eval e X.env) :: starEach [] X.env := by rfl)
    (hs2 : starEach [.Call (.Name "range" p2) [e] [] pos2] X.env = (false, eval (.Call (.Name "range" p2) [e] [] pos2) X.env) :: starEach [] X.env := by rfl) : DI X W tg (.Call (.Name "reversed" p) [.Call (.Name "range" p2) [e] [] pos2] [] pos) (eB f rgRev) := by
  obtain ⟨t, pe, s⟩ := h
  refine ⟨_, pi_revR hg hm (prg_1 hg2 hm2 pe hs) hs2, fun F H σ env fp Q sat hp => ?_⟩
  refine s.go sat hp fun d v F1 H1 sat1 q _ h1 => ?_
  cases d with
  | int j =>
    cases dp_int q
    have h1' : Post X W (PIt X.K) F1 H1 σ (guard (0 ≤ j ∧ j < 2 ^ 62) (.ok (rangeCD (j - 1) (-1) j.toNat))) Q := h1
    obtain ⟨c, h2⟩ := guard_post h1'
    refine ⟨j, rfl, by omega, by omega, by omega, c.2, ?_⟩
    have e1 : (0 + (((j - 0).toNat : Nat) : Int) - 1) = j - 1 := by omega
    have e2 : (j - 0).toNat = j.toNat := by rw [Int.sub_zero]
    rw [e1, e2]
    exact h2 _ F1 H1 (.refl sat1.fh) (walkF_rc _ _ _)
  | _ => exact h1.elim
theorem rgRev_nat (n : Nat) (h : n ≤ 1000000) : rgRev (.int (n : Nat)) = .ok ((List.range n).map fun i => PyData.int (((n - 1 - i : Nat)) : Int)) := by
  show guard (0 ≤ (n : Int) ∧ (n : Int) < 2 ^ 62) (.ok (rangeCD ((n : Int) - 1) (-1) (n : Int).toNat)) = _
  rw [guard_pos ⟨by omega, by omega⟩]
  unfold rangeCD
  rw [Int.toNat_natCast]
  congr 1
  refine List.map_congr_left fun i hi => ?_
  rw [List.mem_range] at hi
  congr 1
  omega
end
end Mir
end
set_option Elab.async false
set_option linter.all false
set_option maxRecDepth 100000
set_option maxHeartbeats 4000000
noncomputable section
namespace Mir
open PySem PySem.Spec PyProof.Rows L2
section
variable {K : PySem.W.Frag} {F H : Hp} {σ : L2.St} {env : Ev} {fp : List Addr}
end
section
variable {X : Cx} {W : WX} {S : Nat → Bool} {e k k2 : Expr} {pos npos tpos tpos2 : Pos} {x : Str}
end

section
variable {X : Cx} {W : WX} {S : Nat → Bool} {e : Expr} {st : Stmt} {fs : Ev → SR}
/-- an item of an own list, which is data -/
def asD : Ow → R D
  | .d x => .ok x
  | _ => .no
@[simp] theorem asD_d (x : D) : asD (.d x) = .ok x := rfl
end
end Mir
end
set_option Elab.async false
set_option linter.all false
set_option maxRecDepth 100000
set_option maxHeartbeats 4000000
namespace Mir
open PySem PySem.Spec L2

inductive Tr where
  | mk (nm : Str) (mk : Int) (bs : List Tr)
mutual
def encT : Tr → D
  | .mk nm k bs => .tuple [.str nm, .int k, .tuple (encTs bs)]
def encTs : List Tr → List D
  | [] => []
  | b :: bs => encT b :: encTs bs
end
mutual
def sizeT : Tr → Nat
  | .mk _ _ bs => 1 + sizeTs bs
def sizeTs : List Tr → Nat
  | [] => 0
  | b :: bs => sizeT b + sizeTs bs
end
mutual
def levT : Tr → Nat
  | .mk _ _ bs => levTs bs + 1
def levTs : List Tr → Nat
  | [] => 0
  | b :: bs => max (levT b) (levTs bs)
end
theorem encTs_map : ∀ bs : List Tr, encTs bs = bs.map encT
  | [] => by rw [encTs]; rfl
  | b :: bs => by rw [encTs, encTs_map bs]; rfl
theorem encT_mk (nm : Str) (k : Int) (bs : List Tr) : encT (.mk nm k bs) = .tuple [.str nm, .int k, .tuple (bs.map encT)] := by rw [encT, encTs_map]
theorem levTs_le {n : Nat} : ∀ {bs : List Tr}, levTs bs ≤ n → ∀ b ∈ bs, levT b ≤ n
  | [], _, b, h => by simp at h
  | c :: bs, h, b, hb => by
    rw [levTs] at h
    rcases List.mem_cons.mp hb with e | e
    · subst e; omega
    · exact levTs_le (by omega) b e

structure TRow where
  nm : Str
  mar : Int
  up : Nat
end Mir
set_option Elab.async false
set_option linter.all false
set_option maxRecDepth 100000
set_option maxHeartbeats 4000000
namespace Mir
open PySem PySem.Spec L2

def kf (rs : List TRow) : Nat → Nat → List Nat
  | 0, _ => []
  | s + 1, j => if (rs[rs.length - 1 - s]?).map TRow.up = some j then (rs.length - 1 - s) :: kf rs s j else kf rs s j
def kids (rs : List TRow) (j : Nat) : List Nat := kf rs (rs.length - 1) j
abbrev zs (p : List Nat) : List Int := p.map fun k : Nat => (k : Int)

end Mir
set_option Elab.async false
set_option linter.all false
set_option maxRecDepth 100000
set_option maxHeartbeats 4000000
namespace Mir
open PySem PySem.Spec L2

theorem map_at {α β : Type} {f : α → β} {xs : List α} {i : Nat} {y : β} (h : (xs.map f)[i]? = some y) : ∃ x, xs[i]? = some x ∧ y = f x := by
  rw [List.getElem?_map] at h
  cases e : xs[i]? with
  | none => rw [e] at h; simp at h
  | some x => rw [e] at h; simp at h; exact ⟨x, rfl, h.symm⟩
theorem unDs_of {α : Type} (f : α → D) (xs : List α) : shD (.l (xs.map fun x => Ow.d (f x))) = .ok (.list (xs.map f)) := by
  have : (xs.map fun x => Ow.d (f x)) = (xs.map f).map Ow.d := by rw [List.map_map]; rfl
  rw [this, shD_l]
theorem viewAll_of {α : Type} (f : α → D) (xs : List α) : viewAll (xs.map fun x => Ow.d (f x)) = xs.map f := by
  rw [viewAll_map, List.map_map]
  rfl
theorem viewD_of {α : Type} (f : α → D) (xs : List α) : viewD (.l (xs.map fun x => Ow.d (f x))) = .list (xs.map f) := by
  rw [viewD_l, viewAll_of]
theorem str_len (z : Str) : z.length = z.cps.toList.length := by first | rfl | simp [Str.length]
theorem gMul_small {i j : Int} (h1 : i.natAbs < 2 ^ 250) (h2 : j.natAbs < 2 ^ 250) : gMul (.int i) (.int j) = some (.int (i * j)) := by
  refine gMul_int ?_
  have : ∀ n : Nat, n < 2 ^ 250 → n.log2 < 250 := fun n h => by
    by_cases e : n = 0
    · subst e; decide
    · exact (Nat.log2_lt e).mpr h
  unfold CMulW
  have a := this _ h1
  have b := this _ h2
  omega
theorem gDiv_small {i j : Int} (h1 : 0 < j) (h2 : j.natAbs < 2 ^ 250) : gDiv (.int i) (.int j) = some (.int (i / j)) := by
  refine gDiv_int ⟨h1, ?_⟩
  have := (Nat.log2_lt (n := j.natAbs) (k := 250) (by omega)).mpr h2
  omega
theorem gPow10 (k : Nat) (h : k ≤ 1000) : gPow (.int 10) (.int k) = some (.int (10 ^ k)) := by
  rw [gPow_int ⟨by omega, by omega, by decide⟩]
  simp
theorem cutL_take {α : Type} (xs : List α) (k : Nat) : cutL xs none (some (k : Int)) = xs.take k := by
  unfold cutL
  rw [HT.sIx_none, HT.sIx_nat, List.drop_zero, Nat.sub_zero]
  by_cases h : k ≤ xs.length
  · rw [Nat.min_eq_left h]
  · rw [Nat.min_eq_right (by omega), List.take_of_length_le (Nat.le_refl _), List.take_of_length_le (by omega)]
theorem cutL_drop {α : Type} (xs : List α) (k : Nat) : cutL xs (some (k : Int)) none = xs.drop k := by
  unfold cutL
  rw [HT.sIx_none, HT.sIx_nat]
  by_cases h : k ≤ xs.length
  · rw [Nat.min_eq_left h, List.take_of_length_le (by rw [List.length_drop]; exact Nat.le_refl _)]
  · rw [Nat.min_eq_right (by omega), List.drop_of_length_le (by omega), List.drop_of_length_le (by omega)]
    simp
theorem canAll_of : ∀ ds : List D, (∀ d ∈ ds, d.canLay0 = true) → PyData.canLayAll0 ds = true
  | [], _ => by simp [PyData.canLayAll0]
  | d :: ds, h => by
    rw [PyData.canLayAll0, h d List.mem_cons_self, canAll_of ds fun d hd => h d (List.mem_cons_of_mem _ hd)]
    rfl
theorem depthAll_of {n : Nat} : ∀ ds : List D, (∀ d ∈ ds, d.depth ≤ n) → PyData.depthAll ds ≤ n
  | [], _ => by simp [PyData.depthAll]
  | d :: ds, h => by
    rw [PyData.depthAll]
    have := h d List.mem_cons_self
    have := depthAll_of ds fun d hd => h d (List.mem_cons_of_mem _ hd)
    omega
/-- data that == can be asked of -/
def Nice (d : D) : Prop := d.canLay0 = true ∧ d.depth ≤ 130
theorem gEq_nice {d e : D} (h : Nice d) (g : Nice e) : gEq d e = some (.bool (PyData.eqv d e)) := by
  have z : eqOk d e = true := by unfold eqOk; simp [h.1, h.2, g.1]
  unfold gEq; rw [if_pos (by rw [z, Bool.or_true])]
theorem gNe_nice {d e : D} (h : Nice d) (g : Nice e) : gNe d e = some (.bool (!PyData.eqv d e)) := by
  have z : eqOk d e = true := by unfold eqOk; simp [h.1, h.2, g.1]
  unfold gNe; rw [if_pos (by rw [z, Bool.or_true])]
theorem eqv_self {d : D} (h : Nice d) : PyData.eqv d d = true := SeqAt.eqv_refl d h.1
theorem gEq_self {d : D} (h : Nice d) : gEq d d = some (.bool true) := by rw [gEq_nice h h, eqv_self h]
mutual
def okT : Tr → Prop
  | .mk nm _ bs => PyData.strOk nm = true ∧ bs.length ≤ 1000 ∧ okTs bs
def okTs : List Tr → Prop
  | [] => True
  | b :: bs => okT b ∧ okTs bs
end
theorem okTs_iff : ∀ bs : List Tr, okTs bs ↔ ∀ b ∈ bs, okT b
  | [] => by simp [okTs]
  | b :: bs => by rw [okTs, okTs_iff bs]; simp
abbrev abc : Str := "abcdefghijklmnopqrstuvwxyz"
end Mir
set_option Elab.async false
set_option linter.all false
set_option maxRecDepth 100000
set_option maxHeartbeats 4000000
namespace Mir
open PySem PySem.Spec L2

def tx (l : List Nat) : Str := ⟨l.toArray⟩
@[simp] theorem tx_cps (l : List Nat) : (tx l).cps.toList = l := by simp [tx]
@[simp] theorem tx_len (l : List Nat) : (tx l).length = l.length := by rw [str_len, tx_cps]
theorem tx_of (z : Str) : z = tx z.cps.toList := by
  cases z with
  | mk a => simp [tx]
theorem tx_inj {a b : List Nat} (h : tx a = tx b) : a = b := by
  have := congrArg (fun z : Str => z.cps.toList) h
  simpa using this
theorem gIx_tx {l : List Nat} {i c : Nat} (h : l[i]? = some c) (hl : l.length ≤ 16777216) : gIx (.str (tx l)) (.int (i : Nat)) = some (.str (tx [c])) := by
  show (if (tx l).length ≤ sizeLine then (atI (tx l).cps.toList (i : Int)).map fun c => PyData.str ⟨#[c]⟩ else none) = _
  rw [tx_len, tx_cps, if_pos (by rw [sizeLine_eq]; exact hl), atI_natD h]
  rfl
theorem atI_last {α : Type} {xs : List α} {x : α} : atI (xs ++ [x]) (-1) = some x := by
  unfold atI ixN
  rw [if_neg (by decide)]
  have : -((xs ++ [x]).length : Int) ≤ -1 := by rw [List.length_append, List.length_singleton]; omega
  rw [if_pos this]
  have e : (-1 + ((xs ++ [x]).length : Int)).toNat = xs.length := by rw [List.length_append, List.length_singleton]; omega
  show (xs ++ [x])[(-1 + ((xs ++ [x]).length : Int)).toNat]? = _
  rw [e, List.getElem?_append_right (Nat.le_refl _)]
  simp
theorem abc_is : abc.cps.toList = (List.range 26).map (fun k => 97 + k) := by decide +kernel
theorem empty_is : (Str.ofString "") = tx [] := by rw [tx_of (Str.ofString "")]; congr 1

end Mir
set_option Elab.async false
set_option linter.all false
set_option maxRecDepth 100000
set_option maxHeartbeats 4000000
namespace Mir
open PySem PySem.Spec L2
theorem abc_ix {k : Nat} (hk : k < 26) : gIx (.str abc) (.int (k : Int)) = some (.str (tx [97 + k])) := by
  rw [tx_of abc, abc_is]
  refine gIx_tx ?_ (by simp)
  rw [List.getElem?_map, List.getElem?_range hk]
  rfl
theorem strOk_tx {l : List Nat} (h : ∀ c ∈ l, c < 1000) : PyData.strOk (tx l) = true := by
  unfold PyData.strOk
  simp only [tx, List.all_toArray, List.all_eq_true, decide_eq_true_eq]
  intro c hc
  have := h c hc
  omega
end Mir
set_option Elab.async false
set_option linter.all false
set_option maxRecDepth 100000
set_option maxHeartbeats 4000000
namespace Mir
open PySem PySem.Spec L2

inductive Trm where
  | call (m b : Int)
  | put (nm : Str) (kp : Bool) (ad : Int) (ps : List Trm)
mutual
def encM : Trm → D
  | .call m b => .tuple [.str "call", .int m, .int b]
  | .put nm kp ad ps => .tuple [.str "put", .str nm, .bool kp, .int ad, .tuple (encMs ps)]
def encMs : List Trm → List D
  | [] => []
  | p :: ps => encM p :: encMs ps
end
mutual
def sizeM : Trm → Nat
  | .call _ _ => 1
  | .put _ _ _ ps => 1 + sizeMs ps
def sizeMs : List Trm → Nat
  | [] => 0
  | p :: ps => sizeM p + sizeMs ps
end
mutual
def levM : Trm → Nat
  | .call _ _ => 1
  | .put _ _ _ ps => levMs ps + 1
def levMs : List Trm → Nat
  | [] => 0
  | p :: ps => max (levM p) (levMs ps)
end
mutual
def callsM : Trm → List (Int × Int)
  | .call m b => [(m, b)]
  | .put _ _ _ ps => callsMs ps
def callsMs : List Trm → List (Int × Int)
  | [] => []
  | p :: ps => callsM p ++ callsMs ps
end
mutual
def okM : Trm → Prop
  | .call _ _ => True
  | .put nm _ _ ps => PyData.strOk nm = true ∧ ps.length ≤ 1000 ∧ okMs ps
def okMs : List Trm → Prop
  | [] => True
  | p :: ps => okM p ∧ okMs ps
end
theorem encMs_map : ∀ ps : List Trm, encMs ps = ps.map encM
  | [] => by rw [encMs]; rfl
  | p :: ps => by rw [encMs, encMs_map ps]; rfl
theorem callsMs_flat : ∀ ps : List Trm, callsMs ps = (ps.map callsM).flatten
  | [] => by rw [callsMs]; rfl
  | p :: ps => by rw [callsMs, callsMs_flat ps]; rfl
theorem okMs_iff : ∀ ps : List Trm, okMs ps ↔ ∀ p ∈ ps, okM p
  | [] => by simp [okMs]
  | p :: ps => by rw [okMs, okMs_iff ps]; simp
theorem encM_call (m b : Int) : encM (.call m b) = .tuple [.str "call", .int m, .int b] := by rw [encM]
theorem encM_put (nm : Str) (kp : Bool) (ad : Int) (ps : List Trm) : encM (.put nm kp ad ps) = .tuple [.str "put", .str nm, .bool kp, .int ad, .tuple (ps.map encM)] := by rw [encM, encMs_map]
theorem levMs_le {n : Nat} : ∀ {ps : List Trm}, levMs ps ≤ n → ∀ p ∈ ps, levM p ≤ n
  | [], _, b, h => by simp at h
  | c :: ps, h, b, hb => by
    rw [levMs] at h
    rcases List.mem_cons.mp hb with e | e
    · subst e; omega
    · exact levMs_le (by omega) b e
mutual
theorem can_encM : ∀ t : Trm, okM t → (encM t).canLay0 = true
  | .call m b, _ => by
    rw [encM, PyData.canLay0]
    have : PyData.strOk "call" = true := by decide +kernel
    simp [PyData.canLayAll0, PyData.canLay0, this]
  | .put nm kp ad ps, h => by
    rw [okM] at h
    rw [encM, PyData.canLay0]
    have : PyData.strOk "put" = true := by decide +kernel
    simp [PyData.canLayAll0, PyData.canLay0, this, h.1, can_encMs ps h.2.2]
theorem can_encMs : ∀ ps : List Trm, okMs ps → PyData.canLayAll0 (encMs ps) = true
  | [], _ => by simp [encMs, PyData.canLayAll0]
  | p :: ps, h => by
    rw [okMs] at h
    rw [encMs, PyData.canLayAll0, can_encM p h.1, can_encMs ps h.2]
    rfl
end
mutual
theorem depth_encM : ∀ t : Trm, (encM t).depth ≤ 2 * levM t
  | .call m b => by rw [encM, levM]; simp [PyData.depth, PyData.depthAll]
  | .put nm kp ad ps => by
    rw [encM, levM]
    have := depth_encMs ps
    simp only [PyData.depth, PyData.depthAll]
    omega
theorem depth_encMs : ∀ ps : List Trm, PyData.depthAll (encMs ps) ≤ 2 * levMs ps
  | [] => by simp [encMs, PyData.depthAll]
  | p :: ps => by
    rw [encMs, PyData.depthAll, levMs]
    have := depth_encM p
    have := depth_encMs ps
    omega
end
theorem str_eqv (a b : Str) : PyData.eqv (.str a) (.str b) = (a == b) := rfl
theorem gEq_strs (a b : String) : gEq (.str (Str.ofString a)) (.str (Str.ofString b)) = some (.bool (PyData.eqv (.str (Str.ofString a)) (.str (Str.ofString b)))) := rfl
@[simp] theorem gEq_cc : gEq (.str (Str.ofString "call")) (.str (Str.ofString "call")) = some (.bool true) := by
  have h : (Str.ofString "call" == Str.ofString "call") = true := by decide +kernel
  rw [gEq_strs, str_eqv, h]
@[simp] theorem gEq_pc : gEq (.str (Str.ofString "put")) (.str (Str.ofString "call")) = some (.bool false) := by
  have h : (Str.ofString "put" == Str.ofString "call") = false := by decide +kernel
  rw [gEq_strs, str_eqv, h]
@[simp] theorem gEq_cp : gEq (.str (Str.ofString "call")) (.str (Str.ofString "put")) = some (.bool false) := by
  have h : (Str.ofString "call" == Str.ofString "put") = false := by decide +kernel
  rw [gEq_strs, str_eqv, h]
@[simp] theorem gEq_pp : gEq (.str (Str.ofString "put")) (.str (Str.ofString "put")) = some (.bool true) := by
  have h : (Str.ofString "put" == Str.ofString "put") = true := by decide +kernel
  rw [gEq_strs, str_eqv, h]
theorem lcR_map {α : Type} {g : D → Ev → Option Ev} {c : Ev → R Bool} {e : Ev → R Ow} {env : Ev} (enc : α → D) (out : α → Ow) : ∀ xs : List α, (∀ a ∈ xs, ∃ env1, g (enc a) env = some env1 ∧ c env1 = .ok true ∧ e env1 = .ok (out a)) → lcR g c e env (xs.map enc) = .ok (xs.map out)
  | [], _ => rfl
  | a :: xs, q => by
    obtain ⟨env1, q1, q2, q3⟩ := q a List.mem_cons_self
    rw [List.map_cons]
    unfold lcR
    rw [q1]
    simp only [q2, q3, noEx_ok, R.bind_ok, if_true]
    rw [lcR_map enc out xs fun d hd => q d (List.mem_cons_of_mem _ hd)]
    rfl
theorem forL_map {α : Type} {g : D → Ev → Option Ev} {f : Ev → SR} (enc : α → D) (xs : List α) (I : Nat → Ev → Prop) (step : ∀ i a env, xs[i]? = some a → I i env → ∃ env1, g (enc a) env = some env1 ∧ ∃ env2, (f env1 = .nx env2 ∨ f env1 = .ct env2) ∧ I (i + 1) env2) (env : Ev) (h : I 0 env) : ∃ env', forL g f (xs.map enc) env = .nx env' ∧ I xs.length env' := by
  have := forL_ind (g := g) (f := f) (xs.map enc) I (fun i d env hd hi => by
    obtain ⟨a, ha, rfl⟩ := map_at hd
    exact step i a env ha hi) env h
  rwa [List.length_map] at this
noncomputable section
def encC (c : Int × Int) : D := .tuple [.int c.1, .int c.2]
abbrev encCs (cs : List (Int × Int)) : Ow := .l (cs.map fun c => .d (encC c))
end
end Mir
set_option Elab.async false
set_option linter.all false
set_option maxRecDepth 100000
set_option maxHeartbeats 4000000
namespace Mir
open PySem PySem.Spec L2

abbrev dkD (dk : List Int) : D := .list (dk.map PyData.int)
/-- what a deck's def tells: r, and the deck behind it -/
abbrev tells (r : D) (dk : List Int) : R Ow := .ok (.d (.tuple [r, dkD dk]))
theorem sXSet_of {i : Nat} {f : Ev → R (D × Ev)} {env env1 : Ev} {d : D} (h : f env = .ok (d, env1)) (hi : i < env1.length) : sXSet i f env = .nx (env1.set i (some (.d d))) := by
  rw [sXSet_eq, h]
  exact if_pos hi
noncomputable section
/-- a def that draws a number below most -/
def Draws (fd : List D → R Ow) : Prop := ∀ (dk : List Int) (most : Int), 0 < most → ∃ r dk', 0 ≤ r ∧ r < most ∧ fd (dkD dk :: [.int most]) = tells (.int r) dk'
end
end Mir
set_option Elab.async false
set_option linter.all false
set_option maxRecDepth 100000
set_option maxHeartbeats 4000000
namespace Mir
open PySem PySem.Spec L2

def mar : Tr → Int
  | .mk _ k _ => k

end Mir
set_option Elab.async false
set_option linter.all false
set_option maxRecDepth 100000
set_option maxHeartbeats 4000000
namespace Mir
open PySem PySem.Spec L2
noncomputable section
end
end Mir
set_option Elab.async false
set_option linter.all false
set_option maxRecDepth 100000
set_option maxHeartbeats 4000000
namespace Mir
open PySem PySem.Spec L2

inductive Stp where
  | op
  | put (nm : Str) (k : Int) (ps : List Stp)
mutual
def encS : Stp → D
  | .op => .tuple [.str "open"]
  | .put nm k ps => .tuple [.str "put", .str nm, .int k, .tuple (encSs ps)]
def encSs : List Stp → List D
  | [] => []
  | p :: ps => encS p :: encSs ps
end

@[simp] theorem gNe_str (a b : Str) : gNe (.str a) (.str b) = some (.bool (!(a == b))) := rfl
@[simp] theorem gEq_oo : gEq (.str (Str.ofString "open")) (.str (Str.ofString "open")) = some (.bool true) := by
  have h : (Str.ofString "open" == Str.ofString "open") = true := by decide +kernel
  rw [gEq_strs, str_eqv, h]
@[simp] theorem gEq_po : gEq (.str (Str.ofString "put")) (.str (Str.ofString "open")) = some (.bool false) := by
  have h : (Str.ofString "put" == Str.ofString "open") = false := by decide +kernel
  rw [gEq_strs, str_eqv, h]
@[simp] theorem gIsi_str_str (z : Str) : gIsi "str" (.str z) = .ok (.bool true) := rfl
@[simp] theorem gIsi_bool_bool (b : Bool) : gIsi "bool" (.bool b) = .ok (.bool true) := rfl
section
variable (nm : Str) (k : Int) (ps : List Stp) (bs : List Tr)
theorem t_ix0 : gIx (encT (.mk nm k bs)) (.int 0) = some (.str nm) := by rw [encT_mk]; simp
theorem t_ix1 : gIx (encT (.mk nm k bs)) (.int 1) = some (.int k) := by rw [encT_mk]; simp
theorem t_ix2 : gIx (encT (.mk nm k bs)) (.int 2) = some (.tuple (bs.map encT)) := by rw [encT_mk]; simp
end
noncomputable section
end
end Mir
set_option Elab.async false
set_option linter.all false
set_option maxRecDepth 100000
set_option maxHeartbeats 4000000
namespace Mir
open PySem PySem.Spec L2
noncomputable section
end
end Mir
set_option Elab.async false
set_option linter.all false
set_option maxRecDepth 100000
set_option maxHeartbeats 4000000
namespace Mir
open PySem PySem.Spec L2
mutual
def met : Stp → Stp → Stp
  | .op, _ => .op
  | .put nm k ps, o => match o with
    | .op => .op
    | .put nm' k' qs => bif (nm == nm') && ((k == k') && (ps.length == qs.length)) then .put nm k (mets ps qs) else .op
def mets : List Stp → List Stp → List Stp
  | [], _ => []
  | p :: ps, qs => match qs with
    | [] => []
    | q :: qs => met p q :: mets ps qs
end
theorem zipD_zip {α β : Type} (e1 : α → D) (e2 : β → D) : ∀ (as : List α) (bs : List β), zipD (as.map e1) (bs.map e2) = (as.zip bs).map fun p => .tuple [e1 p.1, e2 p.2]
  | [], bs => by simp
  | a :: as, [] => by simp
  | a :: as, b :: bs => by rw [List.map_cons, List.map_cons, zipD_cons, zipD_zip e1 e2 as bs]; rfl
noncomputable section
end
end Mir
set_option Elab.async false
set_option linter.all false
set_option maxRecDepth 100000
set_option maxHeartbeats 4000000
namespace Mir
open PySem PySem.Spec L2
mutual
def stIn (ss : List Stp) : Trm → Stp
  | .call m _ => ss.getD m.toNat .op
  | .put nm kp ad ps => bif kp then .op else .put nm ad (stIns ss ps)
def stIns (ss : List Stp) : List Trm → List Stp
  | [] => []
  | p :: ps => stIn ss p :: stIns ss ps
end
def metOf : List Stp → Stp
  | [] => .op
  | s :: ss => ss.foldl met s
/-- a mode: its rules, and which of them are those of rows without branches -/
structure Md where
  kd : Str
  rls : List (Bool × Trm)
def bares (m : Md) : List Trm := (m.rls.filter (·.1)).map (·.2)
def rulesM (m : Md) : List Trm := m.rls.map (·.2)
def MdOk (m : Md) : Prop := bares m ≠ [] ∧ ∀ t ∈ bares m, callsM t = []
def tab0 (ms : List Md) : List Stp := ms.map fun m => metOf ((bares m).map (stIn []))
def tabN (ms : List Md) (ss : List Stp) : List Stp := ms.map fun m => metOf ((rulesM m).map (stIn ss))
def tab (ms : List Md) : Nat → List Stp
  | 0 => tab0 ms
  | n + 1 => tabN ms (tab ms n)
end Mir
set_option Elab.async false
set_option linter.all false
set_option maxRecDepth 100000
set_option maxHeartbeats 4000000
namespace Mir
open PySem PySem.Spec L2
structure Rw where
  nm : Str
  br : List Str
abbrev Wood := List (Str × List Rw)
def encRw (r : Rw) : D := .tuple [.str r.nm, .tuple (r.br.map PyData.str)]
def encKd (p : Str × List Rw) : D := .tuple [.str p.1, .list (p.2.map encRw)]
def encWd (w : Wood) : D := .list (w.map encKd)
structure Trn where
  wood : Wood
  start : Trm
  modes : List (Str × List Trm)
def encMo (p : Str × List Trm) : D := .tuple [.str p.1, .list (p.2.map encM)]
def encTn (t : Trn) : D := .tuple [encWd t.wood, encM t.start, .list (t.modes.map encMo)]
def rowsOf : Wood → Str → List Rw
  | [], _ => []
  | p :: w, k => bif p.1 == k then p.2 else rowsOf w k
def mdOf (w : Wood) (p : Str × List Trm) : Md := ⟨p.1, List.zipWith (fun (r : Rw) t => (r.br.isEmpty, t)) (rowsOf w p.1) p.2⟩
def mds (t : Trn) : List Md := t.modes.map (mdOf t.wood)
/-- a turning that the drawing makes -/
structure TnOk (t : Trn) : Prop where
  few : t.modes.length ≤ 100
  few1 : 1 ≤ t.modes.length
  rows : ∀ p ∈ t.modes, p.2.length = (rowsOf t.wood p.1).length ∧ p.2.length ≤ 100
  bare : ∀ p ∈ t.modes, MdOk (mdOf t.wood p)
  term : ∀ p ∈ t.modes, ∀ r ∈ p.2, okM r ∧ levM r ≤ 10 ∧ sizeM r ≤ 1000 ∧ ∀ c ∈ callsM r, 0 ≤ c.1 ∧ c.1 < t.modes.length
  names : (∀ p ∈ t.wood, PyData.strOk p.1 = true ∧ p.2.length ≤ 100 ∧ ∀ r ∈ p.2, PyData.strOk r.nm = true ∧ r.br.length ≤ 100 ∧ ∀ b ∈ r.br, PyData.strOk b = true)
  kinds : t.wood.length ≤ 100
  start : okM t.start ∧ levM t.start ≤ 10
theorem w_ix0 (t : Trn) : gIx (encTn t) (.int 0) = some (encWd t.wood) := by unfold encTn; simp
theorem w_ix1 (t : Trn) : gIx (encTn t) (.int 1) = some (encM t.start) := by unfold encTn; simp
theorem w_ix2 (t : Trn) : gIx (encTn t) (.int 2) = some (.list (t.modes.map encMo)) := by unfold encTn; simp
theorem gEq_str (a b : Str) : gEq (.str a) (.str b) = some (.bool (a == b)) := rfl
theorem nice_strs {l : List Str} (h : ∀ z ∈ l, PyData.strOk z = true) : Nice (.tuple (l.map PyData.str)) := by
  refine ⟨?_, ?_⟩
  · rw [PyData.canLay0]
    exact canAll_of _ fun d hd => by
      obtain ⟨z, hz, rfl⟩ := List.mem_map.mp hd
      rw [PyData.canLay0]; exact h z hz
  · rw [PyData.depth]
    have := depthAll_of (n := 0) (l.map PyData.str) fun d hd => by
      obtain ⟨z, hz, rfl⟩ := List.mem_map.mp hd
      simp [PyData.depth]
    omega
noncomputable section
abbrev rowsB : Ev → SR := (sIf (eB (eBin gEq (eVar 2) (eVar 1)) asB)
    (sRet (eM (eVar 3) Ow.d))
    sSkip)
theorem rows_loop (W0 : D) (k : Str) : ∀ (w : Wood) (x2 x3 : Option Ow), ∃ env', forL (gtTup 2 (gtCons (gtName 2) (gtCons (gtName 3) gtNil))) rowsB (w.map encKd) [some (.d W0), some (.d (.str k)), x2, x3] = if (w.any fun p => p.1 == k) then .rt (.d (.list ((rowsOf w k).map encRw))) env' else .nx env'
  | [], x2, x3 => ⟨[some (.d W0), some (.d (.str k)), x2, x3], by simp [forL]⟩
  | p :: w, x2, x3 => by
    have g : gtTup 2 (gtCons (gtName 2) (gtCons (gtName 3) gtNil)) (encKd p) [some (.d W0), some (.d (.str k)), x2, x3] = some [some (.d W0), some (.d (.str k)), some (.d (.str p.1)), some (.d (.list (p.2.map encRw)))] := rfl
    rw [List.map_cons, forL, g]
    cases c : p.1 == k with
    | true =>
      refine ⟨[some (.d W0), some (.d (.str k)), some (.d (.str p.1)), some (.d (.list (p.2.map encRw)))], ?_⟩
      have e : rowsB [some (.d W0), some (.d (.str k)), some (.d (.str p.1)), some (.d (.list (p.2.map encRw)))] = .rt (.d (.list (p.2.map encRw))) [some (.d W0), some (.d (.str k)), some (.d (.str p.1)), some (.d (.list (p.2.map encRw)))] := by
        generalize PyData.list (p.2.map encRw) = RS
        simp [gEq_str, c]
      simp only [e]
      rw [List.any_cons, c, rowsOf, c]
      rfl
    | false =>
      obtain ⟨env', ih⟩ := rows_loop W0 k w (some (.d (.str p.1))) (some (.d (.list (p.2.map encRw))))
      refine ⟨env', ?_⟩
      have e : rowsB [some (.d W0), some (.d (.str k)), some (.d (.str p.1)), some (.d (.list (p.2.map encRw)))] = .nx [some (.d W0), some (.d (.str k)), some (.d (.str p.1)), some (.d (.list (p.2.map encRw)))] := by
        generalize PyData.list (p.2.map encRw) = RS
        simp [gEq_str, c]
      simp only [e]
      rw [ih, List.any_cons, c, rowsOf, c]
      rfl
abbrev bRowsOf : Ev → SR := (sSeq (sFor (eB (eVar 0) itD) (gtTup 2 (gtCons (gtName 2) (gtCons (gtName 3) gtNil)))
    (sIf (eB (eBin gEq (eVar 2) (eVar 1)) asB)
    (sRet (eM (eVar 3) Ow.d))
    sSkip))
    (sRet (eLst aNil)))
/-- tells these rows, as data or as a list of its own -/
theorem rowsOf_fin (w : Wood) (k : Str) : ∃ o, finR (bRowsOf (envOf 2 [encWd w, .str k])) = .ok o ∧ viewD o = .list ((rowsOf w k).map encRw) := by
  have he : envOf 2 [encWd w, .str k] = [some (.d (encWd w)), some (.d (.str k)), none, none] := rfl
  rw [he]
  obtain ⟨env', lp⟩ := rows_loop (encWd w) k w none none
  have fo : (sFor (eB (eVar 0) itD) (gtTup 2 (gtCons (gtName 2) (gtCons (gtName 3) gtNil))) rowsB) [some (.d (encWd w)), some (.d (.str k)), none, none] = forL (gtTup 2 (gtCons (gtName 2) (gtCons (gtName 3) gtNil))) rowsB (w.map encKd) [some (.d (encWd w)), some (.d (.str k)), none, none] := by
    rw [sFor_eq]
    simp only [eB_eq, eVar_0, R.bind_ok]
    unfold encWd
    simp only [itD_list, R.st_ok]
  cases c : w.any fun p => p.1 == k with
  | true =>
    rw [c, if_pos rfl] at lp
    refine ⟨.d (.list ((rowsOf w k).map encRw)), ?_, viewD_d _⟩
    show finR (sSeq _ _ _) = _
    rw [sSeq_eq, fo, lp]
    rfl
  | false =>
    rw [c, if_neg (by decide)] at lp
    have e : rowsOf w k = [] := by
      have : ∀ w : Wood, (w.any fun p => p.1 == k) = false → rowsOf w k = [] := fun w => by
        induction w with
        | nil => intro _; rfl
        | cons p w ih =>
          intro h
          rw [List.any_cons, Bool.or_eq_false_iff] at h
          rw [rowsOf, h.1, ih h.2]
          rfl
      exact this w c
    refine ⟨.l [], ?_, by rw [e]; simp⟩
    show finR (sSeq _ _ _) = _
    rw [sSeq_eq, fo, lp]
    simp [sizeLine_eq]
section
variable (nm : Str) (kp : Bool) (ad : Int) (ps : List Trm) (m b : Int)
theorem m_ix0 : gIx (encM (.put nm kp ad ps)) (.int 0) = some (.str "put") := by rw [encM_put]; simp
theorem m_ix1 : gIx (encM (.put nm kp ad ps)) (.int 1) = some (.str nm) := by rw [encM_put]; simp
theorem m_ix2 : gIx (encM (.put nm kp ad ps)) (.int 2) = some (.bool kp) := by rw [encM_put]; simp
theorem m_ix3 : gIx (encM (.put nm kp ad ps)) (.int 3) = some (.int ad) := by rw [encM_put]; simp
theorem m_ix4 : gIx (encM (.put nm kp ad ps)) (.int 4) = some (.tuple (ps.map encM)) := by rw [encM_put]; simp
theorem c_ix0 : gIx (encM (.call m b)) (.int 0) = some (.str "call") := by rw [encM_call]; simp
theorem c_ix1 : gIx (encM (.call m b)) (.int 1) = some (.int m) := by rw [encM_call]; simp
theorem c_ix2 : gIx (encM (.call m b)) (.int 2) = some (.int b) := by rw [encM_call]; simp
end
def stD (ss : List Stp) : D := .list (ss.map encS)
end
end Mir
set_option Elab.async false
set_option linter.all false
set_option maxRecDepth 100000
set_option maxHeartbeats 4000000
namespace Mir
open PySem PySem.Spec L2
theorem seq_nx {f g : Ev → SR} {env env1 : Ev} {r : SR} (h1 : f env = .nx env1) (h2 : g env1 = r) : sSeq f g env = r := by
  rw [sSeq_eq, h1]
  exact h2
noncomputable section
theorem bares_zip (w : Wood) (p : Str × List Trm) : bares (mdOf w p) = (((rowsOf w p.1).zip p.2).filter fun q => q.1.br.isEmpty).map (·.2) := by
  unfold bares mdOf
  show ((List.zipWith (fun (r : Rw) t => (r.br.isEmpty, t)) (rowsOf w p.1) p.2).filter (·.1)).map (·.2) = _
  generalize rowsOf w p.1 = rs
  generalize p.2 = ts
  induction rs generalizing ts with
  | nil => rfl
  | cons r rs ih =>
    cases ts with
    | nil => rfl
    | cons t ts =>
      rw [List.zipWith_cons_cons, List.zip_cons_cons]
      cases c : r.br.isEmpty with
      | true =>
        rw [List.filter_cons_of_pos (by simp [c]), List.filter_cons_of_pos (by simp [c]), List.map_cons, List.map_cons, ih ts]
      | false =>
        rw [List.filter_cons_of_neg (by simp [c]), List.filter_cons_of_neg (by simp [c]), ih ts]
/-- what the parts promise -/
structure Parts (t : Trn) (f1 f2 f3 : List D → R Ow) : Prop where
  rows : ∀ p ∈ t.modes, ∃ o, f1 [encWd t.wood, .str p.1] = .ok o ∧ viewD o = .list ((rowsOf t.wood p.1).map encRw)
  bare : ∀ p ∈ t.modes, ∀ r ∈ p.2, callsM r = [] → f2 [encM r, .list []] = .ok (.d (encS (stIn [] r)))
  stump : ∀ p ∈ t.modes, ∀ r ∈ p.2, ∀ ss : List Stp, ss.length = t.modes.length → f2 [encM r, stD ss] = .ok (.d (encS (stIn ss r)))
  met0 : ∀ p ∈ t.modes, f3 [stD ((bares (mdOf t.wood p)).map (stIn []))] = .ok (.d (encS (metOf ((bares (mdOf t.wood p)).map (stIn [])))))
  metN : ∀ p ∈ t.modes, ∀ n : Nat, f3 [stD (p.2.map (stIn (tab (mds t) n)))] = .ok (.d (encS (metOf (p.2.map (stIn (tab (mds t) n))))))
end
end Mir
set_option Elab.async false
set_option linter.all false
set_option maxRecDepth 100000
set_option maxHeartbeats 4000000
namespace Mir
open PySem PySem.Spec L2
noncomputable section
end
end Mir
set_option Elab.async false
set_option linter.all false
set_option maxRecDepth 100000
set_option maxHeartbeats 4000000
namespace Mir
open PySem PySem.Spec L2
noncomputable section
def encCl (c : Int × Int) : D := .tuple [.int c.1, .int c.2]
def caD (cs : List (Int × Int)) : D := .list (cs.map encCl)
mutual
def thinM : Trm → Prop
  | .call _ _ => True
  | .put _ _ _ ps => ps.length ≤ 3 ∧ thinMs ps
def thinMs : List Trm → Prop
  | [] => True
  | p :: ps => thinM p ∧ thinMs ps
end
def TermIn (cs : List (Int × Int)) (n : Nat) (t : Trm) : Prop := okM t ∧ levM t ≤ n + 1 ∧ sizeM t ≤ 4 ^ (n + 1) ∧ (∀ c ∈ callsM t, c ∈ cs) ∧ thinM t
theorem TermIn.up {cs : List (Int × Int)} {n m : Nat} {t : Trm} (h : TermIn cs n t) (hm : n ≤ m) : TermIn cs m t := ⟨h.1, by have := h.2.1; omega, Nat.le_trans h.2.2.1 (Nat.pow_le_pow_right (by decide) (by omega)), h.2.2.2⟩
end
end Mir
set_option Elab.async false
set_option linter.all false
set_option maxRecDepth 100000
set_option maxHeartbeats 4000000
namespace Mir
open PySem PySem.Spec L2
theorem perm_map_inv {α β : Type} {f : α → β} {ds es : List β} (h : ds.Perm es) : ∀ xs : List α, es = xs.map f → ∃ ys : List α, ys.Perm xs ∧ ds = ys.map f := by
  induction h with
  | nil => intro xs e; exact ⟨[], by cases xs with | nil => exact .refl _ | cons => simp at e, rfl⟩
  | cons x h ih =>
    intro xs e
    cases xs with
    | nil => simp at e
    | cons a xs =>
      rw [List.map_cons] at e
      injection e with e1 e2
      obtain ⟨ys, h1, h2⟩ := ih xs e2
      exact ⟨a :: ys, h1.cons a, by rw [e1, h2]; rfl⟩
  | swap x y l =>
    intro xs e
    match xs, e with
    | a :: b :: xs, e =>
      simp only [List.map_cons] at e
      injection e with e1 e2
      injection e2 with e2 e3
      exact ⟨b :: a :: xs, .swap a b xs, by rw [e1, e2, e3]; rfl⟩
    | [_], e => simp at e
    | [], e => simp at e
  | trans h1 h2 ih1 ih2 =>
    intro xs e
    obtain ⟨ys, a, b⟩ := ih2 xs e
    obtain ⟨zs, c, d⟩ := ih1 ys b
    exact ⟨zs, c.trans a, d⟩
theorem alike_strs : ∀ xs ys : List Str, PySem.W.alikeAll (xs.map PyData.str) (ys.map PyData.str) = true
  | [], ys => by cases ys <;> rfl
  | x :: xs, [] => rfl
  | x :: xs, y :: ys => by
    rw [List.map_cons, List.map_cons, PySem.W.alikeAll, alike_strs xs ys]
    rfl
theorem sorted_rows (rows : List Rw) : ∃ rows' : List Rw, rows'.Perm rows ∧ gSorted [.list (rows.map encRw)] = some (.l (rows'.map fun r => .d (encRw r))) := by
  obtain ⟨rows', h1, h2⟩ := perm_map_inv (List.mergeSort_perm (rows.map encRw) (PySem.W.dataLe false id)) rows rfl
  refine ⟨rows', h1, ?_⟩
  have ok : sortOk (rows.map encRw) = true := by
    unfold sortOk
    simp only [Bool.and_eq_true, Bool.or_eq_true, List.all_eq_true, decide_eq_true_eq, List.mem_map]
    refine ⟨⟨?_, .inl ?_⟩, ?_⟩
    · rintro d ⟨r, _, rfl⟩ e ⟨s, _, rfl⟩
      have := alike_strs r.br s.br
      simp [encRw, PySem.W.alike, PySem.W.alikeAll, this]
    · rintro d ⟨r, _, rfl⟩
      rfl
    · rintro d ⟨r, _, rfl⟩
      have := depthAll_of (n := 0) (r.br.map PyData.str) fun d hd => by
        obtain ⟨z, hz, rfl⟩ := List.mem_map.mp hd
        simp [PyData.depth]
      simp only [encRw, PyData.depth, PyData.depthAll]
      omega
  unfold gSorted
  have e : sortedD (rows.map encRw) = rows'.map encRw := h2
  simp only [ok, if_true, e, List.map_map]
  rfl
noncomputable section
def CallOk (ks bs : List Str) (c : Int × Int) : Prop := ∃ i j : Nat, c = ((i : Int), (j : Int)) ∧ ∃ z, ks[i]? = some z ∧ bs[j]? = some z
def caO (cs : List (Int × Int)) : Ow := .l (cs.map fun c => .d (encCl c))
mutual
def bareM : Trm → Trm
  | .call m b => .call m b
  | .put nm _ ad ps => .put nm false ad (bareMs ps)
def bareMs : List Trm → List Trm
  | [] => []
  | p :: ps => bareM p :: bareMs ps
end
end
end Mir
set_option Elab.async false
set_option linter.all false
set_option maxRecDepth 100000
set_option maxHeartbeats 4000000
namespace Mir
open PySem PySem.Spec L2
def RwOk (w : Nat) (kn : Nat → Str) (r : Rw) : Prop := PyData.strOk r.nm = true ∧ r.br.length ≤ 4 ∧ ∀ z ∈ r.br, ∃ j, j < w ∧ z = kn j
structure WdOk (w : Wood) (kn : Nat → Str) : Prop where
  few : w.length ≤ 3
  one : 1 ≤ w.length
  nok : ∀ k, k < 900 → PyData.strOk (kn k) = true
  at_ : ∀ (k : Nat) p, w[k]? = some p → p.1 = kn k
  rows : ∀ p ∈ w, p.2.length ≤ 3 ∧ (∃ r ∈ p.2, r.br = []) ∧ ∀ r ∈ p.2, RwOk w.length kn r
noncomputable section
def wdO (w : Wood) : Ow := .l (w.map fun p => .d (encKd p))
theorem viewD_wdO (w : Wood) : viewD (wdO w) = encWd w := viewD_of encKd w
theorem rg1_nat (n : Nat) (h : n ≤ 100000) : rg1 [.int (n : Nat)] = .ok (rangeD 0 n) := by
  have : rg1 [.int (n : Nat)] = .ok (rangeD 0 ((n : Nat) : Int).toNat) := guard_ok (by omega)
  rw [this, Int.toNat_natCast]
theorem rangeD_map (n : Nat) : rangeD 0 n = (List.range n).map fun k : Nat => PyData.int (k : Nat) := by
  unfold rangeD
  exact List.map_congr_left fun k _ => by simp
section
variable {fd fn : List D → R Ow} {code : Int} {kn : Nat → Str}
end
end
end Mir
set_option Elab.async false
set_option linter.all false
set_option maxRecDepth 100000
set_option maxHeartbeats 4000000
namespace Mir
open PySem PySem.Spec L2
noncomputable section
theorem rowsOf_first : ∀ (w : Wood) (k : Str), (∃ p ∈ w, p.1 = k) → ∃ p, (w.filter fun p => p.1 == k)[0]? = some p ∧ p.2 = rowsOf w k ∧ p ∈ w
  | [], k, h => by obtain ⟨p, hp, _⟩ := h; cases hp
  | p :: w, k, h => by
    cases c : p.1 == k with
    | true =>
      refine ⟨p, by rw [List.filter_cons_of_pos (by simpa using c)]; rfl, by rw [rowsOf, c]; rfl, List.mem_cons_self⟩
    | false =>
      obtain ⟨q, hq, e⟩ := h
      have hq' : q ∈ w := by
        rcases List.mem_cons.mp hq with rfl | h
        · rw [e] at c; simp at c
        · exact h
      obtain ⟨r, h1, h2, h3⟩ := rowsOf_first w k ⟨q, hq', e⟩
      exact ⟨r, by rw [List.filter_cons_of_neg (by simp [c])]; exact h1, by rw [rowsOf, c]; exact h2, List.mem_cons_of_mem _ h3⟩
def RuleOk (ks bs : List Str) (t : Trm) : Prop := okM t ∧ levM t ≤ 3 ∧ sizeM t ≤ 64 ∧ ∀ c ∈ callsM t, CallOk ks bs c
structure TnMade (t : Trn) : Prop where
  few : t.modes.length ≤ 4
  one : 1 ≤ t.modes.length
  kind : ∀ p ∈ t.modes, ∃ q ∈ t.wood, q.1 = p.1
  rules : ∀ p ∈ t.modes, p.2.length = (rowsOf t.wood p.1).length ∧ ∀ (i : Nat) r u, (rowsOf t.wood p.1)[i]? = some r → p.2[i]? = some u → RuleOk (t.modes.map (·.1)) r.br u
  start : okM t.start ∧ levM t.start ≤ 3
def moO (ms : List (Str × List Trm)) : Ow := .l (ms.map fun p => .d (encMo p))
theorem viewD_moO (ms : List (Str × List Trm)) : viewD (moO ms) = .list (ms.map encMo) := viewD_of encMo ms
/-- what the parts of the drawing promise -/
structure Gens (fd ft fl fru fca fb : List D → R Ow) (code : Int) (w : Wood) : Prop where
  dr : Draws fd
  term : ∀ (cs : List (Int × Int)) (n : Nat), n ≤ 2 → ∀ dk, ∃ t dk', TermIn cs n t ∧ ft (dkD dk :: [.int code, caD cs, .int (n : Nat)]) = tells (encM t) dk'
  rows : ∀ k, (∃ p ∈ w, p.1 = k) → fl [encWd w, .str k] = .ok (.d (.list ((rowsOf w k).map encRw)))
  rule : ∀ (cs : List (Int × Int)) (base : Trm), TermIn [] 2 base → ∀ dk, ∃ t dk', TermIn cs 2 t ∧ fru (dkD dk :: [.int code, encM base, caD cs]) = tells (encM t) dk'
  callsT : ∀ ks bs : List Str, ks.length ≤ 100 → bs.length ≤ 100 → ∃ cs, fca [.list (ks.map PyData.str), .tuple (bs.map PyData.str)] = .ok (caO cs) ∧ ∀ c ∈ cs, CallOk ks bs c
  callsL : ∀ ks bs : List Str, ks.length ≤ 100 → bs.length ≤ 100 → ∃ cs, fca [.list (ks.map PyData.str), .list (bs.map PyData.str)] = .ok (caO cs) ∧ ∀ c ∈ cs, CallOk ks bs c
  bare : ∀ t, okM t → levM t ≤ 10 → fb [encM t] = .ok (.d (encM (bareM t)))
section
variable {fd ft fl fru fca fb : List D → R Ow} {code : Int} {w : Wood}
theorem TermIn.rule {ks bs : List Str} {cs : List (Int × Int)} {t : Trm} (h : TermIn cs 2 t) (hc : ∀ c ∈ cs, CallOk ks bs c) : RuleOk ks bs t := ⟨h.1, by have := h.2.1; omega, by have := h.2.2.1; omega, fun c hcc => hc c (h.2.2.2.1 c hcc)⟩
theorem rowsOf_mem {w : Wood} {k : Str} (hk : ∃ p ∈ w, p.1 = k) : ∃ p ∈ w, p.2 = rowsOf w k := by
  obtain ⟨p, _, h2, h3⟩ := rowsOf_first w k hk
  exact ⟨p, h3, h2⟩
end
end
end Mir
set_option Elab.async false
set_option linter.all false
set_option maxRecDepth 100000
set_option maxHeartbeats 4000000
namespace Mir
open PySem PySem.Spec L2
theorem TnMade.ok {t : Trn} {kn : Nat → Str} (m : TnMade t) (hw : WdOk t.wood kn) : TnOk t := by
  have kl : (t.modes.map (·.1)).length = t.modes.length := List.length_map _
  have each : ∀ p ∈ t.modes, ∀ u ∈ p.2, ∃ r ∈ rowsOf t.wood p.1, RuleOk (t.modes.map (·.1)) r.br u := fun p hp u hu => by
    obtain ⟨i, hi, e⟩ := List.mem_iff_getElem.mp hu
    obtain ⟨h1, h2⟩ := m.rules p hp
    have hi' : i < (rowsOf t.wood p.1).length := by omega
    exact ⟨_, List.getElem_mem hi', h2 i _ u (List.getElem?_eq_getElem hi') (by rw [List.getElem?_eq_getElem hi, e])⟩
  have rl : ∀ p ∈ t.modes, (rowsOf t.wood p.1).length ≤ 3 ∧ ∃ r ∈ rowsOf t.wood p.1, r.br = [] := fun p hp => by
    obtain ⟨q, q1, q2⟩ := rowsOf_mem (m.kind p hp)
    obtain ⟨a, b, _⟩ := hw.rows q q1
    rw [q2] at a b
    exact ⟨a, b⟩
  have wl := hw.few
  refine ⟨by have := m.few; omega, m.one, fun p hp => ⟨(m.rules p hp).1, by have := (m.rules p hp).1; have := (rl p hp).1; omega⟩, fun p hp => ?_, fun p hp u hu => ?_, fun p hp => ?_, by omega, m.start.1, by have := m.start.2; omega⟩
  · -- bare rows
    obtain ⟨h1, h2⟩ := m.rules p hp
    constructor
    · rw [bares_zip]
      obtain ⟨_, r, hr, hb⟩ := rl p hp
      obtain ⟨i, hi, e⟩ := List.mem_iff_getElem.mp hr
      intro z
      have z2 : ((rowsOf t.wood p.1).zip p.2).filter (fun q => q.1.br.isEmpty) = [] := by simpa using z
      have hm : (r, p.2[i]'(by omega)) ∈ ((rowsOf t.wood p.1).zip p.2).filter (fun q => q.1.br.isEmpty) := by
        refine List.mem_filter.mpr ⟨?_, by show r.br.isEmpty = true; rw [hb]; rfl⟩
        refine List.mem_iff_getElem.mpr ⟨i, by rw [List.length_zip]; omega, ?_⟩
        rw [List.getElem_zip, e]
      rw [z2] at hm
      cases hm
    · intro u hu
      rw [bares_zip] at hu
      obtain ⟨q, hq, rfl⟩ := List.mem_map.mp hu
      obtain ⟨q1, q2⟩ := List.mem_filter.mp hq
      obtain ⟨i, hi, e⟩ := List.mem_iff_getElem.mp q1
      rw [List.length_zip] at hi
      rw [List.getElem_zip] at e
      have ok := h2 i q.1 q.2 (by rw [List.getElem?_eq_getElem (by omega), ← e]) (by rw [List.getElem?_eq_getElem (by omega), ← e])
      have bn : q.1.br = [] := by simpa using q2
      cases hc : callsM q.2 with
      | nil => rfl
      | cons c cs =>
        obtain ⟨i, j, _, z, _, hz⟩ := ok.2.2.2 c (by rw [hc]; exact List.mem_cons_self)
        rw [bn] at hz
        simp at hz
  · obtain ⟨r, _, o1, o2, o3, o4⟩ := each p hp u hu
    refine ⟨o1, by omega, by omega, fun c hc => ?_⟩
    obtain ⟨i, j, e, z, hz, _⟩ := o4 c hc
    have := (List.getElem?_eq_some_iff.mp hz).1
    rw [e]
    constructor
    · show (0 : Int) ≤ (i : Int)
      omega
    · show (i : Int) < _
      omega
  · obtain ⟨i, hi, e⟩ := List.mem_iff_getElem.mp hp
    have en := hw.at_ i p (by rw [List.getElem?_eq_getElem hi, e])
    obtain ⟨a, _, c⟩ := hw.rows p hp
    refine ⟨by rw [en]; exact hw.nok i (by omega), by omega, fun r hr => ?_⟩
    obtain ⟨d1, d2, d3⟩ := c r hr
    refine ⟨d1, by omega, fun z hz => ?_⟩
    obtain ⟨j, hj, ez⟩ := d3 z hz
    rw [ez]
    exact hw.nok j (by omega)
noncomputable section
abbrev bCopy : Ev → SR := (sSeq (sSet 1 (eM (eM (eLc (eB (eBin gIx (eVar 0) (eC (.int 0))) itD) (gtTup 2 (gtCons (gtName 2) (gtCons (gtName 3) gtNil))) cYes (eM (eTup (aCons (eVar 2) (aCons (eM (eCa gList (aCons (eVar 3) aNil)) viewD) aNil))) Ow.d) [2, 3]) viewD) Ow.d))
    (sRet (eM (eTup (aCons (eVar 1) (aCons (eBin gIx (eVar 0) (eC (.int 1))) (aCons (eM (eLc (eB (eBin gIx (eVar 0) (eC (.int 2))) itD) (gtTup 2 (gtCons (gtName 2) (gtCons (gtName 4) gtNil))) cYes (eM (eTup (aCons (eVar 2) (aCons (eM (eCa gList (aCons (eVar 4) aNil)) viewD) aNil))) Ow.d) [2, 4]) viewD) aNil)))) Ow.d)))
theorem gList_ls (ds : List D) : gList [.list ds] = some (.l (ds.map Ow.d)) := rfl
theorem copy_fin {t : Trn} (h1 : t.wood.length ≤ 1000) (h2 : t.modes.length ≤ 1000) : finR (bCopy (envOf 4 [encTn t])) = .ok (.d (encTn t)) := by
  have he : envOf 4 [encTn t] = [some (.d (encTn t)), none, none, none, none] := rfl
  rw [he]
  obtain ⟨T, hT⟩ : ∃ T, T = encTn t := ⟨_, rfl⟩
  have i0 := w_ix0 t
  have i1 := w_ix1 t
  have i2 := w_ix2 t
  rw [← hT] at i0 i1 i2 ⊢
  have lc1 : eLc (eB (eBin gIx (eVar 0) (eC (.int 0))) itD) (gtTup 2 (gtCons (gtName 2) (gtCons (gtName 3) gtNil))) cYes (eM (eTup (aCons (eVar 2) (aCons (eM (eCa gList (aCons (eVar 3) aNil)) viewD) aNil))) Ow.d) [2, 3] [some (.d T), none, none, none, none] = .ok (wdO t.wood) := by
    unfold wdO
    refine eLc_of (ds := t.wood.map encKd) ?_ (by rw [List.length_map, sizeLine_eq]; omega) (lcR_map encKd _ t.wood fun p _ => ⟨[some (.d T), none, some (.d (.str p.1)), some (.d (.list (p.2.map encRw))), none], by simp [wipeE]; rfl, rfl, ?_⟩)
    · unfold encWd at i0
      simp [i0]
    · have gl := gList_ls (p.2.map encRw)
      have vw : viewD (.l ((p.2.map encRw).map Ow.d)) = .list (p.2.map encRw) := by rw [viewD_l, viewAll_mapd]
      unfold encKd
      generalize (p.2.map encRw).map Ow.d = os at gl vw
      generalize p.2.map encRw = ds at gl vw
      simp [gl, vw, sizeLine_eq]
  have lc2 : eLc (eB (eBin gIx (eVar 0) (eC (.int 2))) itD) (gtTup 2 (gtCons (gtName 2) (gtCons (gtName 4) gtNil))) cYes (eM (eTup (aCons (eVar 2) (aCons (eM (eCa gList (aCons (eVar 4) aNil)) viewD) aNil))) Ow.d) [2, 4] [some (.d T), some (.d (encWd t.wood)), none, none, none] = .ok (moO t.modes) := by
    unfold moO
    refine eLc_of (ds := t.modes.map encMo) (by simp [i2]) (by rw [List.length_map, sizeLine_eq]; omega) (lcR_map encMo _ t.modes fun p _ => ⟨[some (.d T), some (.d (encWd t.wood)), some (.d (.str p.1)), none, some (.d (.list (p.2.map encM)))], by simp [wipeE]; rfl, rfl, ?_⟩)
    have gl := gList_ls (p.2.map encM)
    have vw : viewD (.l ((p.2.map encM).map Ow.d)) = .list (p.2.map encM) := by rw [viewD_l, viewAll_mapd]
    unfold encMo
    generalize (p.2.map encM).map Ow.d = os at gl vw
    generalize p.2.map encM = ds at gl vw
    simp [gl, vw, sizeLine_eq]
  have v1 := viewD_wdO t.wood
  have v2 := viewD_moO t.modes
  refine fin_step (env1 := [some (.d T), some (.d (encWd t.wood)), none, none, none]) (by
    generalize wdO t.wood = WO at lc1 v1
    simp [lc1, v1]) ?_
  generalize moO t.modes = MO at lc2 v2
  generalize hM : PyData.list (t.modes.map encMo) = MM at v2
  have eT : T = .tuple [encWd t.wood, encM t.start, MM] := by rw [hT, ← hM]; rfl
  simp [lc2, v2, i1, sizeLine_eq]
  exact eT.symm
end
end Mir
set_option Elab.async false
set_option linter.all false
set_option maxRecDepth 100000
set_option maxHeartbeats 4000000
namespace Mir
open PySem PySem.Spec L2
noncomputable section
def pick (t : Trn) (wants : Rw → Bool) (g : Trm → Stp) (p : Str × List Trm) : List Stp := (((rowsOf t.wood p.1).zip p.2).filter fun q => wants q.1).map fun q => g q.2
end
end Mir
set_option Elab.async false
set_option linter.all false
set_option maxRecDepth 100000
set_option maxHeartbeats 4000000
namespace Mir
open PySem PySem.Spec L2
def orRt : Option Ow → Ev → SR
  | none, e => .nx e
  | some o, e => .rt o e
theorem forL_first {α : Type} {g : D → Ev → Option Ev} {f : Ev → SR} (enc : α → D) (Q : α → Option Ow) (I : Ev → Prop) : ∀ (xs : List α) (step : ∀ a ∈ xs, ∀ env, I env → ∃ env1, g (enc a) env = some env1 ∧ ∃ env2, I env2 ∧ f env1 = orRt (Q a) env2) (env : Ev), I env → ∃ env', I env' ∧ forL g f (xs.map enc) env = orRt (xs.findSome? Q) env'
  | [], _, env, h => ⟨env, h, rfl⟩
  | a :: xs, st, env, h => by
    obtain ⟨env1, g1, env2, h2, f2⟩ := st a List.mem_cons_self env h
    rw [List.map_cons, forL, g1, List.findSome?_cons]
    simp only [f2]
    cases q : Q a with
    | none => exact forL_first enc Q I xs (fun b hb => st b (List.mem_cons_of_mem _ hb)) env2 h2
    | some o => exact ⟨env2, h2, rfl⟩
def noF (b : Bool) : Option Ow := if b then none else some (.d (.bool false))
theorem find_noF {α : Type} (P : α → Bool) : ∀ xs : List α, xs.findSome? (fun a => noF (P a)) = noF (xs.all P)
  | [] => rfl
  | a :: xs => by
    rw [List.findSome?_cons, List.all_cons, find_noF P xs]
    cases P a <;> rfl
theorem noF_t : noF true = none := rfl
theorem noF_f : noF false = some (.d (.bool false)) := rfl
def moD (ms : List (Str × List Trm)) : D := .list (ms.map encMo)
noncomputable section
theorem nice_list {ds : List D} {n : Nat} (h : ∀ d ∈ ds, d.canLay0 = true ∧ d.depth ≤ n) (hn : n ≤ 129) : Nice (.list ds) := by
  refine ⟨?_, ?_⟩
  · rw [PyData.canLay0]
    exact canAll_of _ fun d hd => (h d hd).1
  · rw [PyData.depth]
    have := depthAll_of (n := n) ds fun d hd => (h d hd).2
    omega
theorem nice_tuple {ds : List D} {n : Nat} (h : ∀ d ∈ ds, d.canLay0 = true ∧ d.depth ≤ n) (hn : n ≤ 129) : Nice (.tuple ds) := by
  refine ⟨?_, ?_⟩
  · rw [PyData.canLay0]
    exact canAll_of _ fun d hd => (h d hd).1
  · rw [PyData.depth]
    have := depthAll_of (n := n) ds fun d hd => (h d hd).2
    omega
theorem ne_nil {ds : List D} (h : Nice (.list ds)) : gNe (.list ds) (.list []) = some (.bool (!ds.isEmpty)) := by
  have n0 : Nice (.list []) := nice_list (n := 0) (fun d hd => by cases hd) (by omega)
  rw [gNe_nice h n0]
  cases ds with
  | nil => rfl
  | cons d ds => simp [PyData.eqv, PyData.eqvAll]
theorem lcR_filt {α : Type} {g : D → Ev → Option Ev} {c : Ev → R Bool} {e : Ev → R Ow} {env : Ev} (enc : α → D) (P : α → Bool) (h : α → Ow) : ∀ xs : List α, (∀ a ∈ xs, ∃ env1, g (enc a) env = some env1 ∧ c env1 = .ok (P a) ∧ (P a = true → e env1 = .ok (h a))) → lcR g c e env (xs.map enc) = .ok ((xs.filter P).map h)
  | [], _ => rfl
  | d :: ds, q => by
    obtain ⟨env1, q1, q2, q3⟩ := q d List.mem_cons_self
    have ih := lcR_filt (g := g) (c := c) (e := e) (env := env) enc P h ds fun d hd => q d (List.mem_cons_of_mem _ hd)
    rw [List.map_cons]
    unfold lcR
    rw [q1]
    simp only [q2, noEx_ok, R.bind_ok]
    cases hp : P d with
    | true =>
      rw [List.filter_cons_of_pos hp]
      simp only [if_true, q3 hp, noEx_ok, R.bind_ok, ih]
      rfl
    | false =>
      rw [List.filter_cons_of_neg (by rw [hp]; exact Bool.false_ne_true)]
      simp only [Bool.false_eq_true, if_false, ih]
theorem mo_len (ms : List (Str × List Trm)) : gLen [moD ms] = some (.d (.int (ms.length : Nat))) := by
  have : gLen [moD ms] = some (Ow.d (.int (ms.map encMo).length)) := rfl
  rw [this, List.length_map]
theorem mo_ix {ms : List (Str × List Trm)} {k : Nat} {p : Str × List Trm} (h : ms[k]? = some p) : gIx (moD ms) (.int (k : Nat)) = some (encMo p) := by
  show atI (ms.map encMo) _ = _
  exact atI_natD (by rw [List.getElem?_map, h]; rfl)
theorem mo_ix0 (p : Str × List Trm) : gIx (encMo p) (.int 0) = some (.str p.1) := by unfold encMo; simp
def brD (bs : List Str) : D := .tuple (bs.map PyData.str)
theorem br_len (bs : List Str) : gLen [brD bs] = some (.d (.int (bs.length : Nat))) := by
  have : gLen [brD bs] = some (Ow.d (.int (bs.map PyData.str).length)) := rfl
  rw [this, List.length_map]
theorem br_ix {bs : List Str} {k : Nat} {z : Str} (h : bs[k]? = some z) : gIx (brD bs) (.int (k : Nat)) = some (.str z) := by
  show atI (bs.map PyData.str) _ = _
  exact atI_natD (by rw [List.getElem?_map, h]; rfl)
end
end Mir
set_option Elab.async false
set_option linter.all false
set_option maxRecDepth 100000
set_option maxHeartbeats 4000000
namespace Mir
open PySem PySem.Spec L2
noncomputable section
def rwsD (rs : List Rw) : D := .list (rs.map encRw)
def trsD (ts : List Trm) : D := .list (ts.map encM)
theorem rws_len (rs : List Rw) : gLen [rwsD rs] = some (.d (.int (rs.length : Nat))) := by
  have : gLen [rwsD rs] = some (Ow.d (.int (rs.map encRw).length)) := rfl
  rw [this, List.length_map]
theorem rw_ix0 (r : Rw) : gIx (encRw r) (.int 0) = some (.str r.nm) := by unfold encRw; simp
theorem rw_ix1 (r : Rw) : gIx (encRw r) (.int 1) = some (brD r.br) := by
  unfold encRw brD
  generalize r.br.map PyData.str = B
  simp
def encRT (q : Rw × Trm) : D := .tuple [encRw q.1, encM q.2]
theorem zip_rt (rs : List Rw) (ts : List Trm) : zpArg [rwsD rs, trsD ts] = .ok ((rs.zip ts).map encRT) := by
  show (.ok (zipD _ _) : R (List D)) = _
  rw [zipD_zip]
  rfl
theorem wd_ix0 {w : Wood} {p : Str × List Rw} (h : w[0]? = some p) : gIx (encWd w) (.int 0) = some (encKd p) := by
  show atI (w.map encKd) _ = _
  exact atI_natD (k := 0) (by rw [List.getElem?_map, h]; rfl)
theorem kd_ix0 (p : Str × List Rw) : gIx (encKd p) (.int 0) = some (.str p.1) := by unfold encKd; simp
structure SndOk (w : Wood) (s : Trm) (ms : List (Str × List Trm)) : Prop where
  kinds : ∀ p ∈ w, PyData.strOk p.1 = true
  few : w.length ≤ 100
  dist : (w.map (·.1)).Nodup
  mkinds : ∀ p ∈ ms, PyData.strOk p.1 = true
theorem encMo_tup (p : Str × List Trm) : encMo p = .tuple [.str p.1, trsD p.2] := rfl
theorem encKd_tup (p : Str × List Rw) : encKd p = .tuple [.str p.1, rwsD p.2] := rfl
def prsOf (w : Wood) : List (Str × D) := w.map fun p => (p.1, rwsD p.2)
theorem asPairs_wd (w : Wood) : asPairs (encWd w) = some (prsOf w) := pairsD_map (fun p : Str × List Rw => p.1) (fun p => rwsD p.2) w
theorem lastP_none : ∀ {w : Wood} {k : Str}, (∀ p ∈ w, p.1 ≠ k) → lastP (prsOf w) k = none
  | [], k, _ => rfl
  | p :: w, k, h => by
    show (lastP (prsOf w) k).or (if p.1 = k then some (rwsD p.2) else none) = none
    rw [lastP_none fun q hq => h q (List.mem_cons_of_mem _ hq), if_neg (h p List.mem_cons_self)]
    rfl
theorem lastP_wd : ∀ {w : Wood} {k : Str}, (w.map (·.1)).Nodup → lastP (prsOf w) k = if (w.any fun q => q.1 == k) = true then some (rwsD (rowsOf w k)) else none
  | [], k, _ => rfl
  | p :: w, k, h => by
    rw [List.map_cons, List.nodup_cons] at h
    show (lastP (prsOf w) k).or (if p.1 = k then some (rwsD p.2) else none) = _
    rw [List.any_cons, rowsOf]
    by_cases c : p.1 = k
    · have : (p.1 == k) = true := by simpa using c
      rw [this, cond_true, Bool.true_or, if_pos rfl, if_pos c, lastP_none fun q hq z => h.1 (by rw [c, ← z]; exact List.mem_map_of_mem hq)]
      rfl
    · have : (p.1 == k) = false := by simpa using c
      rw [this, cond_false, Bool.false_or, if_neg c, lastP_wd h.2, Option.or_none]
def numOf : List Rw → Str → Nat → Option Nat
  | [], _, _ => none
  | r :: rs, nm, k => if r.nm == nm then some k else numOf rs nm (k + 1)
abbrev bRowNumber (f2 : List D → R Ow) : Ev → SR := (sSeq (sFor (eB (aCons (eM (eB (aCons (eVar 0) (aCons (eVar 1) aNil)) f2) viewD) aNil) enArg) (gtTup 2 (gtCons (gtName 3) (gtCons (gtName 4) gtNil)))
    (sIf (eB (eBin gEq (eBin gIx (eVar 4) (eC (.int 0))) (eVar 2)) asB)
    (sRet (eM (eVar 3) Ow.d))
    sSkip))
    (sRet (eM (eC .none) Ow.d)))
def optD : Option Nat → D
  | none => .none
  | some k => .int (k : Nat)
theorem rowNumber_fin {w : Wood} {f2 : List D → R Ow} (k nm : Str) (h2 : ∃ o, f2 [encWd w, .str k] = .ok o ∧ viewD o = rwsD (rowsOf w k)) : finR (bRowNumber f2 (envOf 2 [encWd w, .str k, .str nm])) = .ok (.d (optD (numOf (rowsOf w k) nm 0))) := by
  have he : envOf 2 [encWd w, .str k, .str nm] = [some (.d (encWd w)), some (.d (.str k)), some (.d (.str nm)), none, none] := rfl
  rw [he]
  obtain ⟨o, o1, o2⟩ := h2
  have loop : ∀ (rs : List Rw) (j : Nat) (x3 x4 : Option Ow), ∃ env', forL (gtTup 2 (gtCons (gtName 3) (gtCons (gtName 4) gtNil))) (sIf (eB (eBin gEq (eBin gIx (eVar 4) (eC (.int 0))) (eVar 2)) asB)
    (sRet (eM (eVar 3) Ow.d))
    sSkip) (enumD j (rs.map encRw)) [some (.d (encWd w)), some (.d (.str k)), some (.d (.str nm)), x3, x4] = orRt ((numOf rs nm j).map fun i => .d (.int (i : Nat))) env' := fun rs => by
    induction rs with
    | nil => intro j x3 x4; exact ⟨[some (.d (encWd w)), some (.d (.str k)), some (.d (.str nm)), x3, x4], rfl⟩
    | cons r rs ih =>
      intro j x3 x4
      rw [List.map_cons, enumD, forL]
      have g : gtTup 2 (gtCons (gtName 3) (gtCons (gtName 4) gtNil)) (.tuple [.int (j : Nat), encRw r]) [some (.d (encWd w)), some (.d (.str k)), some (.d (.str nm)), x3, x4] = some [some (.d (encWd w)), some (.d (.str k)), some (.d (.str nm)), some (.d (.int (j : Nat))), some (.d (encRw r))] := rfl
      rw [g]
      have ix := rw_ix0 r
      rw [numOf]
      cases c : r.nm == nm with
      | true =>
        refine ⟨[some (.d (encWd w)), some (.d (.str k)), some (.d (.str nm)), some (.d (.int (j : Nat))), some (.d (encRw r))], ?_⟩
        have e : (sIf (eB (eBin gEq (eBin gIx (eVar 4) (eC (.int 0))) (eVar 2)) asB) (sRet (eM (eVar 3) Ow.d)) sSkip) [some (.d (encWd w)), some (.d (.str k)), some (.d (.str nm)), some (.d (.int (j : Nat))), some (.d (encRw r))] = .rt (.d (.int (j : Nat))) [some (.d (encWd w)), some (.d (.str k)), some (.d (.str nm)), some (.d (.int (j : Nat))), some (.d (encRw r))] := by
          generalize encRw r = RR at ix
          simp [ix, gEq_str, c]
        simp only [e]
        rfl
      | false =>
        obtain ⟨env', ih⟩ := ih (j + 1) (some (.d (.int (j : Nat)))) (some (.d (encRw r)))
        refine ⟨env', ?_⟩
        have e : (sIf (eB (eBin gEq (eBin gIx (eVar 4) (eC (.int 0))) (eVar 2)) asB) (sRet (eM (eVar 3) Ow.d)) sSkip) [some (.d (encWd w)), some (.d (.str k)), some (.d (.str nm)), some (.d (.int (j : Nat))), some (.d (encRw r))] = .nx [some (.d (encWd w)), some (.d (.str k)), some (.d (.str nm)), some (.d (.int (j : Nat))), some (.d (encRw r))] := by
          generalize encRw r = RR at ix
          simp [ix, gEq_str, c]
        simp only [e]
        rw [ih]
        rfl
  obtain ⟨env', lp⟩ := loop (rowsOf w k) 0 none none
  show finR (sSeq _ _ _) = _
  rw [sSeq_eq, sFor_eq]
  have e3 : (eB (aCons (eM (eB (aCons (eVar 0) (aCons (eVar 1) aNil)) f2) viewD) aNil) enArg) [some (.d (encWd w)), some (.d (.str k)), some (.d (.str nm)), none, none] = .ok (enumD 0 ((rowsOf w k).map encRw)) := by
    have : enArg [rwsD (rowsOf w k)] = .ok (enumD 0 ((rowsOf w k).map encRw)) := rfl
    generalize rwsD (rowsOf w k) = RS at this o2
    simp [o1, o2, this]
  rw [e3, R.st_ok, lp]
  cases numOf (rowsOf w k) nm 0 with
  | none => simp [orRt, optD]
  | some i => simp [orRt, optD]
/-- the rule of a name -/
def ruleOf (w : Wood) (p : Str × List Trm) (nm : Str) : D := match numOf (rowsOf w p.1) nm 0 with
  | none => .none
  | some i => match p.2[i]? with
    | some t => encM t
    | none => .none
abbrev bRuleOf (f3 : List D → R Ow) : Ev → SR := (sSeq (sAsg (gtTup 2 (gtCons (gtName 3) (gtCons (gtName 4) gtNil))) (eBin gIx (eBin gIx (eVar 0) (eC (.int 2))) (eVar 1)))
    (sSeq (sSet 5 (eM (eM (eB (aCons (eBin gIx (eVar 0) (eC (.int 0))) (aCons (eVar 3) (aCons (eVar 2) aNil))) f3) viewD) Ow.d))
    (sSeq (sIf (eB (eBin gIsN (eVar 5) (eC .none)) asB)
    (sRet (eM (eC .none) Ow.d))
    sSkip)
    (sRet (eM (eBin gIx (eVar 4) (eVar 5)) Ow.d)))))
theorem numOf_lt : ∀ {rs : List Rw} {nm : Str} {k i : Nat}, numOf rs nm k = some i → k ≤ i ∧ i < k + rs.length
  | [], nm, k, i, h => by cases h
  | r :: rs, nm, k, i, h => by
    rw [numOf] at h
    split at h
    · cases h; simp
    · have := numOf_lt h
      simp
      omega
theorem ruleOf_fin {t : Trn} {f3 : List D → R Ow} {k : Nat} {p : Str × List Trm} (hk : t.modes[k]? = some p) (nm : Str) (hl : p.2.length = (rowsOf t.wood p.1).length) (h3 : f3 [encWd t.wood, .str p.1, .str nm] = .ok (.d (optD (numOf (rowsOf t.wood p.1) nm 0)))) : finR (bRuleOf f3 (envOf 3 [encTn t, .int (k : Nat), .str nm])) = .ok (.d (ruleOf t.wood p nm)) := by
  have he : envOf 3 [encTn t, .int (k : Nat), .str nm] = [some (.d (encTn t)), some (.d (.int (k : Nat))), some (.d (.str nm)), none, none, none] := rfl
  rw [he]
  have i0 := w_ix0 t
  have i2 : gIx (encTn t) (.int 2) = some (moD t.modes) := w_ix2 t
  have ik := mo_ix hk
  have s1 : sAsg (gtTup 2 (gtCons (gtName 3) (gtCons (gtName 4) gtNil))) (eBin gIx (eBin gIx (eVar 0) (eC (.int 2))) (eVar 1)) [some (.d (encTn t)), some (.d (.int (k : Nat))), some (.d (.str nm)), none, none, none] = .nx [some (.d (encTn t)), some (.d (.int (k : Nat))), some (.d (.str nm)), some (.d (.str p.1)), some (.d (trsD p.2)), none] := by
    rw [encMo_tup] at ik
    generalize trsD p.2 = T at ik ⊢
    generalize moD t.modes = M at i2 ik
    generalize encTn t = TT at i2
    simp [i2, ik]
  refine fin_step s1 ?_
  have s2 : sSet 5 (eM (eM (eB (aCons (eBin gIx (eVar 0) (eC (.int 0))) (aCons (eVar 3) (aCons (eVar 2) aNil))) f3) viewD) Ow.d) [some (.d (encTn t)), some (.d (.int (k : Nat))), some (.d (.str nm)), some (.d (.str p.1)), some (.d (trsD p.2)), none] = .nx [some (.d (encTn t)), some (.d (.int (k : Nat))), some (.d (.str nm)), some (.d (.str p.1)), some (.d (trsD p.2)), some (.d (optD (numOf (rowsOf t.wood p.1) nm 0)))] := by
    generalize trsD p.2 = T
    generalize encTn t = TT at i0
    generalize encWd t.wood = W at i0 h3
    simp [i0, h3]
  refine fin_step s2 ?_
  unfold ruleOf
  cases hn : numOf (rowsOf t.wood p.1) nm 0 with
  | none =>
    generalize trsD p.2 = T
    generalize encTn t = TT
    have n1 : isNone (PyData.none) = true := rfl
    simp [optD, n1]
  | some i =>
    have hi := (numOf_lt hn).2
    have hlt : i < p.2.length := by omega
    have ix : gIx (trsD p.2) (.int (i : Nat)) = some (encM p.2[i]) := by
      show atI (p.2.map encM) _ = _
      exact atI_natD (by rw [List.getElem?_map, List.getElem?_eq_getElem hlt]; rfl)
    have n1 : isNone (PyData.int (i : Nat)) = false := rfl
    show _ = R.ok (Ow.d (match p.2[i]? with
      | some t => encM t
      | none => .none))
    rw [List.getElem?_eq_getElem hlt]
    simp only
    generalize trsD p.2 = T at ix
    generalize encTn t = TT
    simp [optD, ix, n1]
end
end Mir
set_option Elab.async false
set_option linter.all false
set_option maxRecDepth 100000
set_option maxHeartbeats 4000000
namespace Mir
open PySem PySem.Spec L2
section
variable (S : Trm) (R : Nat → List Trm) (n : Nat)
/-- to the mode lead calls -/
inductive Reach : Int → Prop
  | start {c : Int × Int} : c ∈ callsM S → Reach c.1
  | step {m : Nat} {t : Trm} {c : Int × Int} : Reach (m : Int) → t ∈ R m → c ∈ callsM t → Reach c.1
/-- calls by modes that there are -/
structure Calls : Prop where
  start : ∀ c ∈ callsM S, 0 ≤ c.1 ∧ c.1 < n
  step : ∀ (m : Nat), m < n → ∀ t ∈ R m, ∀ c ∈ callsM t, 0 ≤ c.1 ∧ c.1 < n
/-- found so far; calls still to look at: those of the terms on the stack, and cs -/
structure RInv (l : List Int) (st : List Trm) (cs : List (Int × Int)) : Prop where
  nd : l.Nodup
  rch : ∀ i ∈ l, Reach S R i
  src : ∀ t ∈ st, ∀ c ∈ callsM t, Reach S R c.1
  csr : ∀ c ∈ cs, Reach S R c.1
  s0 : S ∈ st ∨ ∀ c ∈ callsM S, c.1 ∈ l ∨ c ∈ cs
  sm : ∀ m : Nat, (m : Int) ∈ l → ∀ t ∈ R m, t ∈ st ∨ ∀ c ∈ callsM t, c.1 ∈ l ∨ c ∈ cs
variable {S R n}
theorem RInv.pop {l : List Int} {st : List Trm} {t : Trm} (h : RInv S R l (st ++ [t]) []) : RInv S R l st (callsM t) := by
  have hc : ∀ u : Trm, (u ∈ st ++ [t] ∨ ∀ c ∈ callsM u, c.1 ∈ l ∨ c ∈ ([] : List (Int × Int))) → u ∈ st ∨ ∀ c ∈ callsM u, c.1 ∈ l ∨ c ∈ callsM t := fun u hu => by
    rcases hu with hu | hu
    · rcases List.mem_append.mp hu with hu | hu
      · exact .inl hu
      · rw [List.mem_singleton.mp hu]
        exact .inr fun c hc => .inr hc
    · refine .inr fun c hc => ?_
      rcases hu c hc with h | h
      · exact .inl h
      · cases h
  exact ⟨h.nd, h.rch, fun u hu => h.src u (List.mem_append_left _ hu), h.src t (List.mem_append_right _ (List.mem_singleton.mpr rfl)), hc S h.s0, fun m hm u hu => hc u (h.sm m hm u hu)⟩
theorem RInv.done {l : List Int} (h : RInv S R l [] []) (hn : Calls S R n) (i : Int) : i ∈ l ↔ Reach S R i := by
  refine ⟨h.rch i, fun r => ?_⟩
  induction r with
  | @start c hc =>
    rcases h.s0 with q | q
    · cases q
    · rcases q c hc with q | q
      · exact q
      · cases q
  | @step m t c hm ht hc ih =>
    rcases h.sm m ih t ht with q | q
    · cases q
    · rcases q c hc with q | q
      · exact q
      · cases q
end
noncomputable section
def rulesAt (ms : List (Str × List Trm)) (k : Nat) : List Trm := match ms[k]? with
  | some p => p.2
  | none => []
section
variable {t : Trn} {B : Nat} (hB : ∀ p ∈ t.modes, p.2.length ≤ B) (hc : Calls t.start (rulesAt t.modes) t.modes.length) (hm : t.modes.length + (B * t.modes.length + 1) ≤ 10000)
include hB hc hm
variable {f0 : List D → R Ow} (hf : ∀ u, (u = t.start ∨ ∃ p ∈ t.modes, u ∈ p.2) → f0 [encM u] = .ok (encCs (callsM u)) ∧ Nice (encM u) ∧ (encM u).depth ≤ 100)
include hf
end
end
end Mir
set_option Elab.async false
set_option linter.all false
set_option maxRecDepth 100000
set_option maxHeartbeats 4000000
namespace Mir
open PySem PySem.Spec L2
def scD (ns : List Int) : PyData := .list (ns.map PyData.int)
theorem sc_len (ns : List Int) : gLen [scD ns] = some (.d (.int (ns.length : Nat))) := by
  have : gLen [scD ns] = some (Ow.d (.int (ns.map PyData.int).length)) := rfl
  rw [this, List.length_map]
theorem sc_ix {ns : List Int} {k : Nat} {z : Int} (h : ns[k]? = some z) : gIx (scD ns) (.int (k : Nat)) = some (.int z) := by
  show atI (ns.map PyData.int) _ = _
  exact atI_natD (by rw [List.getElem?_map, h]; rfl)
noncomputable section
abbrev bCell : Ev → SR := (sSeq (sIf (eB (eBin gLt (eVar 1) (eM (eCa gLen (aCons (eVar 0) aNil)) viewD)) asB)
    (sRet (eM (eBin gIx (eVar 0) (eVar 1)) Ow.d))
    sSkip)
    (sRet (eM (eC (.int 0)) Ow.d)))
def scCell (ns : List Int) (k : Nat) : Int := ns.getD k 0
theorem cell_fin (ns : List Int) (k : Nat) : finR (bCell (envOf 0 [scD ns, .int (k : Nat)])) = .ok (.d (.int (scCell ns k))) := by
  have hl := sc_len ns
  unfold scCell
  rw [List.getD_eq_getElem?_getD]
  by_cases h : k < ns.length
  · have ix := sc_ix (List.getElem?_eq_getElem h)
    have h' : (k : Int) < (ns.length : Nat) := by omega
    rw [List.getElem?_eq_getElem h]
    generalize scD ns = S at hl ix
    have he : envOf 0 [S, .int (k : Nat)] = [some (.d S), some (.d (.int (k : Nat)))] := rfl
    rw [he]
    simp [hl, ix, h, h']
  · have h' : ¬ (k : Int) < (ns.length : Nat) := by omega
    rw [List.getElem?_eq_none (by omega)]
    generalize scD ns = S at hl
    have he : envOf 0 [S, .int (k : Nat)] = [some (.d S), some (.d (.int (k : Nat)))] := rfl
    rw [he]
    simp [hl, h, h']
theorem vw_ls (ds : List PyData) : viewD (.l (ds.map Ow.d)) = .list ds := by rw [viewD_l, viewAll_mapd]
theorem shl1 (a : PyData) : shD (.l [.d a]) = .ok (.list [a]) := shD_l [a]
theorem shl2 (a b : PyData) : shD (.l [.d a, .d b]) = .ok (.list [a, b]) := shD_l [a, b]
theorem shl3 (a b c : PyData) : shD (.l [.d a, .d b, .d c]) = .ok (.list [a, b, c]) := shD_l [a, b, c]
theorem add_ls {α : Type} (enc : α → PyData) (xs ys : List α) (h : xs.length + ys.length ≤ 1000) : gAdd (.list (xs.map enc)) (.list (ys.map enc)) = some (.l (((xs ++ ys).map enc).map Ow.d)) := by
  rw [gAdd_lst (by rw [List.length_map, List.length_map, sizeLine_eq]; omega), show xs.map enc ++ ys.map enc = (xs ++ ys).map enc from by simp]
theorem call_okM (m b : Int) : okM (.call m b) := by rw [okM]; trivial
end
end Mir
set_option Elab.async false
set_option linter.all false
set_option maxRecDepth 100000
set_option maxHeartbeats 4000000
namespace Mir
open PySem PySem.Spec L2
def brOf : List Rw → Str → Option (List Str)
  | [], _ => none
  | r :: rs, nm => if r.nm == nm then some r.br else brOf rs nm
def obD : Option (List Str) → D
  | none => .none
  | some bs => brD bs
mutual
def isOf (w : Wood) : Tr → Str → Bool
  | .mk nm _ bs, k => match brOf (rowsOf w k) nm with
    | none => false
    | some ks => decide (ks.length = bs.length) && isOfs w bs ks
def isOfs (w : Wood) : List Tr → List Str → Bool
  | [], _ => true
  | _ :: _, [] => true
  | b :: bs, k :: ks => isOf w b k && isOfs w bs ks
end
theorem isOf_mk (w : Wood) (nm : Str) (mk : Int) (bs : List Tr) (k : Str) : isOf w (.mk nm mk bs) k = match brOf (rowsOf w k) nm with
    | none => false
    | some ks => decide (ks.length = bs.length) && isOfs w bs ks := by rw [isOf]
theorem isOfs_zip (w : Wood) : ∀ (bs : List Tr) (ks : List Str), isOfs w bs ks = (ks.zip bs).all fun p => isOf w p.2 p.1
  | [], ks => by rw [isOfs]; simp
  | b :: bs, [] => by rw [isOfs]; rfl
  | b :: bs, k :: ks => by rw [isOfs, isOfs_zip w bs ks]; rfl
theorem isOfs_at {w : Wood} : ∀ {bs : List Tr} {ks : List Str} {i : Nat} {b : Tr} {k : Str}, isOfs w bs ks = true → bs[i]? = some b → ks[i]? = some k → isOf w b k = true
  | [], ks, i, b, k, h, hb, hk => by simp at hb
  | c :: bs, [], i, b, k, h, hb, hk => by simp at hk
  | c :: bs, z :: ks, 0, b, k, h, hb, hk => by
    rw [isOfs, Bool.and_eq_true] at h
    simp at hb hk
    subst hb hk
    exact h.1
  | c :: bs, z :: ks, i + 1, b, k, h, hb, hk => by
    rw [isOfs, Bool.and_eq_true] at h
    simp at hb hk
    exact isOfs_at h.2 hb hk
noncomputable section
abbrev bRowOf (f1 : List D → R Ow) : Ev → SR := (sSeq (sFor (eB (eM (eB (aCons (eVar 0) (aCons (eVar 1) aNil)) f1) viewD) itD) (gtTup 2 (gtCons (gtName 3) (gtCons (gtName 4) gtNil)))
    (sIf (eB (eBin gEq (eVar 3) (eVar 2)) asB)
    (sRet (eM (eVar 4) Ow.d))
    sSkip))
    (sRet (eM (eC .none) Ow.d)))
theorem brOf_find (nm : Str) : ∀ rs : List Rw, (rs.findSome? fun r => if r.nm == nm then some (Ow.d (brD r.br)) else none) = (brOf rs nm).map fun b => Ow.d (brD b)
  | [] => rfl
  | r :: rs => by
    rw [List.findSome?_cons, brOf]
    cases r.nm == nm with
    | true => rfl
    | false => exact brOf_find nm rs
theorem rowOf_fin {w : Wood} {f1 : List D → R Ow} (k nm : Str) (h1 : ∃ o, f1 [encWd w, .str k] = .ok o ∧ viewD o = rwsD (rowsOf w k)) : finR (bRowOf f1 (envOf 2 [encWd w, .str k, .str nm])) = .ok (.d (obD (brOf (rowsOf w k) nm))) := by
  have he : envOf 2 [encWd w, .str k, .str nm] = [some (.d (encWd w)), some (.d (.str k)), some (.d (.str nm)), none, none] := rfl
  rw [he]
  obtain ⟨o, o1, o2⟩ := h1
  obtain ⟨env', ⟨x3, x4, rfl⟩, lp⟩ := forL_first (g := gtTup 2 (gtCons (gtName 3) (gtCons (gtName 4) gtNil))) (f := sIf (eB (eBin gEq (eVar 3) (eVar 2)) asB)
    (sRet (eM (eVar 4) Ow.d))
    sSkip) encRw (fun r => if r.nm == nm then some (Ow.d (brD r.br)) else none) (fun env => ∃ x3 x4, env = [some (.d (encWd w)), some (.d (.str k)), some (.d (.str nm)), x3, x4]) (rowsOf w k) (fun r _ env ⟨x3, x4, e⟩ => by
      subst e
      refine ⟨[some (.d (encWd w)), some (.d (.str k)), some (.d (.str nm)), some (.d (.str r.nm)), some (.d (brD r.br))], rfl, [some (.d (encWd w)), some (.d (.str k)), some (.d (.str nm)), some (.d (.str r.nm)), some (.d (brD r.br))], ⟨_, _, rfl⟩, ?_⟩
      generalize brD r.br = B
      generalize encWd w = W
      cases c : r.nm == nm <;> simp [gEq_str, c, orRt]) [some (.d (encWd w)), some (.d (.str k)), some (.d (.str nm)), none, none] ⟨none, none, rfl⟩
  rw [brOf_find] at lp
  show finR (sSeq _ _ _) = _
  rw [sSeq_eq, sFor_eq]
  have e3 : (eB (eM (eB (aCons (eVar 0) (aCons (eVar 1) aNil)) f1) viewD) itD) [some (.d (encWd w)), some (.d (.str k)), some (.d (.str nm)), none, none] = .ok ((rowsOf w k).map encRw) := by
    have : itD (rwsD (rowsOf w k)) = .ok ((rowsOf w k).map encRw) := rfl
    generalize rwsD (rowsOf w k) = RS at this o2
    simp [o1, o2, this]
  rw [e3, R.st_ok, lp]
  cases brOf (rowsOf w k) nm with
  | none => simp [orRt, obD]
  | some i => simp [orRt, obD]
abbrev isStep (f3 : List D → R Ow) : Ev → SR := (sIf (tNotE (eB (eM (eB (aCons (eVar 0) (aCons (eVar 4) (aCons (eVar 5) aNil))) f3) viewD) asB))
    (sRet (eM (eC (.bool false)) Ow.d))
    sSkip)
abbrev bIsOf (f2 f3 : List D → R Ow) : Ev → SR := (sSeq (sSet 3 (eM (eM (eB (aCons (eVar 0) (aCons (eVar 1) (aCons (eBin gIx (eVar 2) (eC (.int 0))) aNil))) f2) viewD) Ow.d))
    (sSeq (sIf (tOrE (eB (eBin gIsN (eVar 3) (eC .none)) asB) (eB (eBin gNe (eM (eCa gLen (aCons (eVar 3) aNil)) viewD) (eM (eCa gLen (aCons (eBin gIx (eVar 2) (eC (.int 2))) aNil)) viewD)) asB))
    (sRet (eM (eC (.bool false)) Ow.d))
    sSkip)
    (sSeq (sFor (eB (aCons (eVar 3) (aCons (eBin gIx (eVar 2) (eC (.int 2))) aNil)) zpArg) (gtTup 2 (gtCons (gtName 4) (gtCons (gtName 5) gtNil)))
    (isStep f3))
    (sRet (eM (eC (.bool true)) Ow.d)))))
theorem tup_len (l : List D) : gLen [.tuple l] = some (.d (.int (l.length : Nat))) := rfl
theorem isOf_fin {w : Wood} {f2 f3 : List D → R Ow} (k nm : Str) (mk : Int) (bs : List Tr) (h2 : f2 [encWd w, .str k, .str nm] = .ok (.d (obD (brOf (rowsOf w k) nm)))) (h3 : ∀ b ∈ bs, ∀ k, f3 [encWd w, .str k, encT b] = .ok (.d (.bool (isOf w b k)))) :
    finR (bIsOf f2 f3 (envOf 3 [encWd w, .str k, encT (.mk nm mk bs)])) = .ok (.d (.bool (isOf w (.mk nm mk bs) k))) := by
  have he : envOf 3 [encWd w, .str k, encT (.mk nm mk bs)] = [some (.d (encWd w)), some (.d (.str k)), some (.d (encT (.mk nm mk bs))), none, none, none] := rfl
  rw [he, isOf_mk]
  have i0 := t_ix0 nm mk bs
  have i2 := t_ix2 nm mk bs
  have l2 := tup_len (bs.map encT)
  rw [List.length_map] at l2
  refine fin_step (env1 := [some (.d (encWd w)), some (.d (.str k)), some (.d (encT (.mk nm mk bs))), some (.d (obD (brOf (rowsOf w k) nm))), none, none]) (by
    generalize obD (brOf (rowsOf w k) nm) = O at h2 ⊢
    generalize encT (.mk nm mk bs) = T at i0
    generalize encWd w = W at h2
    simp [i0, h2]) ?_
  cases brOf (rowsOf w k) nm with
  | none =>
    generalize encT (.mk nm mk bs) = T
    generalize encWd w = W
    have n1 : isNone (PyData.none) = true := rfl
    simp [obD, n1]
  | some ks =>
    have n1 : isNone (brD ks) = false := rfl
    have lk := br_len ks
    show finR (sSeq (sIf _ _ _) (sSeq (sFor _ _ _) _) [some (.d (encWd w)), some (.d (.str k)), some (.d (encT (.mk nm mk bs))), some (.d (brD ks)), none, none]) = _
    have zp : zpArg [brD ks, .tuple (bs.map encT)] = .ok ((ks.zip bs).map fun p => .tuple [.str p.1, encT p.2]) := by
      have : zpArg [brD ks, .tuple (bs.map encT)] = .ok (zipD (ks.map PyData.str) (bs.map encT)) := rfl
      rw [this, zipD_zip]
    by_cases c : ks.length = bs.length
    · have ct : (tOrE (eB (eBin gIsN (eVar 3) (eC .none)) asB) (eB (eBin gNe (eM (eCa gLen (aCons (eVar 3) aNil)) viewD) (eM (eCa gLen (aCons (eBin gIx (eVar 2) (eC (.int 2))) aNil)) viewD)) asB)) [some (.d (encWd w)), some (.d (.str k)), some (.d (encT (.mk nm mk bs))), some (.d (brD ks)), none, none] = .ok false := by
        generalize PyData.tuple (bs.map encT) = TB at i2 l2
        generalize encT (.mk nm mk bs) = T at i2
        generalize encWd w = W
        generalize brD ks = B at n1 lk
        simp [n1, lk, i2, l2, c]
      rw [sSeq_eq, sIf_eq, ct, R.st_ok]
      simp only [Bool.false_eq_true, if_false, sSkip_eq, SR.andThen]
      obtain ⟨env', ⟨x4, x5, rfl⟩, lp⟩ := forL_first (g := gtTup 2 (gtCons (gtName 4) (gtCons (gtName 5) gtNil))) (f := isStep f3) (fun p : Str × Tr => PyData.tuple [.str p.1, encT p.2]) (fun p => noF (isOf w p.2 p.1)) (fun env => ∃ x4 x5, env = [some (.d (encWd w)), some (.d (.str k)), some (.d (encT (.mk nm mk bs))), some (.d (brD ks)), x4, x5]) (ks.zip bs) (fun p hp env ⟨x4, x5, e⟩ => by
        subst e
        refine ⟨[some (.d (encWd w)), some (.d (.str k)), some (.d (encT (.mk nm mk bs))), some (.d (brD ks)), some (.d (.str p.1)), some (.d (encT p.2))], rfl, [some (.d (encWd w)), some (.d (.str k)), some (.d (encT (.mk nm mk bs))), some (.d (brD ks)), some (.d (.str p.1)), some (.d (encT p.2))], ⟨_, _, rfl⟩, ?_⟩
        have hh := h3 p.2 (List.of_mem_zip hp).2 p.1
        generalize encT p.2 = T2 at hh ⊢
        generalize encT (.mk nm mk bs) = T
        generalize encWd w = W at hh
        generalize brD ks = B
        cases cc : isOf w p.2 p.1 with
        | true => rw [cc] at hh; simp [hh, noF_t, orRt]
        | false => rw [cc] at hh; simp [hh, noF_f, orRt]) [some (.d (encWd w)), some (.d (.str k)), some (.d (encT (.mk nm mk bs))), some (.d (brD ks)), none, none] ⟨none, none, rfl⟩
      rw [find_noF] at lp
      rw [sSeq_eq, sFor_eq]
      have e3 : (eB (aCons (eVar 3) (aCons (eBin gIx (eVar 2) (eC (.int 2))) aNil)) zpArg) [some (.d (encWd w)), some (.d (.str k)), some (.d (encT (.mk nm mk bs))), some (.d (brD ks)), none, none] = .ok ((ks.zip bs).map fun p => .tuple [.str p.1, encT p.2]) := by
        generalize PyData.tuple (bs.map encT) = TB at i2 zp
        generalize encT (.mk nm mk bs) = T at i2
        generalize encWd w = W
        generalize brD ks = B at zp
        simp [i2, zp]
      rw [e3, R.st_ok, lp, decide_eq_true c, Bool.true_and, isOfs_zip]
      cases (ks.zip bs).all fun p => isOf w p.2 p.1 with
      | true => simp [noF_t, orRt]
      | false => simp [noF_f, orRt]
    · have c' : ¬ ((ks.length : Nat) : Int) = (bs.length : Nat) := by omega
      simp only [decide_eq_false c, Bool.false_and]
      generalize PyData.tuple (bs.map encT) = TB at i2 l2
      generalize encT (.mk nm mk bs) = T at i2
      generalize encWd w = W
      generalize brD ks = B at n1 lk
      simp [n1, lk, i2, l2, c']
abbrev bLook (f3 : List D → R Ow) : Ev → SR := (sIf (tNotE (eB (eM (eB (aCons (eBin gIx (eVar 0) (eC (.int 0))) (aCons (eVar 1) (aCons (eVar 2) aNil))) f3) viewD) asB))
    (sRaise "NoTree")
    sSkip)
theorem look_fin {t : Trn} {f3 : List D → R Ow} (k : Str) (u : Tr) (h3 : f3 [encWd t.wood, .str k, encT u] = .ok (.d (.bool (isOf t.wood u k)))) : finR (bLook f3 (envOf 0 [encTn t, .str k, encT u])) = if isOf t.wood u k = true then .ok (.d .none) else .ex "NoTree" := by
  have he : envOf 0 [encTn t, .str k, encT u] = [some (.d (encTn t)), some (.d (.str k)), some (.d (encT u))] := rfl
  rw [he]
  have i0 := w_ix0 t
  generalize encT u = U at h3
  generalize encWd t.wood = W at i0 h3
  generalize encTn t = T at i0
  cases c : isOf t.wood u k with
  | true => rw [c] at h3; simp [i0, h3]
  | false => rw [c] at h3; simp [i0, h3]
abbrev bAbove : Ev → SR := (sRet (eM (eTup (aCons (eC (.str "")) (aCons (eC (.int 0)) (aCons (eTup (aCons (eVar 0) aNil)) aNil)))) Ow.d))
def aboveT (u : Tr) : Tr := .mk "" 0 [u]
theorem above_fin (u : Tr) : finR (bAbove (envOf 0 [encT u])) = .ok (.d (encT (aboveT u))) := by
  have he : envOf 0 [encT u] = [some (.d (encT u))] := rfl
  have e2 : encT (aboveT u) = .tuple [.str "", .int 0, .tuple [encT u]] := by unfold aboveT; rw [encT_mk]; rfl
  rw [he, e2]
  generalize encT u = U
  simp [sizeLine_eq]
abbrev bMarkOf : Ev → SR := (sSeq (sIf (eB (eBin gIx (eVar 0) (eC (.int 2))) asB)
    (sRet (eBinO gAdd (eBin gIx (eVar 0) (eC (.int 3))) (eBin gIx (eVar 1) (eC (.int 1)))))
    sSkip)
    (sRet (eM (eBin gIx (eVar 0) (eC (.int 3))) Ow.d)))
def mkOf (kp : Bool) (ad mk : Int) : Int := if kp then ad + mk else ad
theorem markOf_fin (nm : Str) (kp : Bool) (ad : Int) (ps : List Trm) (n2 : Str) (mk : Int) (bs : List Tr) : finR (bMarkOf (envOf 0 [encM (.put nm kp ad ps), encT (.mk n2 mk bs)])) = .ok (.d (.int (mkOf kp ad mk))) := by
  have he : envOf 0 [encM (.put nm kp ad ps), encT (.mk n2 mk bs)] = [some (.d (encM (.put nm kp ad ps))), some (.d (encT (.mk n2 mk bs)))] := rfl
  rw [he]
  have i2 := m_ix2 nm kp ad ps
  have i3 := m_ix3 nm kp ad ps
  have j1 := t_ix1 n2 mk bs
  unfold mkOf
  generalize encM (.put nm kp ad ps) = T at i2 i3
  generalize encT (.mk n2 mk bs) = U at j1
  cases kp <;> simp [i2, i3, j1]
end
end Mir
set_option Elab.async false
set_option linter.all false
set_option maxRecDepth 100000
set_option maxHeartbeats 4000000
namespace Mir
open PySem PySem.Spec L2
def onStep (i : Int) (l : List Int) (c : Int × Int) : List Int := if c.2 = i ∧ c.1 ∉ l then l ++ [c.1] else l
def onAll (i : Int) (cs : List (Int × Int)) (l : List Int) : List Int := cs.foldl (onStep i) l
def risen (l : List Int) : List Int := l.mergeSort fun a b => decide (a ≤ b)
noncomputable section
/-- the modes in which terms call a branch, rising -/
def modesOn (i : Int) (Ts : List Trm) : List Int := risen (onAll i (callsMs Ts) [])
end
def trNm : Tr → Str
  | .mk n _ _ => n
def trBs : Tr → List Tr
  | .mk _ _ bs => bs
def noTm : Trm := .call 0 0
def noTr : Tr := .mk "" 0 []
/-- the rule of a mode for a name -/
def ruleT (t : Trn) (m : Int) (nm : Str) : Option Trm := match t.modes[m.toNat]? with
  | none => none
  | some p => match numOf (rowsOf t.wood p.1) nm 0 with
    | none => none
    | some i => p.2[i]?
def ruleF (t : Trn) (m : Int) (nm : Str) : Trm := (ruleT t m nm).getD noTm
mutual
def madB (mk : Int) (fs : List (Int → Tr)) : Trm → Tr
  | .call m b => (fs.getD b.toNat fun _ => noTr) m
  | .put nm kp ad ps => .mk nm (mkOf kp ad mk) (madBs mk fs ps)
def madBs (mk : Int) (fs : List (Int → Tr)) : List Trm → List Tr
  | [] => []
  | p :: ps => madB mk fs p :: madBs mk fs ps
end
theorem madBs_map (mk : Int) (fs : List (Int → Tr)) : ∀ ps, madBs mk fs ps = ps.map (madB mk fs)
  | [] => by rw [madBs]; rfl
  | p :: ps => by rw [madBs, madBs_map mk fs ps]; rfl
mutual
def madT (t : Trn) : Tr → Trm → Tr
  | .mk _ mk bs => madB mk (madTs t bs)
def madTs (t : Trn) : List Tr → List (Int → Tr)
  | [] => []
  | b :: bs => (fun m => madT t b (ruleF t m (trNm b))) :: madTs t bs
end
theorem madTs_map (t : Trn) : ∀ bs, madTs t bs = bs.map fun b m => madT t b (ruleF t m (trNm b))
  | [] => by rw [madTs]; rfl
  | b :: bs => by rw [madTs, madTs_map t bs]; rfl
theorem madT_call {t : Trn} {nm : Str} {mk : Int} {bs : List Tr} {b : Tr} {m : Int} {i : Nat} (h : bs[i]? = some b) : madT t (.mk nm mk bs) (.call m (i : Nat)) = madT t b (ruleF t m (trNm b)) := by
  rw [madT, madB, madTs_map, List.getD_eq_getElem?_getD, Int.toNat_natCast, List.getElem?_map, h]
  rfl
theorem madT_put (t : Trn) (nm : Str) (mk : Int) (bs : List Tr) (n : Str) (kp : Bool) (ad : Int) (ps : List Trm) : madT t (.mk nm mk bs) (.put n kp ad ps) = .mk n (mkOf kp ad mk) (ps.map (madT t (.mk nm mk bs))) := by
  rw [madT, madB, madBs_map]
/-- size and levels -/
def mesD (o : Tr) : D := .tuple [.int (sizeT o : Nat), .int (levT o : Nat)]
noncomputable section
end
end Mir
set_option Elab.async false
set_option linter.all false
set_option maxRecDepth 100000
set_option maxHeartbeats 4000000
namespace Mir
open PySem PySem.Spec L2
/-- the calls of a term fit branches of these kinds -/
def FitT (t : Trn) (ks : List Str) (T : Trm) : Prop := ∀ c ∈ callsM T, 0 ≤ c.1 ∧ 0 ≤ c.2 ∧ ∃ p, t.modes[c.1.toNat]? = some p ∧ ks[c.2.toNat]? = some p.1
structure GoodM (B : Nat) (T : Trm) : Prop where
  ok : okM T
  lev : levM T ≤ B
  few : sizeM T ≤ 1000
structure SndT (t : Trn) (B : Nat) : Prop where
  few : t.modes.length ≤ 1000
  wide : ∀ k nm ks, brOf (rowsOf t.wood k) nm = some ks → ks.length ≤ 1000
  lens : ∀ p ∈ t.modes, p.2.length = (rowsOf t.wood p.1).length
  fits : ∀ p ∈ t.modes, ∀ (i : Nat) (row : Rw) (T : Trm), (rowsOf t.wood p.1)[i]? = some row → p.2[i]? = some T → FitT t row.br T ∧ GoodM B T
theorem sizeMs_memM : ∀ {ps : List Trm} {p : Trm}, p ∈ ps → sizeM p ≤ sizeMs ps
  | q :: ps, p, h => by
    rw [sizeMs]
    rcases List.mem_cons.mp h with rfl | h
    · omega
    · have := sizeMs_memM h
      omega
theorem fit_put {t : Trn} {ks : List Str} {nm : Str} {kp : Bool} {ad : Int} {ps : List Trm} (h : FitT t ks (.put nm kp ad ps)) : ∀ p ∈ ps, FitT t ks p := fun p hp c hc => h c (by rw [callsM, callsMs_flat, List.mem_flatten]; exact ⟨_, List.mem_map.mpr ⟨p, hp, rfl⟩, hc⟩)
theorem brOf_num {nm : Str} : ∀ {rs : List Rw} {ks : List Str} (k : Nat), brOf rs nm = some ks → ∃ i row, numOf rs nm k = some (k + i) ∧ rs[i]? = some row ∧ row.br = ks
  | [], ks, k, h => by cases h
  | r :: rs, ks, k, h => by
    rw [brOf] at h
    rw [numOf]
    split at h
    · rename_i c
      rw [if_pos c]
      cases h
      exact ⟨0, r, rfl, rfl, rfl⟩
    · rename_i c
      rw [if_neg c]
      obtain ⟨i, row, a1, a2, a3⟩ := brOf_num (k + 1) h
      exact ⟨i + 1, row, by rw [a1]; congr 1; omega, by rw [List.getElem?_cons_succ]; exact a2, a3⟩
theorem rule_ex {t : Trn} {B : Nat} (ok : SndT t B) {m : Nat} {p : Str × List Trm} {b : Tr} (hm : t.modes[m]? = some p) (hb : isOf t.wood b p.1 = true) : ∃ ks, ruleOf t.wood p (trNm b) = encM (ruleF t (m : Int) (trNm b)) ∧ ks.length = (trBs b).length ∧ isOfs t.wood (trBs b) ks = true ∧ FitT t ks (ruleF t (m : Int) (trNm b)) ∧ GoodM B (ruleF t (m : Int) (trNm b)) ∧ brOf (rowsOf t.wood p.1) (trNm b) = some ks := by
  obtain ⟨nm, mk, bs⟩ := b
  rw [isOf_mk] at hb
  show ∃ ks, ruleOf t.wood p nm = encM (ruleF t (m : Int) nm) ∧ ks.length = bs.length ∧ isOfs t.wood bs ks = true ∧ FitT t ks (ruleF t (m : Int) nm) ∧ GoodM B (ruleF t (m : Int) nm) ∧ brOf (rowsOf t.wood p.1) nm = some ks
  cases hr : brOf (rowsOf t.wood p.1) nm with
  | none => rw [hr] at hb; cases hb
  | some ks =>
    rw [hr] at hb
    rw [Bool.and_eq_true, decide_eq_true_eq] at hb
    obtain ⟨i, row, a1, a2, a3⟩ := brOf_num 0 hr
    have pm := List.mem_of_getElem? hm
    have ln := ok.lens p pm
    have il : i < p.2.length := by rw [ln]; exact (List.getElem?_eq_some_iff.mp a2).1
    have ti := List.getElem?_eq_getElem il
    have a1' : numOf (rowsOf t.wood p.1) nm 0 = some i := by rw [a1]; congr 1; omega
    have f1 : ruleF t (m : Int) nm = p.2[i] := by
      unfold ruleF ruleT
      rw [Int.toNat_natCast, hm]
      show ((match numOf (rowsOf t.wood p.1) nm 0 with
        | none => none
        | some i => p.2[i]?).getD noTm) = _
      rw [a1']
      show (p.2[i]?).getD noTm = _
      rw [ti]
      rfl
    have f2 : ruleOf t.wood p nm = encM p.2[i] := by
      unfold ruleOf
      rw [a1']
      show (match p.2[i]? with
        | some t => encM t
        | none => .none) = _
      rw [ti]
    obtain ⟨g1, g2⟩ := ok.fits p pm i row _ a2 ti
    rw [f1]
    subst a3
    exact ⟨row.br, f2, hb.1, hb.2, g1, g2, rfl⟩
/-- what below_of tells -/
def prsB (t : Trn) (Ts : List Trm) (i : Nat) (b : Tr) : List (D × D) := (modesOn (i : Int) Ts).map fun m => (PyData.int m, mesD (madT t b (ruleF t m (trNm b))))
def belL (t : Trn) (Ts : List Trm) : Nat → List Tr → List D
  | _, [] => []
  | i, b :: bs => .dict (prsB t Ts i b) :: belL t Ts (i + 1) bs
noncomputable section
end
end Mir
set_option Elab.async false
set_option linter.all false
set_option maxRecDepth 100000
set_option maxHeartbeats 4000000
namespace Mir
open PySem PySem.Spec L2
noncomputable section
@[simp] theorem R.map_exc {α β : Type} (f : α → β) (c : Str) : R.map f (.ex c) = .ex c := rfl
@[simp] theorem R.bind_exc {α β : Type} (f : α → R β) (c : Str) : R.bind (.ex c) f = .ex c := rfl
@[simp] theorem R.st_exc {α : Type} (env : Ev) (f : α → SR) (c : Str) : (R.ex c : R α).st env f = .ex c env := rfl
@[simp] theorem andThen_exc (c : Str) (env : Ev) (g : Ev → SR) : (SR.ex c env).andThen g = .ex c env := rfl
@[simp] theorem finR_exc (c : Str) (env : Ev) : finR (.ex c env) = .ex c := rfl
/-- what the walk of a branch needs -/
structure BrOk (t : Trn) (Ts : List Trm) (f5 f9 f10 f11 : List D → R Ow) (j : Nat) (b : Tr) : Prop where
  few : (modesOn (j : Int) Ts).length ≤ 1000
  h9 : f9 [trsD Ts, .int (j : Nat)] = .ok (.l ((modesOn (j : Int) Ts).map fun m => .d (.int m)))
  h5 : ∀ m ∈ modesOn (j : Int) Ts, f5 [encTn t, .int m, .str (trNm b)] = .ok (.d (encM (ruleF t m (trNm b))))
  h11 : f11 [encTn t, trsD ((modesOn (j : Int) Ts).map fun m => ruleF t m (trNm b)), encT b] = .ok (.l ((belL t ((modesOn (j : Int) Ts).map fun m => ruleF t m (trNm b)) 0 (trBs b)).map Ow.d))
  h10 : ∀ m ∈ modesOn (j : Int) Ts, f10 [encM (ruleF t m (trNm b)), .list (belL t ((modesOn (j : Int) Ts).map fun m => ruleF t m (trNm b)) 0 (trBs b))] = .ok (.d (mesD (madT t b (ruleF t m (trNm b)))))
end
end Mir
set_option Elab.async false
set_option linter.all false
set_option maxRecDepth 100000
set_option maxHeartbeats 4000000
namespace Mir
open PySem PySem.Spec L2
def ik : Int → List Nat
  | .ofNat n => TL.numL n
  | .negSucc n => 45 :: TL.numL (n + 1)
/-- a tree laid out: name, mark, blanks ahead of its mark (where it is told), ahead of (, behind it, between, ahead of ) -/
inductive LN where
  | mk (nm : List Nat) (k : Int) (mb : Option Nat) (o i g c : Nat) (bs : List LN)
end Mir
set_option Elab.async false
set_option linter.all false
set_option maxRecDepth 100000
set_option maxHeartbeats 4000000
namespace Mir
open PySem PySem.Spec L2
def glue (s : List Nat) : List (List Nat) → List Nat
  | [] => []
  | a :: r => a ++ (r.map fun b => s ++ b).flatten
theorem foldl_glue (s : List Nat) : ∀ (r : List (List Nat)) (a : Array Nat), (r.map tx).foldl (fun acc p => acc ++ (tx s).cps ++ p.cps) a = ⟨a.toList ++ (r.map fun b => s ++ b).flatten⟩
  | [], a => by simp
  | b :: r, a => by
    rw [List.map_cons, List.foldl_cons, foldl_glue s r]
    simp [tx]
theorem join_tx (s : List Nat) (l : List (List Nat)) : Txt.join (tx s) (l.map tx) = tx (glue s l) := by
  show Builtin.Str.glued _ _ = _
  rw [PySem.StrLaws.glued_eq_join]
  cases l with
  | nil => rfl
  | cons a r =>
    rw [List.map_cons, ← PySem.StrLaws.glued_cons, foldl_glue]
    simp [glue, tx]
theorem sum_len (l : List (List Nat)) : ((l.map tx).map fun x : Str => x.length).sum = (l.map List.length).sum := by
  rw [List.map_map]
  congr 1
theorem gJoin_tx (s : List Nat) (l : List (List Nat)) (h : (l.map List.length).sum + l.length * s.length ≤ 16777216) : gJoin (.str (tx s)) (.list (l.map fun w => .str (tx w))) = some (.str (tx (glue s l))) := by
  have e : (l.map fun w => PyData.str (tx w)) = (l.map tx).map PyData.str := by rw [List.map_map]; rfl
  rw [e, gJoin_list (by rw [sum_len, List.length_map, tx_len]; exact h), join_tx]
end Mir
set_option Elab.async false
set_option linter.all false
set_option maxRecDepth 100000
set_option maxHeartbeats 4000000
namespace Mir
open PySem PySem.Spec L2
def lets (l : List Nat) : Str := tx (l.map fun d => 97 + d)
theorem lets_inj {a b : List Nat} (h : lets a = lets b) : a = b := by
  have := tx_inj h
  exact (List.map_inj_right (fun x y e => by omega)).mp this
theorem strOk_lets {l : List Nat} (h : ∀ d ∈ l, d < 26) : PyData.strOk (lets l) = true := strOk_tx fun c hc => by
  obtain ⟨d, hd, rfl⟩ := List.mem_map.mp hc
  have := h d hd
  omega
theorem glue_nil (l : List (List Nat)) : glue [] l = l.flatten := by
  cases l with
  | nil => rfl
  | cons a r => unfold glue; simp
theorem join_lets {ds : List Nat} (hl : ds.length ≤ 1000) : gJoin (.str (Str.ofString "")) (.list (ds.map fun d => .str (tx [97 + d]))) = some (.str (lets ds)) := by
  have a := gJoin_tx [] (ds.map fun d => [97 + d]) (by
    rw [List.map_map]
    have : (ds.map (List.length ∘ fun d => [97 + d])).sum = ds.length := by
      induction ds with
      | nil => rfl
      | cons d ds ih => rw [List.map_cons, List.sum_cons, ih (by rw [List.length_cons] at hl; omega), List.length_cons]; simp; omega
    rw [this, List.length_map, List.length_nil]
    omega)
  rw [glue_nil, List.map_map] at a
  rw [empty_is]
  have e : (ds.map fun d => [97 + d]).flatten = ds.map fun d => 97 + d := by
    clear a hl
    induction ds with
    | nil => rfl
    | cons d ds ih => rw [List.map_cons, List.flatten_cons, ih]; rfl
  rw [e] at a
  exact a
def mixI (c j : Int) : Int :=
  let n1 := c % 2147483647 + 48271 * (j + 1)
  let n2 := (n1 * n1 + 69621 * j) % 2147483647
  (n2 * n2 + 16807 * j + 1) % 2147483647
noncomputable section
abbrev bMixed : Ev → SR := (sSeq (sSet 2 (eM (eM (eBinO gAdd (eBin gMod (eVar 0) (eC (.int 2147483647))) (eBin gMul (eC (.int 48271)) (eM (eBinO gAdd (eVar 1) (eC (.int 1))) viewD))) viewD) Ow.d))
    (sSeq (sSet 2 (eM (eBin gMod (eM (eBinO gAdd (eBin gMul (eVar 2) (eVar 2)) (eBin gMul (eC (.int 69621)) (eVar 1))) viewD) (eC (.int 2147483647))) Ow.d))
    (sRet (eM (eBin gMod (eM (eBinO gAdd (eB (eBinO gAdd (eBin gMul (eVar 2) (eVar 2)) (eBin gMul (eC (.int 16807)) (eVar 1))) shD) (eC (.int 1))) viewD) (eC (.int 2147483647))) Ow.d))))
theorem mixed_fin (c : Int) (j : Nat) (hj : j ≤ 1000) : finR (bMixed (envOf 1 [.int c, .int (j : Nat)])) = .ok (.d (.int (mixI c (j : Nat)))) := by
  have he : envOf 1 [.int c, .int (j : Nat)] = [some (.d (.int c)), some (.d (.int (j : Nat))), none] := rfl
  rw [he]
  have m1 : gMod (.int c) (.int 2147483647) = some (.int (c % 2147483647)) := gMod_int (by decide)
  have big : (10000000000 : Nat) < 2 ^ 250 := by decide
  have sm : ∀ i : Int, 0 ≤ i → i < 10000000000 → i.natAbs < 2 ^ 250 := fun i h0 h1 => by omega
  have m2 : gMul (.int 48271) (.int ((j : Int) + 1)) = some (.int (48271 * ((j : Int) + 1))) := gMul_small (sm _ (by decide) (by decide)) (sm _ (by omega) (by omega))
  have c0 := Int.emod_nonneg c (b := 2147483647) (by decide)
  have c1 := Int.emod_lt_of_pos c (b := 2147483647) (by decide)
  unfold mixI
  simp only
  generalize c % 2147483647 = C at m1 c0 c1
  obtain ⟨n1, hn1⟩ : ∃ n1, n1 = C + 48271 * ((j : Int) + 1) := ⟨_, rfl⟩
  rw [← hn1]
  have n10 : 0 ≤ n1 := by omega
  have n11 : n1 < 10000000000 := by omega
  have m3 : gMul (.int n1) (.int n1) = some (.int (n1 * n1)) := gMul_small (sm _ n10 n11) (sm _ n10 n11)
  have m4 : gMul (.int 69621) (.int (j : Nat)) = some (.int (69621 * (j : Int))) := gMul_small (sm _ (by decide) (by decide)) (sm _ (by omega) (by omega))
  have m5 : gMod (.int (n1 * n1 + 69621 * (j : Int))) (.int 2147483647) = some (.int ((n1 * n1 + 69621 * (j : Int)) % 2147483647)) := gMod_int (by decide)
  have d0 := Int.emod_nonneg (n1 * n1 + 69621 * (j : Int)) (b := 2147483647) (by decide)
  have d1 := Int.emod_lt_of_pos (n1 * n1 + 69621 * (j : Int)) (b := 2147483647) (by decide)
  refine fin_step (env1 := [some (.d (.int c)), some (.d (.int (j : Nat))), some (.d (.int n1))]) (by simp [m1, m2, hn1]) ?_
  refine fin_step (env1 := [some (.d (.int c)), some (.d (.int (j : Nat))), some (.d (.int ((n1 * n1 + 69621 * (j : Int)) % 2147483647)))]) (by
    generalize ((n1 * n1 + 69621 * (j : Int)) % 2147483647) = N2 at m5
    simp [m3, m4, m5]) ?_
  generalize ((n1 * n1 + 69621 * (j : Int)) % 2147483647) = n2 at d0 d1
  have m6 : gMul (.int n2) (.int n2) = some (.int (n2 * n2)) := gMul_small (sm _ d0 (by omega)) (sm _ d0 (by omega))
  have m7 : gMul (.int 16807) (.int (j : Nat)) = some (.int (16807 * (j : Int))) := gMul_small (sm _ (by decide) (by decide)) (sm _ (by omega) (by omega))
  have m8 : gMod (.int (n2 * n2 + 16807 * (j : Int) + 1)) (.int 2147483647) = some (.int ((n2 * n2 + 16807 * (j : Int) + 1) % 2147483647)) := gMod_int (by decide)
  generalize ((n2 * n2 + 16807 * (j : Int) + 1) % 2147483647) = R at m8
  simp [m6, m7, m8]
abbrev nmBase (f18 : List D → R Ow) : Ev → R Ow := (eLc (eB (aCons (eC (.int 8)) aNil) rg1) (gtName 3) cYes (eM (eBin gMod (eM (eB (aCons (eVar 0) (aCons (eVar 3) aNil)) f18) viewD) (eC (.int 26))) Ow.d) (List.map (·.2) ([("_law_j", 3)] : List (Str × Nat))))
abbrev nmRow : Ev → R Ow := (eLc (eB (aCons (eC (.int 8)) aNil) rg1) (gtName 4) cYes (eM (eJoin (eC (.str "")) (eB (eLc (eB (eM (eSl (eVar 2) oNone (eB (eM (eBinO gAdd (eVar 4) (eC (.int 1))) viewD) asI)) viewD) itD) (gtName 3) cYes (eM (eBin gIx (eVar 1) (eVar 3)) Ow.d) (List.map (·.2) ([("_law_j", 3)] : List (Str × Nat)))) shD)) Ow.d) (List.map (·.2) ([("_law_k", 4)] : List (Str × Nat))))
abbrev nmStep : Ev → SR := (sSeq (sSet 8 (eSl (eVar 2) oNone (eB (eVar 5) asI)))
    (sSeq (sPut 8 (eM (eBin gMod (eM (eBinO gAdd (eBin gIx (eB (eVarO 8) shD) (eVar 6)) (eVar 4)) viewD) (eC (.int 26))) Ow.d) (eVar 6))
    (sFrz 8 (sApp 7 (eM (eJoin (eC (.str "")) (eB (eLc (eB (eVar 8) itD) (gtName 3) cYes (eM (eBin gIx (eVar 1) (eVar 3)) Ow.d) (List.map (·.2) ([("_law_j", 3)] : List (Str × Nat)))) shD)) Ow.d)))))
abbrev bNames8 (f18 : List D → R Ow) : Ev → SR := (sSeq (sSet 1 (eM (eC (.str "abcdefghijklmnopqrstuvwxyz")) Ow.d))
    (sSeq (sSet 2 (eM (eM (nmBase f18) viewD) Ow.d))
    (sSeq (sIf (eB (eBin gEq (eBin gMod (eBin gDiv (eVar 0) (eC (.int 64))) (eC (.int 4))) (eC (.int 1))) asB)
    (sRet nmRow)
    sSkip)
    (sSeq (sSet 5 (eM (eM (eBinO gAdd (eC (.int 1)) (eBin gMod (eVar 0) (eC (.int 8)))) viewD) Ow.d))
    (sSeq (sSet 6 (eM (eBin gMod (eBin gDiv (eVar 0) (eC (.int 8))) (eVar 5)) Ow.d))
    (sSeq (sSet 7 (eLst aNil))
    (sSeq (sFor (eB (aCons (eC (.int 8)) aNil) rg1) (gtName 4)
    nmStep)
    (sRetV 7))))))))
/-- eight names, all unlike -/
structure Names8 (ls : List (List Nat)) : Prop where
  eight : ls.length = 8
  nd : ls.Nodup
  lets : ∀ l ∈ ls, ∀ d ∈ l, d < 26
  some : ∀ l ∈ ls, 1 ≤ l.length ∧ l.length ≤ 8
def nmO (ls : List (List Nat)) : Ow := .l (ls.map fun l => .d (.str (lets l)))
def nsD (ls : List (List Nat)) : D := .list (ls.map fun l => .str (lets l))
theorem viewD_nmO (ls : List (List Nat)) : viewD (nmO ls) = nsD ls := viewD_of (fun l => PyData.str (lets l)) ls
theorem abc_ch {d : Nat} (h : d < 26) : gIx (.str abc) (.int (d : Nat)) = some (.str (tx [97 + d])) := abc_ix h
theorem rg1_8 : rg1 [.int 8] = .ok ((List.range 8).map fun k : Nat => PyData.int (k : Nat)) := by rw [← rangeD_map]; exact rg1_nat 8 (by decide)
def upRow (bs : List Nat) : List (List Nat) := (List.range 8).map fun k => bs.take (k + 1)
def moved (bs : List Nat) (s b k : Nat) : List Nat := bs.set s ((b + k) % 26)
theorem upRow_ok {bs : List Nat} (h8 : bs.length = 8) (hb : ∀ d ∈ bs, d < 26) : Names8 (upRow bs) where
  eight := by unfold upRow; simp
  nd := by
    unfold upRow
    rw [List.nodup_iff_pairwise_ne, List.pairwise_map]
    refine List.Pairwise.imp_of_mem ?_ (List.pairwise_lt_range)
    intro i j hi hj hlt e
    have := congrArg List.length e
    rw [List.length_take, List.length_take, h8] at this
    rw [List.mem_range] at hi hj
    omega
  lets := fun l hl d hd => by
    obtain ⟨k, _, rfl⟩ := List.mem_map.mp hl
    exact hb d (List.mem_of_mem_take hd)
  some := fun l hl => by
    obtain ⟨k, hk, rfl⟩ := List.mem_map.mp hl
    rw [List.mem_range] at hk
    rw [List.length_take, h8]
    omega
theorem moved_ok {bs : List Nat} {s b : Nat} (h8 : bs.length ≤ 8) (hs : s < bs.length) (hb : ∀ d ∈ bs, d < 26) : Names8 ((List.range 8).map fun k => moved bs s b k) where
  eight := by simp
  nd := by
    rw [List.nodup_iff_pairwise_ne, List.pairwise_map]
    refine List.Pairwise.imp_of_mem ?_ (List.pairwise_lt_range)
    intro i j hi hj hlt e
    have := congrArg (fun l : List Nat => l[s]?) e
    simp only [moved] at this
    rw [List.getElem?_set_self hs, List.getElem?_set_self hs] at this
    have := Option.some.inj this
    rw [List.mem_range] at hi hj
    omega
  lets := fun l hl d hd => by
    obtain ⟨k, _, rfl⟩ := List.mem_map.mp hl
    rcases List.mem_or_eq_of_mem_set hd with h | h
    · exact hb d h
    · subst h; exact Nat.mod_lt _ (by decide)
  some := fun l hl => by
    obtain ⟨k, hk, rfl⟩ := List.mem_map.mp hl
    unfold moved
    rw [List.length_set]
    omega
theorem emod_nat {c : Int} {n : Nat} (h : 0 < n) : ∃ k : Nat, c % (n : Int) = (k : Int) ∧ k < n := ⟨(c % (n : Int)).toNat, by have := Int.emod_nonneg c (show (n : Int) ≠ 0 by omega); omega, by have := Int.emod_lt_of_pos c (show 0 < (n : Int) by omega); have := Int.emod_nonneg c (show (n : Int) ≠ 0 by omega); omega⟩
theorem lets_lc {ls : List Nat} (hl : ∀ d ∈ ls, d < 26) {f : Ev → SR} {c : Int} {x2 x4 x5 x6 x7 x8 : Option Ow} : lcR (gtName 3) cYes (eM (eBin gIx (eVar 1) (eVar 3)) Ow.d) [some (.d (.int c)), some (.d (.str abc)), x2, none, x4, x5, x6, x7, x8] (ls.map fun d : Nat => PyData.int (d : Nat)) = .ok (ls.map fun d => .d (.str (tx [97 + d]))) :=
  lcR_map (fun d : Nat => PyData.int (d : Nat)) (fun d => Ow.d (.str (tx [97 + d]))) ls fun d hd => ⟨[some (.d (.int c)), some (.d (.str abc)), x2, some (.d (.int (d : Nat))), x4, x5, x6, x7, x8], rfl, rfl, by simp [abc_ch (hl d hd)]⟩
theorem names_fin {f18 : List D → R Ow} (c : Int) (h18 : ∀ j : Nat, j < 8 → f18 [.int c, .int (j : Nat)] = .ok (.d (.int (mixI c (j : Nat))))) : ∃ ls, Names8 ls ∧ finR (bNames8 f18 (envOf 8 [.int c])) = .ok (nmO ls) := by
  have he : envOf 8 [.int c] = [some (.d (.int c)), none, none, none, none, none, none, none, none] := rfl
  rw [he]
  obtain ⟨bs, hbs⟩ : ∃ bs : List Nat, bs = (List.range 8).map fun j : Nat => (mixI c (j : Nat) % 26).toNat := ⟨_, rfl⟩
  have b8 : bs.length = 8 := by rw [hbs]; simp
  have b26 : ∀ d ∈ bs, d < 26 := fun d hd => by
    rw [hbs] at hd
    obtain ⟨j, _, rfl⟩ := List.mem_map.mp hd
    have := Int.emod_nonneg (mixI c (j : Nat)) (b := 26) (by decide)
    have := Int.emod_lt_of_pos (mixI c (j : Nat)) (b := 26) (by decide)
    omega
  have lc : nmBase f18 [some (.d (.int c)), some (.d (.str abc)), none, none, none, none, none, none, none] = .ok (.l (bs.map fun d : Nat => Ow.d (.int (d : Nat)))) := by
    show eLc _ _ _ _ _ _ = _
    rw [hbs, List.map_map]
    refine eLc_of (ds := (List.range 8).map fun k : Nat => PyData.int (k : Nat)) (by simp only [eB_eq, aCons_eq, eC_eq, aNil_eq, R.bind_ok, R.map_ok]; exact rg1_8) (by simp [sizeLine_eq]) (lcR_map _ _ (List.range 8) fun j hj => ?_)
    have h := h18 j (List.mem_range.mp hj)
    have e : ((mixI c (j : Nat) % 26).toNat : Int) = mixI c (j : Nat) % 26 := by have := Int.emod_nonneg (mixI c (j : Nat)) (b := 26) (by decide); omega
    refine ⟨[some (.d (.int c)), some (.d (.str abc)), none, some (.d (.int (j : Nat))), none, none, none, none, none], by simp [wipeE], rfl, ?_⟩
    show _ = R.ok (Ow.d (.int ((mixI c (j : Nat) % 26).toNat : Nat)))
    rw [e]
    generalize mixI c (j : Nat) = M at h
    have md : gMod (.int M) (.int 26) = some (.int (M % 26)) := gMod_int (by decide)
    simp [h, md]
  have vb : viewD (.l (bs.map fun d : Nat => Ow.d (.int (d : Nat)))) = .list (bs.map fun d : Nat => PyData.int (d : Nat)) := viewD_of (fun d : Nat => PyData.int (d : Nat)) bs
  refine ⟨if (c / 64) % 4 = 1 then upRow bs else (List.range 8).map fun k => moved (bs.take (1 + (c % 8).toNat)) ((c / 8) % ((1 + (c % 8).toNat : Nat) : Int)).toNat (bs.getD ((c / 8) % ((1 + (c % 8).toNat : Nat) : Int)).toNat 0) k, ?_, ?_⟩
  · split
    · exact upRow_ok b8 b26
    · obtain ⟨w, hw, w8⟩ := emod_nat (c := c) (n := 8) (by decide)
      obtain ⟨s, hs, s8⟩ := emod_nat (c := c / 8) (n := 1 + (c % 8).toNat) (by omega)
      rw [hs]
      have : (c % 8).toNat = w := by change c % ((8 : Nat) : Int) = _ at hw; omega
      refine moved_ok (by rw [List.length_take]; omega) ?_ (fun d hd => b26 d (List.mem_of_mem_take hd))
      rw [List.length_take, Int.toNat_natCast]
      omega
  refine fin_step (env1 := [some (.d (.int c)), some (.d (.str abc)), none, none, none, none, none, none, none]) rfl ?_
  refine fin_step (env1 := [some (.d (.int c)), some (.d (.str abc)), some (.d (.list (bs.map fun d : Nat => PyData.int (d : Nat)))), none, none, none, none, none, none]) (by
    rw [sSet_eq, eM_eq, eM_eq, lc, R.map_ok, R.map_ok, vb, R.st_ok]
    rfl) ?_
  have d64 : gDiv (.int c) (.int 64) = some (.int (c / 64)) := gDiv_small (by decide) (by decide)
  have m4 : gMod (.int (c / 64)) (.int 4) = some (.int (c / 64 % 4)) := gMod_int (by decide)
  have ct : (eB (eBin gEq (eBin gMod (eBin gDiv (eVar 0) (eC (.int 64))) (eC (.int 4))) (eC (.int 1))) asB) [some (.d (.int c)), some (.d (.str abc)), some (.d (.list (bs.map fun d : Nat => PyData.int (d : Nat)))), none, none, none, none, none, none] = .ok (c / 64 % 4 == 1) := by
    generalize PyData.list (bs.map fun d : Nat => PyData.int (d : Nat)) = BL
    generalize c / 64 % 4 = Z at m4
    generalize c / 64 = Y at d64 m4
    simp [d64, m4]
  show finR (sSeq (sIf _ _ _) _ _) = _
  rw [sSeq_eq, sIf_eq, ct, R.st_ok]
  have it : itD (.list (bs.map fun d : Nat => PyData.int (d : Nat))) = .ok (bs.map fun d : Nat => PyData.int (d : Nat)) := rfl
  by_cases cc : c / 64 % 4 = 1
  · rw [if_pos cc, if_pos (by simpa using cc)]
    have lr : nmRow [some (.d (.int c)), some (.d (.str abc)), some (.d (.list (bs.map fun d : Nat => PyData.int (d : Nat)))), none, none, none, none, none, none] = .ok (nmO (upRow bs)) := by
      show eLc _ _ _ _ _ _ = _
      unfold nmO upRow
      rw [List.map_map]
      refine eLc_of (ds := (List.range 8).map fun k : Nat => PyData.int (k : Nat)) (by simp only [eB_eq, aCons_eq, eC_eq, aNil_eq, R.bind_ok, R.map_ok]; exact rg1_8) (by simp [sizeLine_eq]) (lcR_map _ _ (List.range 8) fun k hk => ?_)
      refine ⟨[some (.d (.int c)), some (.d (.str abc)), some (.d (.list (bs.map fun d : Nat => PyData.int (d : Nat)))), none, some (.d (.int (k : Nat))), none, none, none, none], by
        generalize PyData.list (bs.map fun d : Nat => PyData.int (d : Nat)) = BL
        simp [wipeE], rfl, ?_⟩
      have lin : eLc (eB (eM (eSl (eVar 2) oNone (eB (eM (eBinO gAdd (eVar 4) (eC (.int 1))) viewD) asI)) viewD) itD) (gtName 3) cYes (eM (eBin gIx (eVar 1) (eVar 3)) Ow.d) (List.map (·.2) ([("_law_j", 3)] : List (Str × Nat))) [some (.d (.int c)), some (.d (.str abc)), some (.d (.list (bs.map fun d : Nat => PyData.int (d : Nat)))), none, some (.d (.int (k : Nat))), none, none, none, none] = .ok (.l ((bs.take (k + 1)).map fun d => .d (.str (tx [97 + d])))) := by
        refine eLc_of (ds := (bs.take (k + 1)).map fun d : Nat => PyData.int (d : Nat)) ?_ (by rw [List.length_map, List.length_take, sizeLine_eq]; omega) ?_
        · have sl : gSl (.list (bs.map fun d : Nat => PyData.int (d : Nat))) none (some ((k : Int) + 1)) = some (.l (((bs.take (k + 1)).map fun d : Nat => PyData.int (d : Nat)).map Ow.d)) := by
            rw [show ((k : Int) + 1) = ((k + 1 : Nat) : Int) from by omega, gSl_list, cutL_take, ← List.map_take]
          have vw := vw_ls ((bs.take (k + 1)).map fun d : Nat => PyData.int (d : Nat))
          have i2 : itD (.list ((bs.take (k + 1)).map fun d : Nat => PyData.int (d : Nat))) = .ok ((bs.take (k + 1)).map fun d : Nat => PyData.int (d : Nat)) := rfl
          generalize PyData.list (bs.map fun d : Nat => PyData.int (d : Nat)) = BL at sl
          generalize ((bs.take (k + 1)).map fun d : Nat => PyData.int (d : Nat)) = ds at sl vw i2
          generalize Ow.l (ds.map Ow.d) = OL at sl vw
          generalize PyData.list ds = DL at vw i2
          simp [sl, vw, i2]
        · generalize PyData.list (bs.map fun d : Nat => PyData.int (d : Nat)) = BL
          exact lets_lc (f := sSkip) (fun d hd => b26 d (List.mem_of_mem_take hd))
      have sh : shD (.l ((bs.take (k + 1)).map fun d => .d (.str (tx [97 + d])))) = .ok (.list ((bs.take (k + 1)).map fun d => .str (tx [97 + d]))) := unDs_of (fun d => PyData.str (tx [97 + d])) _
      have jn := join_lets (ds := bs.take (k + 1)) (by rw [List.length_take]; omega)
      rw [eM_eq, eJoin_eq (a := Str.ofString "") rfl (d := .list ((bs.take (k + 1)).map fun d => .str (tx [97 + d]))) (by rw [eB_eq, lin, R.bind_ok, sh]), jn]
      rfl
    generalize PyData.list (bs.map fun d : Nat => PyData.int (d : Nat)) = BL at lr
    rw [sRet_eq, lr]
    rfl
  · rw [if_neg cc, if_neg (by simpa using cc)]
    simp only [sSkip_eq, SR.andThen]
    obtain ⟨w, hw, w8⟩ := emod_nat (c := c) (n := 8) (by decide)
    change c % 8 = _ at hw
    rw [hw, Int.toNat_natCast]
    obtain ⟨s, hs, s8⟩ := emod_nat (c := c / 8) (n := 1 + w) (by omega)
    rw [hs, Int.toNat_natCast]
    have g8 : gMod (.int c) (.int 8) = some (.int (c % 8)) := gMod_int (by decide)
    have gd : gDiv (.int c) (.int 8) = some (.int (c / 8)) := gDiv_small (by decide) (by decide)
    have gs : gMod (.int (c / 8)) (.int ((1 + w : Nat) : Int)) = some (.int (s : Nat)) := by rw [gMod_int (by omega), hs]
    rw [hw] at g8
    have w1 : (1 : Int) + (w : Nat) = ((1 + w : Nat) : Int) := by omega
    have sl : gSl (.list (bs.map fun d : Nat => PyData.int (d : Nat))) none (some ((1 + w : Nat) : Int)) = some (.l ((bs.take (1 + w)).map fun d : Nat => .d (.int (d : Nat)))) := by
      rw [gSl_list, cutL_take, ← List.map_take, List.map_map]; rfl
    obtain ⟨B, hB⟩ : ∃ B, B = bs.take (1 + w) := ⟨_, rfl⟩
    have Bl : B.length = 1 + w := by rw [hB, List.length_take]; omega
    have B26 : ∀ d ∈ B, d < 26 := fun d hd => b26 d (List.mem_of_mem_take (hB ▸ hd))
    have Bs : B[s]? = some (bs.getD s 0) := by
      rw [hB, List.getElem?_take, if_pos s8, List.getD_eq_getElem?_getD, List.getElem?_eq_getElem (by omega)]
      rfl
    rw [← hB] at sl ⊢
    generalize bs.getD s 0 = b at Bs
    refine fin_step (env1 := [some (.d (.int c)), some (.d (.str abc)), some (.d (.list (bs.map fun d : Nat => PyData.int (d : Nat)))), none, none, some (.d (.int ((1 + w : Nat) : Int))), none, none, none]) (by
      rw [← w1]
      generalize PyData.list (bs.map fun d : Nat => PyData.int (d : Nat)) = BL
      simp [g8]) ?_
    refine fin_step (env1 := [some (.d (.int c)), some (.d (.str abc)), some (.d (.list (bs.map fun d : Nat => PyData.int (d : Nat)))), none, none, some (.d (.int ((1 + w : Nat) : Int))), some (.d (.int (s : Nat))), none, none]) (by
      generalize PyData.list (bs.map fun d : Nat => PyData.int (d : Nat)) = BL
      generalize ((1 + w : Nat) : Int) = W at gs
      simp [gd, gs]) ?_
    refine fin_step (env1 := [some (.d (.int c)), some (.d (.str abc)), some (.d (.list (bs.map fun d : Nat => PyData.int (d : Nat)))), none, none, some (.d (.int ((1 + w : Nat) : Int))), some (.d (.int (s : Nat))), some (.l []), none]) (by
      generalize PyData.list (bs.map fun d : Nat => PyData.int (d : Nat)) = BL
      simp [sizeLine_eq]) ?_
    obtain ⟨env', e1, x4, x8, e2⟩ := forL_map (g := gtName 4) (f := nmStep) (fun k : Nat => PyData.int (k : Nat)) (List.range 8)
      (fun i env => ∃ x4 x8, env = [some (.d (.int c)), some (.d (.str abc)), some (.d (.list (bs.map fun d : Nat => PyData.int (d : Nat)))), none, x4, some (.d (.int ((1 + w : Nat) : Int))), some (.d (.int (s : Nat))), some (nmO (((List.range 8).take i).map fun k => moved B s b k)), x8]) (fun i k env hk ⟨x4, x8, e⟩ => by
        subst e
        refine ⟨[some (.d (.int c)), some (.d (.str abc)), some (.d (.list (bs.map fun d : Nat => PyData.int (d : Nat)))), none, some (.d (.int (k : Nat))), some (.d (.int ((1 + w : Nat) : Int))), some (.d (.int (s : Nat))), some (nmO (((List.range 8).take i).map fun k => moved B s b k)), x8], rfl, [some (.d (.int c)), some (.d (.str abc)), some (.d (.list (bs.map fun d : Nat => PyData.int (d : Nat)))), none, some (.d (.int (k : Nat))), some (.d (.int ((1 + w : Nat) : Int))), some (.d (.int (s : Nat))), some (nmO (((List.range 8).take (i + 1)).map fun k => moved B s b k)), some (.d (.list ((moved B s b k).map fun d : Nat => PyData.int (d : Nat))))], .inl ?_, _, _, rfl⟩
        have tk : nmO (((List.range 8).take (i + 1)).map fun k => moved B s b k) = .l ((((List.range 8).take i).map fun k => moved B s b k).map (fun l => .d (.str (lets l))) ++ [.d (.str (lets (moved B s b k)))]) := by unfold nmO; rw [List.take_add_one, hk, List.map_append, List.map_append]; rfl
        have ll : ((((List.range 8).take i).map fun k => moved B s b k).map fun l => Ow.d (.str (lets l))).length < 16777216 := by rw [List.length_map, List.length_map, List.length_take, List.length_range]; omega
        have nm : nmO (((List.range 8).take i).map fun k => moved B s b k) = .l ((((List.range 8).take i).map fun k => moved B s b k).map fun l => .d (.str (lets l))) := rfl
        rw [tk, nm]
        generalize ((((List.range 8).take i).map fun k => moved B s b k).map fun l => Ow.d (.str (lets l))) = OS at ll
        have mv : (moved B s b k).length = B.length := by unfold moved; rw [List.length_set]
        have mv26 : ∀ d ∈ moved B s b k, d < 26 := fun d hd => by
          rcases List.mem_or_eq_of_mem_set hd with h | h
          · exact B26 d h
          · subst h; exact Nat.mod_lt _ (by decide)
        refine seq_nx (env1 := [some (.d (.int c)), some (.d (.str abc)), some (.d (.list (bs.map fun d : Nat => PyData.int (d : Nat)))), none, some (.d (.int (k : Nat))), some (.d (.int ((1 + w : Nat) : Int))), some (.d (.int (s : Nat))), some (.l OS), some (.l (B.map fun d : Nat => .d (.int (d : Nat))))]) (by
          generalize PyData.list (bs.map fun d : Nat => PyData.int (d : Nat)) = BL at sl
          generalize ((1 + w : Nat) : Int) = W at sl
          simp [sl]) ?_
        refine seq_nx (env1 := [some (.d (.int c)), some (.d (.str abc)), some (.d (.list (bs.map fun d : Nat => PyData.int (d : Nat)))), none, some (.d (.int (k : Nat))), some (.d (.int ((1 + w : Nat) : Int))), some (.d (.int (s : Nat))), some (.l OS), some (.l ((moved B s b k).map fun d : Nat => .d (.int (d : Nat))))]) (by
          have sh : shD (.l (B.map fun d : Nat => .d (.int (d : Nat)))) = .ok (.list (B.map fun d : Nat => .int (d : Nat))) := unDs_of (fun d : Nat => PyData.int (d : Nat)) B
          have ix : gIx (.list (B.map fun d : Nat => .int (d : Nat))) (.int (s : Nat)) = some (.int (b : Nat)) := by
            show atI (B.map fun d : Nat => PyData.int (d : Nat)) _ = _
            exact atI_natD (by rw [List.getElem?_map, Bs]; rfl)
          have md : gMod (.int ((b : Int) + (k : Nat))) (.int 26) = some (.int (((b + k) % 26 : Nat) : Int)) := by
            rw [gMod_int (by decide)]
            congr 2
          have ixn : ixN (B.map fun d : Nat => Ow.d (.int (d : Nat))).length ((s : Nat) : Int) = some s := ixN_nat (by rw [List.length_map]; omega)
          have st : (moved B s b k).map (fun d : Nat => Ow.d (.int (d : Nat))) = (B.map fun d : Nat => Ow.d (.int (d : Nat))).set s (.d (.int (((b + k) % 26 : Nat) : Int))) := by unfold moved; rw [List.map_set]
          rw [st]
          have e3 : (eM (eBin gMod (eM (eBinO gAdd (eBin gIx (eB (eVarO 8) shD) (eVar 6)) (eVar 4)) viewD) (eC (.int 26))) Ow.d) [some (.d (.int c)), some (.d (.str abc)), some (.d (.list (bs.map fun d : Nat => PyData.int (d : Nat)))), none, some (.d (.int (k : Nat))), some (.d (.int ((1 + w : Nat) : Int))), some (.d (.int (s : Nat))), some (.l OS), some (.l (B.map fun d : Nat => .d (.int (d : Nat))))] = .ok (.d (.int (((b + k) % 26 : Nat) : Int))) := by
            generalize PyData.list (bs.map fun d : Nat => PyData.int (d : Nat)) = BL
            generalize Ow.l (B.map fun d : Nat => .d (.int (d : Nat))) = OB at sh
            generalize PyData.list (B.map fun d : Nat => .int (d : Nat)) = LB at sh ix
            generalize ((1 + w : Nat) : Int) = W
            generalize (((b + k) % 26 : Nat) : Int) = Z at md
            simp [sh, ix, md]
          rw [sPut_eq, e3, R.st_ok]
          show ownL 8 _ _ = _
          rw [ownL_8]
          show R.st _ (eVar 6 _) _ = _
          rw [eVar_6, R.st_ok]
          show (match ixN (B.map fun d : Nat => Ow.d (.int (d : Nat))).length ((s : Nat) : Int) with
            | some j => SR.nx _
            | none => SR.no) = _
          rw [ixn]
          rfl) ?_
        have vm : viewD (.l ((moved B s b k).map fun d : Nat => .d (.int (d : Nat)))) = .list ((moved B s b k).map fun d : Nat => .int (d : Nat)) := viewD_of (fun d : Nat => PyData.int (d : Nat)) _
        have fz : frzV 8 [some (.d (.int c)), some (.d (.str abc)), some (.d (.list (bs.map fun d : Nat => PyData.int (d : Nat)))), none, some (.d (.int (k : Nat))), some (.d (.int ((1 + w : Nat) : Int))), some (.d (.int (s : Nat))), some (.l OS), some (.l ((moved B s b k).map fun d : Nat => .d (.int (d : Nat))))] = [some (.d (.int c)), some (.d (.str abc)), some (.d (.list (bs.map fun d : Nat => PyData.int (d : Nat)))), none, some (.d (.int (k : Nat))), some (.d (.int ((1 + w : Nat) : Int))), some (.d (.int (s : Nat))), some (.l OS), some (.d (.list ((moved B s b k).map fun d : Nat => .int (d : Nat))))] := by
          rw [← vm]
          rfl
        show sApp 7 _ (frzV 8 _) = _
        rw [fz]
        have lin : eLc (eB (eVar 8) itD) (gtName 3) cYes (eM (eBin gIx (eVar 1) (eVar 3)) Ow.d) (List.map (·.2) ([("_law_j", 3)] : List (Str × Nat))) [some (.d (.int c)), some (.d (.str abc)), some (.d (.list (bs.map fun d : Nat => PyData.int (d : Nat)))), none, some (.d (.int (k : Nat))), some (.d (.int ((1 + w : Nat) : Int))), some (.d (.int (s : Nat))), some (.l OS), some (.d (.list ((moved B s b k).map fun d : Nat => .int (d : Nat))))] = .ok (.l ((moved B s b k).map fun d => .d (.str (tx [97 + d])))) := by
          refine eLc_of (ds := (moved B s b k).map fun d : Nat => PyData.int (d : Nat)) ?_ (by rw [List.length_map, mv, Bl, sizeLine_eq]; omega) ?_
          · have i2 : itD (.list ((moved B s b k).map fun d : Nat => PyData.int (d : Nat))) = .ok ((moved B s b k).map fun d : Nat => PyData.int (d : Nat)) := rfl
            generalize PyData.list (bs.map fun d : Nat => PyData.int (d : Nat)) = BL
            generalize PyData.list ((moved B s b k).map fun d : Nat => PyData.int (d : Nat)) = ML at i2
            generalize ((1 + w : Nat) : Int) = W
            simp [i2]
          · exact lets_lc (f := sSkip) mv26
        have sh : shD (.l ((moved B s b k).map fun d => .d (.str (tx [97 + d])))) = .ok (.list ((moved B s b k).map fun d => .str (tx [97 + d]))) := unDs_of (fun d => PyData.str (tx [97 + d])) _
        have jn := join_lets (ds := moved B s b k) (by rw [mv, Bl]; omega)
        rw [sApp_eq, ownL_7, eM_eq, eJoin_eq (a := Str.ofString "") rfl (d := .list ((moved B s b k).map fun d => .str (tx [97 + d]))) (by rw [eB_eq, lin, R.bind_ok, sh]), jn]
        show (if OS.length < sizeLine then _ else _) = _
        rw [if_pos (by rw [sizeLine_eq]; exact ll)]
        rfl) [some (.d (.int c)), some (.d (.str abc)), some (.d (.list (bs.map fun d : Nat => PyData.int (d : Nat)))), none, none, some (.d (.int ((1 + w : Nat) : Int))), some (.d (.int (s : Nat))), some (.l []), none] ⟨none, none, rfl⟩
    subst e2
    rw [List.length_range] at e1
    refine fin_step (env1 := [some (.d (.int c)), some (.d (.str abc)), some (.d (.list (bs.map fun d : Nat => PyData.int (d : Nat)))), none, x4, some (.d (.int ((1 + w : Nat) : Int))), some (.d (.int (s : Nat))), some (nmO ((List.range 8).map fun k => moved B s b k)), x8]) (by
      have i8 : (eB (aCons (eC (.int 8)) aNil) rg1) [some (.d (.int c)), some (.d (.str abc)), some (.d (.list (bs.map fun d : Nat => PyData.int (d : Nat)))), none, none, some (.d (.int ((1 + w : Nat) : Int))), some (.d (.int (s : Nat))), some (.l []), none] = .ok ((List.range 8).map fun k : Nat => PyData.int (k : Nat)) := by
        simp only [eB_eq, aCons_eq, eC_eq, aNil_eq, R.bind_ok, R.map_ok]
        exact rg1_8
      rw [sFor_eq, i8, R.st_ok, e1]
      rfl) ?_
    rfl
end
end Mir
set_option Elab.async false
set_option linter.all false
set_option maxRecDepth 100000
set_option maxHeartbeats 4000000
namespace Mir
open PySem PySem.Spec L2
/-- 10 ^ 59, kept shut -/
def T59 : Int := 10 ^ 59
def greatI (z : Int) : Int := z % (2 * T59 + 1) - T59
theorem T59_pos : 0 < T59 := by unfold T59; decide
theorem T59_lt : T59 < 2 ^ 249 := by unfold T59; decide
theorem greatI_abs (z : Int) : (greatI z).natAbs < 2 ^ 250 := by
  unfold greatI
  have a := Int.emod_nonneg z (b := 2 * T59 + 1) (by have := T59_pos; omega)
  have b := Int.emod_lt_of_pos z (b := 2 * T59 + 1) (by have := T59_pos; omega)
  have c := T59_lt
  omega
theorem p59 : gPow (.int 10) (.int 59) = some (.int T59) := gPow10 59 (by decide)
noncomputable section
abbrev bGreat : Ev → SR := (sRet (eM (eBin gSub (eBin gMod (eVar 0) (eM (eBinO gAdd (eBin gMul (eC (.int 2)) (eBin gPow (eC (.int 10)) (eC (.int 59)))) (eC (.int 1))) viewD)) (eBin gPow (eC (.int 10)) (eC (.int 59)))) Ow.d))
theorem great_fin (z : Int) : finR (bGreat (envOf 0 [.int z])) = .ok (.d (.int (greatI z))) := by
  have he : envOf 0 [.int z] = [some (.d (.int z))] := rfl
  rw [he]
  have tp := T59_pos
  have tl := T59_lt
  have p := p59
  unfold greatI
  generalize T59 = T at tp tl p
  have m2 : gMul (.int 2) (.int T) = some (.int (2 * T)) := gMul_small (by decide) (by omega)
  have md : gMod (.int z) (.int (2 * T + 1)) = some (.int (z % (2 * T + 1))) := gMod_int (by omega)
  have sb : gSub (.int (z % (2 * T + 1))) (.int T) = some (.int (z % (2 * T + 1) - T)) := rfl
  generalize z % (2 * T + 1) = M at md sb
  simp [p, m2, md, sb]
abbrev bWhole : Ev → SR := (sRet (eM (eAnd (eB (eVar 0) (gIsi "int")) (eNot (eB (eVar 0) (gIsi "bool")))) Ow.d))
theorem whole_fin (z : Int) : finR (bWhole (envOf 0 [.int z])) = .ok (.d (.bool true)) := by
  have he : envOf 0 [.int z] = [some (.d (.int z))] := rfl
  rw [he]
  simp
end
end Mir
set_option Elab.async false
set_option linter.all false
set_option maxRecDepth 100000
set_option maxHeartbeats 4000000
namespace Mir
open PySem PySem.Spec L2
/-- names at hand: eight, all unlike -/
structure NamesD (NS : D) (N : Nat → Str) : Prop where
  ix : ∀ i : Nat, i < 8 → gIx NS (.int (i : Nat)) = some (.str (N i))
  ne : ∀ i j : Nat, i < 8 → j < 8 → i ≠ j → N i ≠ N j
  ok : ∀ i : Nat, i < 8 → PyData.strOk (N i) = true
theorem names_at {ls : List (List Nat)} (h : Names8 ls) : NamesD (nsD ls) fun i => lets (ls.getD i []) where
  ix := fun i hi => by
    have hl : i < ls.length := by rw [h.eight]; exact hi
    show atI (ls.map fun l => PyData.str (lets l)) _ = _
    refine atI_natD ?_
    rw [List.getElem?_map, List.getElem?_eq_getElem hl, List.getD_eq_getElem?_getD, List.getElem?_eq_getElem hl]
    rfl
  ne := fun i j hi hj n e => by
    have hl : i < ls.length := by rw [h.eight]; exact hi
    have hm : j < ls.length := by rw [h.eight]; exact hj
    have e := lets_inj e
    rw [List.getD_eq_getElem?_getD, List.getElem?_eq_getElem hl, List.getD_eq_getElem?_getD, List.getElem?_eq_getElem hm] at e
    have q := List.pairwise_iff_getElem.mp (List.nodup_iff_pairwise_ne.mp h.nd)
    rcases Nat.lt_or_gt_of_ne n with c | c
    · exact q i j hl hm c e
    · exact q j i hm hl c e.symm
  ok := fun i hi => by
    have hl : i < ls.length := by rw [h.eight]; exact hi
    refine strOk_lets fun d hd => ?_
    rw [List.getD_eq_getElem?_getD, List.getElem?_eq_getElem hl] at hd
    exact h.lets _ (List.getElem_mem hl) d hd
theorem rng_ix {n i : Nat} (f : Nat → D) (h : i < n) : gIx (.list ((List.range n).map f)) (.int (i : Nat)) = some (f i) := by
  show atI ((List.range n).map f) _ = _
  exact atI_natD (by rw [List.getElem?_map, List.getElem?_range h]; rfl)
theorem mk_eq (k : Bool) (a m : Int) : a + m * (if k = true then 1 else 0) = mkOf k a m := by cases k <;> simp [mkOf]
end Mir
set_option Elab.async false
set_option linter.all false
set_option maxRecDepth 100000
set_option maxHeartbeats 4000000
namespace Mir
open PySem PySem.Spec L2
theorem can_s {z : Str} (h : PyData.strOk z = true) : (PyData.str z).canLay0 = true := by rw [PyData.canLay0]; exact h
theorem dep_s (z : Str) : (PyData.str z).depth = 0 := by rw [PyData.depth]
structure NcTn (t : Trn) (B : Nat) : Prop where
  kinds : ∀ p ∈ t.wood, PyData.strOk p.1 = true
  rows : ∀ p ∈ t.wood, ∀ r ∈ p.2, PyData.strOk r.nm = true ∧ ∀ z ∈ r.br, PyData.strOk z = true
  start : okM t.start ∧ levM t.start ≤ B
  mkinds : ∀ p ∈ t.modes, PyData.strOk p.1 = true
  rules : ∀ p ∈ t.modes, ∀ T ∈ p.2, okM T ∧ levM T ≤ B
theorem nice_rwsD {rs : List Rw} (h : ∀ r ∈ rs, PyData.strOk r.nm = true ∧ ∀ z ∈ r.br, PyData.strOk z = true) : (rwsD rs).canLay0 = true ∧ (rwsD rs).depth ≤ 3 := by
  have e : ∀ d ∈ rs.map encRw, d.canLay0 = true ∧ d.depth ≤ 2 := fun d hd => by
    obtain ⟨r, hr, rfl⟩ := List.mem_map.mp hd
    obtain ⟨a, b⟩ := h r hr
    obtain ⟨c1, c2⟩ := nice_strs b
    have dd : (PyData.tuple (r.br.map PyData.str)).depth ≤ 1 := by
      rw [PyData.depth]
      have := depthAll_of (n := 0) (r.br.map PyData.str) fun d hd => by
        obtain ⟨z, _, rfl⟩ := List.mem_map.mp hd
        rw [dep_s]; omega
      omega
    unfold encRw
    refine ⟨?_, ?_⟩
    · rw [PyData.canLay0, PyData.canLayAll0, PyData.canLayAll0, PyData.canLayAll0, can_s a, c1]
      rfl
    · rw [PyData.depth, PyData.depthAll, PyData.depthAll, PyData.depthAll, dep_s]
      omega
  unfold rwsD
  refine ⟨?_, ?_⟩
  · rw [PyData.canLay0]
    exact canAll_of _ fun d hd => (e d hd).1
  · rw [PyData.depth]
    have := depthAll_of (n := 2) (rs.map encRw) fun d hd => (e d hd).2
    omega
theorem nice_trsD {ts : List Trm} {B : Nat} (h : ∀ T ∈ ts, okM T ∧ levM T ≤ B) : (trsD ts).canLay0 = true ∧ (trsD ts).depth ≤ 2 * B + 1 := by
  unfold trsD
  refine ⟨?_, ?_⟩
  · rw [PyData.canLay0]
    exact canAll_of _ fun d hd => by
      obtain ⟨t, ht, rfl⟩ := List.mem_map.mp hd
      exact can_encM t (h t ht).1
  · rw [PyData.depth]
    have := depthAll_of (n := 2 * B) (ts.map encM) fun d hd => by
      obtain ⟨t, ht, rfl⟩ := List.mem_map.mp hd
      have := depth_encM t
      have := (h t ht).2
      omega
    omega
theorem nice_tnD {t : Trn} {B : Nat} (h : NcTn t B) (hB : B ≤ 55) : Nice (encTn t) := by
  have w1 : (encWd t.wood).canLay0 = true ∧ (encWd t.wood).depth ≤ 5 := by
    have e : ∀ d ∈ t.wood.map encKd, d.canLay0 = true ∧ d.depth ≤ 4 := fun d hd => by
      obtain ⟨p, hp, rfl⟩ := List.mem_map.mp hd
      obtain ⟨a1, a2⟩ := nice_rwsD (h.rows p hp)
      rw [encKd_tup]
      refine ⟨?_, ?_⟩
      · rw [PyData.canLay0, PyData.canLayAll0, PyData.canLayAll0, PyData.canLayAll0, can_s (h.kinds p hp), a1]
        rfl
      · rw [PyData.depth, PyData.depthAll, PyData.depthAll, PyData.depthAll, dep_s]
        omega
    unfold encWd
    refine ⟨?_, ?_⟩
    · rw [PyData.canLay0]
      exact canAll_of _ fun d hd => (e d hd).1
    · rw [PyData.depth]
      have := depthAll_of (n := 4) _ fun d hd => (e d hd).2
      omega
  have m1 : (moD t.modes).canLay0 = true ∧ (moD t.modes).depth ≤ 2 * B + 3 := by
    have e : ∀ d ∈ t.modes.map encMo, d.canLay0 = true ∧ d.depth ≤ 2 * B + 2 := fun d hd => by
      obtain ⟨p, hp, rfl⟩ := List.mem_map.mp hd
      obtain ⟨a1, a2⟩ := nice_trsD (h.rules p hp)
      rw [encMo_tup]
      refine ⟨?_, ?_⟩
      · rw [PyData.canLay0, PyData.canLayAll0, PyData.canLayAll0, PyData.canLayAll0, can_s (h.mkinds p hp), a1]
        rfl
      · rw [PyData.depth, PyData.depthAll, PyData.depthAll, PyData.depthAll, dep_s]
        omega
    unfold moD
    refine ⟨?_, ?_⟩
    · rw [PyData.canLay0]
      exact canAll_of _ fun d hd => (e d hd).1
    · rw [PyData.depth]
      have := depthAll_of (n := 2 * B + 2) _ fun d hd => (e d hd).2
      omega
  have e : encTn t = .tuple [encWd t.wood, encM t.start, moD t.modes] := rfl
  have c1 := can_encM t.start h.start.1
  have c2 := depth_encM t.start
  have c3 := h.start.2
  rw [e]
  refine ⟨?_, ?_⟩
  · rw [PyData.canLay0, PyData.canLayAll0, PyData.canLayAll0, PyData.canLayAll0, PyData.canLayAll0, w1.1, c1, m1.1]
    rfl
  · rw [PyData.depth, PyData.depthAll, PyData.depthAll, PyData.depthAll, PyData.depthAll]
    omega
end Mir
set_option Elab.async false
set_option linter.all false
set_option maxRecDepth 100000
set_option maxHeartbeats 4000000
namespace Mir
open PySem PySem.Spec L2
noncomputable section
/-- a tree's branches are of these kinds -/
def KidsOk (w : Wood) (ks : List Str) (u : Tr) : Prop := ks.length = (trBs u).length ∧ isOfs w (trBs u) ks = true
abbrev stC : Ev → R Bool := (eB (eBin gEq (eBin gIx (eVar 1) (eC (.int 0))) (eC (.str "call"))) asB)
abbrev stB (f5 : List D → R Ow) : Ev → SR := (sSeq (sSet 2 (eM (eBin gIx (eBin gIx (eVar 2) (eC (.int 2))) (eBin gIx (eVar 1) (eC (.int 2)))) Ow.d))
    (sSet 1 (eM (eM (eB (aCons (eVar 0) (aCons (eBin gIx (eVar 1) (eC (.int 1))) (aCons (eBin gIx (eVar 2) (eC (.int 0))) aNil))) f5) viewD) Ow.d)))
abbrev bSettled (f5 : List D → R Ow) : Ev → SR := (sSeq (whileN stC (stB f5) 1000000)
    (sRet (eM (eTup (aCons (eVar 1) (aCons (eVar 2) aNil))) Ow.d)))
theorem settle_loop {t : Trn} {B : Nat} (ok : SndT t B) {f5 : List D → R Ow} (h5 : ∀ (k : Nat) (p : Str × List Trm), t.modes[k]? = some p → ∀ nm, f5 [encTn t, .int (k : Nat), .str nm] = .ok (.d (ruleOf t.wood p nm))) : ∀ (n : Nat) (u : Tr) (T : Trm) (ks : List Str), levT u ≤ n → FitT t ks T → GoodM B T → KidsOk t.wood ks u →
    ∃ nm kp ad ps u' ks', madT t u T = madT t u' (.put nm kp ad ps) ∧ FitT t ks' (.put nm kp ad ps) ∧ GoodM B (.put nm kp ad ps) ∧ KidsOk t.wood ks' u' ∧ levT u' ≤ levT u ∧ ∀ k, n < k → whileN stC (stB f5) k [some (.d (encTn t)), some (.d (encM T)), some (.d (encT u))] = .nx [some (.d (encTn t)), some (.d (encM (.put nm kp ad ps))), some (.d (encT u'))]
  | n, u, .put nm kp ad ps, ks, hu, hf, hg, hk => by
    refine ⟨nm, kp, ad, ps, u, ks, rfl, hf, hg, hk, Nat.le_refl _, fun k h => ?_⟩
    obtain ⟨k, rfl⟩ : ∃ k', k = k' + 1 := ⟨k - 1, by omega⟩
    have m0 := m_ix0 nm kp ad ps
    have c : stC [some (.d (encTn t)), some (.d (encM (.put nm kp ad ps))), some (.d (encT u))] = .ok false := by
      generalize encM (.put nm kp ad ps) = E at m0
      simp [m0]
    rw [whileN, c]
    rfl
  | 0, .mk _ _ _, .call _ _, ks, hu, _, _, _ => by rw [levT] at hu; omega
  | n + 1, .mk nm mk bs, .call m y, ks, hu, hf, hg, hk => by
    rw [levT] at hu
    obtain ⟨d1, d2, q, d3, d4⟩ := hf (m, y) (by rw [callsM]; exact List.mem_singleton.mpr rfl)
    change 0 ≤ m at d1
    change 0 ≤ y at d2
    change t.modes[m.toNat]? = some q at d3
    change ks[y.toNat]? = some q.1 at d4
    obtain ⟨hl, hi⟩ := hk
    change ks.length = bs.length at hl
    change isOfs t.wood bs ks = true at hi
    obtain ⟨i, rfl⟩ : ∃ i : Nat, y = (i : Int) := ⟨y.toNat, by omega⟩
    obtain ⟨k0, rfl⟩ : ∃ k : Nat, m = (k : Int) := ⟨m.toNat, by omega⟩
    rw [Int.toNat_natCast] at d3 d4
    have il : i < bs.length := by
      have := (List.getElem?_eq_some_iff.mp d4).1
      omega
    have hb := List.getElem?_eq_getElem il
    have hbk := isOfs_at hi hb d4
    obtain ⟨ksb, r1, r2, r3, r4, r5, r6⟩ := rule_ex ok d3 hbk
    have lb : levT bs[i] ≤ levTs bs := levTs_le (Nat.le_refl _) _ (List.getElem_mem il)
    obtain ⟨nm', kp', ad', ps', u', ks', s1, s2, s3, s4, s5, s6⟩ := settle_loop ok h5 n bs[i] (ruleF t (k0 : Int) (trNm bs[i])) ksb (by omega) r4 r5 ⟨r2, r3⟩
    refine ⟨nm', kp', ad', ps', u', ks', (madT_call hb).trans s1, s2, s3, s4, by rw [levT]; omega, fun k h => ?_⟩
    obtain ⟨k, rfl⟩ : ∃ k', k = k' + 1 := ⟨k - 1, by omega⟩
    have c0 := c_ix0 (k0 : Int) (i : Int)
    have c1 := c_ix1 (k0 : Int) (i : Int)
    have c2 := c_ix2 (k0 : Int) (i : Int)
    have i2 := t_ix2 nm mk bs
    have ib : gIx (.tuple (bs.map encT)) (.int (i : Nat)) = some (encT bs[i]) := by
      show atI (bs.map encT) _ = _
      exact atI_natD (by rw [List.getElem?_map, hb]; rfl)
    have e0 : gIx (encT bs[i]) (.int 0) = some (.str (trNm bs[i])) := by generalize bs[i] = b; obtain ⟨nm, mk, bs⟩ := b; exact t_ix0 nm mk bs
    have h := h5 k0 q d3 (trNm bs[i])
    rw [r1] at h
    have cc : stC [some (.d (encTn t)), some (.d (encM (.call (k0 : Int) (i : Int)))), some (.d (encT (.mk nm mk bs)))] = .ok true := by
      generalize encM (.call (k0 : Int) (i : Int)) = E at c0
      simp [c0]
    have st : stB f5 [some (.d (encTn t)), some (.d (encM (.call (k0 : Int) (i : Int)))), some (.d (encT (.mk nm mk bs)))] = .nx [some (.d (encTn t)), some (.d (encM (ruleF t (k0 : Int) (trNm bs[i])))), some (.d (encT bs[i]))] := by
      generalize PyData.tuple (bs.map encT) = TB at i2 ib
      generalize encT (.mk nm mk bs) = RD at i2
      generalize encM (.call (k0 : Int) (i : Int)) = E at c0 c1 c2
      generalize encT bs[i] = EB at ib e0
      generalize encM (ruleF t (k0 : Int) (trNm bs[i])) = RT at h
      simp [c1, c2, i2, ib, e0, h]
    rw [whileN, cc, R.st_ok, if_pos rfl]
    simp only [st]
    exact s6 k (by omega)
/-- the way from a tree to one below it -/
def atT : Tr → List Int → Option Tr
  | t, [] => some t
  | .mk _ _ bs, b :: p => if 0 ≤ b then match bs[b.toNat]? with
    | some c => atT c p
    | none => none
    else none
def labD : Option Tr → D
  | none => .none
  | some (.mk nm mk bs) => .tuple [.str nm, .int mk, .int (bs.length : Nat)]
abbrev seStep (f15 : List D → R Ow) : Ev → SR := (sSeq (sIf (tOrE (eB (eBin gLt (eVar 5) (eC (.int 0))) asB) (eB (eBin gGe (eVar 5) (eM (eCa gLen (aCons (eBin gIx (eVar 4) (eC (.int 4))) aNil)) viewD)) asB))
    (sRet (eM (eC .none) Ow.d))
    sSkip)
    (sAsg (gtTup 2 (gtCons (gtName 4) (gtCons (gtName 2) gtNil))) (eM (eB (aCons (eVar 0) (aCons (eBin gIx (eBin gIx (eVar 4) (eC (.int 4))) (eVar 5)) (aCons (eVar 2) aNil))) f15) viewD)))
abbrev bSeenFrom (f8 f15 : List D → R Ow) : Ev → SR := (sSeq (sAsg (gtTup 2 (gtCons (gtName 4) (gtCons (gtName 2) gtNil))) (eM (eB (aCons (eVar 0) (aCons (eVar 1) (aCons (eVar 2) aNil))) f15) viewD))
    (sSeq (sFor (eB (eVar 3) itD) (gtName 5)
    (seStep f15))
    (sRet (eM (eTup (aCons (eBin gIx (eVar 4) (eC (.int 1))) (aCons (eM (eB (aCons (eVar 4) (aCons (eVar 2) aNil)) f8) viewD) (aCons (eM (eCa gLen (aCons (eBin gIx (eVar 4) (eC (.int 4))) aNil)) viewD) aNil)))) Ow.d))))
/-- what settled tells -/
def Settles (t : Trn) (B : Nat) (L : Nat) (f15 : List D → R Ow) : Prop := ∀ (u : Tr) (T : Trm) (ks : List Str), levT u ≤ L → FitT t ks T → GoodM B T → KidsOk t.wood ks u →
    ∃ nm kp ad ps u' ks', madT t u T = madT t u' (.put nm kp ad ps) ∧ FitT t ks' (.put nm kp ad ps) ∧ GoodM B (.put nm kp ad ps) ∧ KidsOk t.wood ks' u' ∧ levT u' ≤ levT u ∧ f15 [encTn t, encM T, encT u] = .ok (.d (.tuple [encM (.put nm kp ad ps), encT u']))
theorem settles_fin {t : Trn} {B L : Nat} (ok : SndT t B) (hL : L < 1000000) {f5 f15 : List D → R Ow} (h5 : ∀ (k : Nat) (p : Str × List Trm), t.modes[k]? = some p → ∀ nm, f5 [encTn t, .int (k : Nat), .str nm] = .ok (.d (ruleOf t.wood p nm))) (h15 : ∀ ds, f15 ds = finR (bSettled f5 (envOf 0 ds))) : Settles t B L f15 := fun u T ks hu hf hg hk => by
  obtain ⟨nm, kp, ad, ps, u', ks', a1, a2, a3, a4, a5, a6⟩ := settle_loop ok h5 L u T ks hu hf hg hk
  refine ⟨nm, kp, ad, ps, u', ks', a1, a2, a3, a4, a5, ?_⟩
  have he : envOf 0 [encTn t, encM T, encT u] = [some (.d (encTn t)), some (.d (encM T)), some (.d (encT u))] := rfl
  rw [h15, he]
  refine fin_step (a6 1000000 hL) ?_
  generalize encTn t = TN
  generalize encM (.put nm kp ad ps) = E
  generalize encT u' = U
  simp [sizeLine_eq]
theorem seen_loop {t : Trn} {B L : Nat} {f15 : List D → R Ow} (hs : Settles t B L f15) (T0 PL : D) : ∀ (p : List Int) (nm : Str) (kp : Bool) (ad : Int) (ps : List Trm) (u : Tr) (ks : List Str) (x5 : Option Ow), levT u ≤ L → FitT t ks (.put nm kp ad ps) → GoodM B (.put nm kp ad ps) → KidsOk t.wood ks u →
    match atT (madT t u (.put nm kp ad ps)) p with
    | none => ∃ env', forL (gtName 5) (seStep f15) (p.map PyData.int) [some (.d (encTn t)), some (.d T0), some (.d (encT u)), some (.d PL), some (.d (encM (.put nm kp ad ps))), x5] = .rt (.d .none) env'
    | some o => ∃ nm' kp' ad' ps' u' y5, o = madT t u' (.put nm' kp' ad' ps') ∧ forL (gtName 5) (seStep f15) (p.map PyData.int) [some (.d (encTn t)), some (.d T0), some (.d (encT u)), some (.d PL), some (.d (encM (.put nm kp ad ps))), x5] = .nx [some (.d (encTn t)), some (.d T0), some (.d (encT u')), some (.d PL), some (.d (encM (.put nm' kp' ad' ps'))), y5]
  | [], nm, kp, ad, ps, u, ks, x5, _, _, _, _ => ⟨nm, kp, ad, ps, u, x5, rfl, rfl⟩
  | b :: p, nm, kp, ad, ps, u, ks, x5, hu, hf, hg, hk => by
    have m4 := m_ix4 nm kp ad ps
    have l4 := tup_len (ps.map encM)
    rw [List.length_map] at l4
    obtain ⟨un, um, ub⟩ := u
    rw [madT_put, atT]
    have g : gtName 5 (.int b) [some (.d (encTn t)), some (.d T0), some (.d (encT (.mk un um ub))), some (.d PL), some (.d (encM (.put nm kp ad ps))), x5] = some [some (.d (encTn t)), some (.d T0), some (.d (encT (.mk un um ub))), some (.d PL), some (.d (encM (.put nm kp ad ps))), some (.d (.int b))] := rfl
    have fo : ∀ r : SR, seStep f15 [some (.d (encTn t)), some (.d T0), some (.d (encT (.mk un um ub))), some (.d PL), some (.d (encM (.put nm kp ad ps))), some (.d (.int b))] = r → forL (gtName 5) (seStep f15) ((b :: p).map PyData.int) [some (.d (encTn t)), some (.d T0), some (.d (encT (.mk un um ub))), some (.d PL), some (.d (encM (.put nm kp ad ps))), x5] = (match r with
      | .nx env => forL (gtName 5) (seStep f15) (p.map PyData.int) env
      | .ct env => forL (gtName 5) (seStep f15) (p.map PyData.int) env
      | .bk env => .nx env
      | r => r) := fun r hr => by
      rw [List.map_cons, forL, g]
      simp only [hr]
      cases r <;> rfl
    by_cases b0 : 0 ≤ b
    · obtain ⟨i, rfl⟩ : ∃ i : Nat, b = (i : Int) := ⟨b.toNat, by omega⟩
      rw [if_pos b0, Int.toNat_natCast, List.getElem?_map]
      by_cases il : i < ps.length
      · have hp := List.getElem?_eq_getElem il
        rw [hp]
        simp only [Option.map_some]
        have pm := List.getElem_mem il
        have okp : okM ps[i] := by have := hg.ok; rw [okM, okMs_iff] at this; exact this.2.2 _ pm
        have lvp : levM ps[i] ≤ B := by have := hg.lev; rw [levM] at this; exact levMs_le (by omega) _ pm
        have szp : sizeM ps[i] ≤ 1000 := by have := hg.few; rw [sizeM] at this; have := sizeMs_memM pm; omega
        obtain ⟨nm2, kp2, ad2, ps2, u2, ks2, s1, s2, s3, s4, s5, s6⟩ := hs (.mk un um ub) ps[i] ks hu (fit_put hf _ pm) ⟨okp, lvp, szp⟩ hk
        have ip : gIx (.tuple (ps.map encM)) (.int (i : Nat)) = some (encM ps[i]) := by
          show atI (ps.map encM) _ = _
          exact atI_natD (by rw [List.getElem?_map, hp]; rfl)
        have st : seStep f15 [some (.d (encTn t)), some (.d T0), some (.d (encT (.mk un um ub))), some (.d PL), some (.d (encM (.put nm kp ad ps))), some (.d (.int (i : Nat)))] = .nx [some (.d (encTn t)), some (.d T0), some (.d (encT u2)), some (.d PL), some (.d (encM (.put nm2 kp2 ad2 ps2))), some (.d (.int (i : Nat)))] := by
          have n1 : ¬ ((i : Nat) : Int) < 0 := by omega
          have n2 : ¬ ((ps.length : Nat) : Int) ≤ ((i : Nat) : Int) := by omega
          generalize PyData.tuple (ps.map encM) = TP at m4 l4 ip
          generalize encM (.put nm kp ad ps) = E at m4
          generalize encM (.put nm2 kp2 ad2 ps2) = E2 at s6
          generalize encM ps[i] = EP at ip s6
          generalize encT (.mk un um ub) = U at s6
          generalize encT u2 = U2 at s6
          generalize encTn t = TN at s6
          simp [m4, l4, ip, s6, n1, n2]
        have := seen_loop hs T0 PL p nm2 kp2 ad2 ps2 u2 ks2 (some (.d (.int (i : Nat)))) (by omega) s2 s3 s4
        rw [← s1] at this
        rw [fo _ st]
        exact this
      · rw [List.getElem?_eq_none (by omega)]
        simp only [Option.map_none]
        have st : seStep f15 [some (.d (encTn t)), some (.d T0), some (.d (encT (.mk un um ub))), some (.d PL), some (.d (encM (.put nm kp ad ps))), some (.d (.int (i : Nat)))] = .rt (.d .none) [some (.d (encTn t)), some (.d T0), some (.d (encT (.mk un um ub))), some (.d PL), some (.d (encM (.put nm kp ad ps))), some (.d (.int (i : Nat)))] := by
          have n1 : ¬ ((i : Nat) : Int) < 0 := by omega
          have n2 : ((ps.length : Nat) : Int) ≤ ((i : Nat) : Int) := by omega
          generalize PyData.tuple (ps.map encM) = TP at m4 l4
          generalize encM (.put nm kp ad ps) = E at m4
          generalize encT (.mk un um ub) = U
          generalize encTn t = TN
          simp [m4, l4, n1, n2]
        exact ⟨_, fo _ st⟩
    · rw [if_neg b0]
      have st : seStep f15 [some (.d (encTn t)), some (.d T0), some (.d (encT (.mk un um ub))), some (.d PL), some (.d (encM (.put nm kp ad ps))), some (.d (.int b))] = .rt (.d .none) [some (.d (encTn t)), some (.d T0), some (.d (encT (.mk un um ub))), some (.d PL), some (.d (encM (.put nm kp ad ps))), some (.d (.int b))] := by
        have n1 : b < 0 := by omega
        generalize encM (.put nm kp ad ps) = E at m4
        generalize encT (.mk un um ub) = U
        generalize encTn t = TN
        simp [n1]
      exact ⟨_, fo _ st⟩
theorem seenFrom_fin {t : Trn} {B L : Nat} {f8 f15 : List D → R Ow} (hs : Settles t B L f15) (h8 : ∀ nm kp ad ps n2 mk bs, f8 [encM (.put nm kp ad ps), encT (.mk n2 mk bs)] = .ok (.d (.int (mkOf kp ad mk)))) (u : Tr) (T : Trm) (ks : List Str) (p : List Int) (hu : levT u ≤ L) (hf : FitT t ks T) (hg : GoodM B T) (hk : KidsOk t.wood ks u) :
    finR (bSeenFrom f8 f15 (envOf 2 [encTn t, encM T, encT u, .tuple (p.map PyData.int)])) = .ok (.d (labD (atT (madT t u T) p))) := by
  have he : envOf 2 [encTn t, encM T, encT u, .tuple (p.map PyData.int)] = [some (.d (encTn t)), some (.d (encM T)), some (.d (encT u)), some (.d (.tuple (p.map PyData.int))), none, none] := rfl
  rw [he]
  obtain ⟨nm, kp, ad, ps, u', ks', a1, a2, a3, a4, a5, a6⟩ := hs u T ks hu hf hg hk
  rw [a1]
  have it : itD (.tuple (p.map PyData.int)) = .ok (p.map PyData.int) := rfl
  generalize PyData.tuple (p.map PyData.int) = PL at it
  refine fin_step (env1 := [some (.d (encTn t)), some (.d (encM T)), some (.d (encT u')), some (.d PL), some (.d (encM (.put nm kp ad ps))), none]) (by
    generalize encTn t = TN at a6
    generalize encM T = TM at a6
    generalize encT u = U at a6
    generalize encT u' = U' at a6
    generalize encM (.put nm kp ad ps) = E at a6
    simp [a6]) ?_
  have lp := seen_loop hs (encM T) PL p nm kp ad ps u' ks' none (by omega) a2 a3 a4
  have itv : (eB (eVar 3) itD) [some (.d (encTn t)), some (.d (encM T)), some (.d (encT u')), some (.d PL), some (.d (encM (.put nm kp ad ps))), none] = .ok (p.map PyData.int) := by
    generalize encTn t = TN
    generalize encM T = TM
    generalize encT u' = U'
    generalize encM (.put nm kp ad ps) = E
    simp [it]
  show finR (sSeq (sFor _ _ _) _ _) = _
  rw [sSeq_eq, sFor_eq, itv, R.st_ok]
  cases e : atT (madT t u' (.put nm kp ad ps)) p with
  | none =>
    rw [e] at lp
    obtain ⟨env', lp⟩ := lp
    rw [lp]
    rfl
  | some o =>
    rw [e] at lp
    obtain ⟨nm', kp', ad', ps', u2, y5, rfl, lp⟩ := lp
    rw [lp]
    obtain ⟨n2, mk, bs⟩ := u2
    rw [madT_put]
    have h := h8 nm' kp' ad' ps' n2 mk bs
    have m1 := m_ix1 nm' kp' ad' ps'
    have m4 := m_ix4 nm' kp' ad' ps'
    have l4 := tup_len (ps'.map encM)
    rw [List.length_map] at l4
    have lb : labD (some (.mk nm' (mkOf kp' ad' mk) (ps'.map (madT t (.mk n2 mk bs))))) = .tuple [.str nm', .int (mkOf kp' ad' mk), .int (ps'.length : Nat)] := by unfold labD; simp only; rw [List.length_map]
    rw [lb]
    show finR (sRet _ _) = _
    generalize PyData.tuple (ps'.map encM) = TP at m4 l4
    generalize encM (.put nm' kp' ad' ps') = E at h m1 m4
    generalize encT (.mk n2 mk bs) = U at h
    generalize encTn t = TN
    generalize encM T = TM
    simp [m1, m4, l4, h, sizeLine_eq]
abbrev bSeen (f6 f7 f16 : List D → R Ow) : Ev → SR := (sSeq (sDrop (eM (eB (aCons (eVar 0) (aCons (eBin gIx (eBin gIx (eBin gIx (eVar 0) (eC (.int 0))) (eC (.int 0))) (eC (.int 0))) (aCons (eVar 1) aNil))) f6) viewD))
    (sRet (eB (aCons (eVar 0) (aCons (eBin gIx (eVar 0) (eC (.int 1))) (aCons (eM (eB (aCons (eVar 1) aNil) f7) viewD) (aCons (eVar 2) aNil)))) f16)))
theorem seen_fin {f6 f7 f16 : List D → R Ow} {t : Trn} {u : Tr} {PL r : D} {p0 : Str × List Rw} (hp : t.wood[0]? = some p0) (h6 : f6 [encTn t, .str p0.1, encT u] = .ok (.d .none)) (h7 : f7 [encT u] = .ok (.d (encT (aboveT u)))) (h16 : f16 [encTn t, encM t.start, encT (aboveT u), PL] = .ok (.d r)) : finR (bSeen f6 f7 f16 (envOf 0 [encTn t, encT u, PL])) = .ok (.d r) := by
  have he : envOf 0 [encTn t, encT u, PL] = [some (.d (encTn t)), some (.d (encT u)), some (.d PL)] := rfl
  rw [he]
  have i0 := w_ix0 t
  have i1 := w_ix1 t
  have j0 := wd_ix0 hp
  have k0 := kd_ix0 p0
  generalize encKd p0 = KD at j0 k0
  generalize encWd t.wood = WD at i0 j0
  generalize encT (aboveT u) = AU at h7 h16
  generalize encTn t = TN at i0 i1 h6 h16
  generalize encM t.start = SM at i1 h16
  generalize encT u = U at h6 h7
  simp [i0, i1, j0, k0, h6, h7, h16]
abbrev bSeenIn (f6 f7 f16 : List D → R Ow) : Ev → SR := (sSeq (sDrop (eM (eB (aCons (eVar 0) (aCons (eBin gIx (eBin gIx (eBin gIx (eVar 0) (eC (.int 2))) (eVar 1)) (eC (.int 0))) (aCons (eVar 2) aNil))) f6) viewD))
    (sRet (eB (aCons (eVar 0) (aCons (eTup (aCons (eC (.str "call")) (aCons (eVar 1) (aCons (eC (.int 0)) aNil)))) (aCons (eM (eB (aCons (eVar 2) aNil) f7) viewD) (aCons (eVar 3) aNil)))) f16)))
theorem seenIn_fin {f6 f7 f16 : List D → R Ow} {t : Trn} {u : Tr} {PL r : D} {m : Nat} {p : Str × List Trm} (hp : t.modes[m]? = some p) (h6 : f6 [encTn t, .str p.1, encT u] = .ok (.d .none)) (h7 : f7 [encT u] = .ok (.d (encT (aboveT u)))) (h16 : f16 [encTn t, encM (.call (m : Nat) 0), encT (aboveT u), PL] = .ok (.d r)) : finR (bSeenIn f6 f7 f16 (envOf 0 [encTn t, .int (m : Nat), encT u, PL])) = .ok (.d r) := by
  have he : envOf 0 [encTn t, .int (m : Nat), encT u, PL] = [some (.d (encTn t)), some (.d (.int (m : Nat))), some (.d (encT u)), some (.d PL)] := rfl
  rw [he]
  have i2 : gIx (encTn t) (.int 2) = some (moD t.modes) := w_ix2 t
  have j := mo_ix hp
  have k0 := mo_ix0 p
  rw [encM_call] at h16
  generalize encMo p = KD at j k0
  generalize moD t.modes = WD at i2 j
  generalize encT (aboveT u) = AU at h7 h16
  generalize encTn t = TN at i2 h6 h16
  generalize encT u = U at h6 h7
  simp [i2, j, k0, h6, h7, h16, sizeLine_eq]
end
end Mir
set_option Elab.async false
set_option linter.all false
set_option maxRecDepth 100000
set_option maxHeartbeats 4000000
namespace Mir
open PySem PySem.Spec L2
/-- a wood whose kinds and rows are told apart, each kind with a row without branches -/
structure WoodOk (w : Wood) : Prop where
  some : 1 ≤ w.length ∧ w.length ≤ 3
  kinds : (w.map (·.1)).Nodup
  kok : ∀ p ∈ w, PyData.strOk p.1 = true
  few : ∀ p ∈ w, p.2.length ≤ 3
  dist : ∀ p ∈ w, (p.2.map (·.nm)).Nodup
  rok : ∀ p ∈ w, ∀ r ∈ p.2, PyData.strOk r.nm = true ∧ r.br.length ≤ 3 ∧ ∀ z ∈ r.br, z ∈ w.map (·.1)
  leaf : ∀ p ∈ w, ∃ r ∈ p.2, r.br = []
def wideAt (num : Int) (r : Nat) : Nat := if r = 0 then 0 else if r = 1 then (1 + num % 2).toNat else (num % 4).toNat
def rowAt (N : Nat → Str) (n : Nat) (c : Int) (i r : Nat) : Rw := ⟨N ((mixI c (i : Nat) / 16 + (r : Nat)) % 8).toNat, (List.range (wideAt (mixI c ((8 + 4 * i + r : Nat) : Int)) r)).map fun j => N (mixI (mixI c ((8 + 4 * i + r : Nat) : Int)) (j : Nat) % (n : Int)).toNat⟩
def cntAt (c : Int) (i : Nat) : Nat := (2 + mixI c (i : Nat) % 2 - (if (decide (0 < i) && (mixI c (i : Nat) / 2 % 3 == 0)) = true then 1 else 0)).toNat
def rowsRaw (N : Nat → Str) (n : Nat) (c : Int) (i : Nat) : List Rw := (List.range (cntAt c i)).map (rowAt N n c i)
noncomputable def srtR (rs : List Rw) : List Rw := (sorted_rows rs).choose
theorem srtR_perm (rs : List Rw) : (srtR rs).Perm rs := (sorted_rows rs).choose_spec.1
theorem srtR_eq (rs : List Rw) : gSorted [.list (rs.map encRw)] = some (.l ((srtR rs).map fun r => .d (encRw r))) := (sorted_rows rs).choose_spec.2
noncomputable def woodOf (N : Nat → Str) (n : Nat) (c : Int) : Wood := (List.range n).map fun i => (N i, srtR (rowsRaw N n c i))
theorem mixI_pos (c j : Int) : 0 ≤ mixI c j := Int.emod_nonneg _ (by decide)
theorem cntAt_b (c : Int) (i : Nat) : 1 ≤ cntAt c i ∧ cntAt c i ≤ 3 := by
  unfold cntAt
  have := Int.emod_nonneg (mixI c (i : Nat)) (b := 2) (by decide)
  have := Int.emod_lt_of_pos (mixI c (i : Nat)) (b := 2) (by decide)
  split <;> omega
theorem wideAt_b (num : Int) (r : Nat) : wideAt num r ≤ 3 := by
  unfold wideAt
  have := Int.emod_nonneg num (b := 2) (by decide)
  have := Int.emod_lt_of_pos num (b := 2) (by decide)
  have := Int.emod_nonneg num (b := 4) (by decide)
  have := Int.emod_lt_of_pos num (b := 4) (by decide)
  split
  · omega
  · split <;> omega
theorem woodOf_ok {N : Nat → Str} {NS : PyData} (hN : NamesD NS N) {n : Nat} (hn : 1 ≤ n ∧ n ≤ 3) (c : Int) : WoodOk (woodOf N n c) where
  some := by unfold woodOf; rw [List.length_map, List.length_range]; exact hn
  kinds := by
    unfold woodOf
    rw [List.map_map, List.nodup_iff_pairwise_ne, List.pairwise_map]
    refine List.Pairwise.imp_of_mem ?_ List.pairwise_lt_range
    intro i j hi hj hlt
    rw [List.mem_range] at hi hj
    exact hN.ne i j (by omega) (by omega) (by omega)
  kok := fun p hp => by
    obtain ⟨i, hi, rfl⟩ := List.mem_map.mp hp
    rw [List.mem_range] at hi
    exact hN.ok i (by omega)
  few := fun p hp => by
    obtain ⟨i, hi, rfl⟩ := List.mem_map.mp hp
    have := (srtR_perm (rowsRaw N n c i)).length_eq
    have e : (rowsRaw N n c i).length = cntAt c i := by unfold rowsRaw; rw [List.length_map, List.length_range]
    have := cntAt_b c i
    show (srtR (rowsRaw N n c i)).length ≤ 3
    omega
  dist := fun p hp => by
    obtain ⟨i, hi, rfl⟩ := List.mem_map.mp hp
    rw [((srtR_perm (rowsRaw N n c i)).map (·.nm)).nodup_iff]
    unfold rowsRaw
    rw [List.map_map, List.nodup_iff_pairwise_ne, List.pairwise_map]
    refine List.Pairwise.imp_of_mem ?_ List.pairwise_lt_range
    intro r s hr hs hlt
    rw [List.mem_range] at hr hs
    have := cntAt_b c i
    show N ((mixI c (i : Nat) / 16 + (r : Nat)) % 8).toNat ≠ N ((mixI c (i : Nat) / 16 + (s : Nat)) % 8).toNat
    refine hN.ne _ _ ?_ ?_ ?_ <;> omega
  rok := fun p hp r hr => by
    obtain ⟨i, hi, rfl⟩ := List.mem_map.mp hp
    have hr' := (srtR_perm (rowsRaw N n c i)).mem_iff.mp hr
    obtain ⟨k, hk, rfl⟩ := List.mem_map.mp hr'
    refine ⟨hN.ok _ (by omega), ?_, fun z hz => ?_⟩
    · unfold rowAt
      rw [List.length_map, List.length_range]
      exact wideAt_b _ _
    · unfold rowAt at hz
      obtain ⟨j, _, rfl⟩ := List.mem_map.mp hz
      obtain ⟨x, hx, xl⟩ := emod_nat (c := mixI (mixI c ((8 + 4 * i + k : Nat) : Int)) (j : Nat)) (n := n) (by omega)
      rw [hx, Int.toNat_natCast]
      unfold woodOf
      rw [List.map_map, List.mem_map]
      exact ⟨x, List.mem_range.mpr xl, rfl⟩
  leaf := fun p hp => by
    obtain ⟨i, hi, rfl⟩ := List.mem_map.mp hp
    refine ⟨rowAt N n c i 0, (srtR_perm (rowsRaw N n c i)).mem_iff.mpr ?_, ?_⟩
    · unfold rowsRaw
      exact List.mem_map.mpr ⟨0, List.mem_range.mpr (by have := cntAt_b c i; omega), rfl⟩
    · unfold rowAt wideAt
      rfl
noncomputable section
def ksD (N : Nat → Str) (n : Nat) : PyData := .list ((List.range n).map fun i => .str (N i))
theorem ks_ix {N : Nat → Str} {n i : Nat} (h : i < n) : gIx (ksD N n) (.int (i : Nat)) = some (.str (N i)) := rng_ix _ h
theorem ks_len (N : Nat → Str) (n : Nat) : gLen [ksD N n] = some (.d (.int (n : Nat))) := by
  show some (Ow.d (.int ((List.range n).map _).length)) = _
  rw [List.length_map, List.length_range]
theorem ks_cut {ls : List (List Nat)} (h : Names8 ls) {n : Nat} (hn : n ≤ 8) : gSl (nsD ls) none (some (n : Int)) = some (.l (((List.range n).map fun i => PyData.str (lets (ls.getD i []))).map Ow.d)) := by
  unfold nsD
  rw [gSl_list, cutL_take]
  congr 2
  congr 1
  refine List.ext_getElem ?_ fun i h1 h2 => ?_
  · rw [List.length_take, List.length_map, List.length_map, List.length_range, h.eight]; omega
  · rw [List.length_take, List.length_map, h.eight] at h1
    have : i < ls.length := by rw [h.eight]; omega
    rw [List.getElem_take, List.getElem_map, List.getElem_map, List.getElem_range, List.getD_eq_getElem?_getD, List.getElem?_eq_getElem this]
    rfl
abbrev wdRow (f13 : List D → R Ow) : Ev → SR := (sSeq (sSet 8 (eM (eM (eB (aCons (eVar 0) (aCons (eM (eBinO gAdd (eB (eBinO gAdd (eC (.int 8)) (eBin gMul (eC (.int 4)) (eVar 4))) shD) (eVar 7)) viewD) aNil)) f13) viewD) Ow.d))
    (sSeq (sSet 9 (eM (eBin gIx (eB (eLst (aCons (eC (.int 0)) (aCons (eM (eBinO gAdd (eC (.int 1)) (eBin gMod (eVar 8) (eC (.int 2)))) viewD) (aCons (eBin gMod (eVar 8) (eC (.int 4))) aNil)))) shD) (eVar 7)) Ow.d))
    (sSeq (sSet 10 (eM (eM (eLc (eB (aCons (eVar 9) aNil) rg1) (gtName 11) cYes (eM (eBin gIx (eVar 2) (eBin gMod (eM (eB (aCons (eVar 8) (aCons (eVar 11) aNil)) f13) viewD) (eM (eCa gLen (aCons (eVar 2) aNil)) viewD))) Ow.d) (List.map (·.2) ([("_law_j", 11)] : List (Str × Nat)))) viewD) Ow.d))
    (sApp 6 (eM (eTup (aCons (eBin gIx (eVar 1) (eBin gMod (eM (eBinO gAdd (eBin gDiv (eVar 5) (eC (.int 16))) (eVar 7)) viewD) (eC (.int 8)))) (aCons (eM (eCa gTuple (aCons (eVar 10) aNil)) viewD) aNil))) Ow.d)))))
abbrev wdKind (f13 : List D → R Ow) : Ev → SR := (sSeq (sSet 5 (eM (eM (eB (aCons (eVar 0) (aCons (eVar 4) aNil)) f13) viewD) Ow.d))
    (sSeq (sSet 6 (eLst aNil))
    (sSeq (sFor (eB (aCons (eBin gSub (eM (eBinO gAdd (eC (.int 2)) (eBin gMod (eVar 5) (eC (.int 2)))) viewD) (eM (eCa gInt (aCons (eAnd (eBin gGt (eVar 4) (eC (.int 0))) (eBin gEq (eBin gMod (eBin gDiv (eVar 5) (eC (.int 2))) (eC (.int 3))) (eC (.int 0)))) aNil)) viewD)) aNil) rg1) (gtName 7)
    (wdRow f13))
    (sApp 3 (eM (eTup (aCons (eBin gIx (eVar 2) (eVar 4)) (aCons (eM (eCa gSorted (aCons (eB (eVarO 6) shD) aNil)) viewD) aNil))) Ow.d)))))
abbrev bWood8 (f13 : List D → R Ow) : Ev → SR := (sSeq (sSet 2 (eM (eM (eSl (eVar 1) oNone (eB (eM (eBinO gAdd (eC (.int 1)) (eBin gMod (eVar 0) (eC (.int 3)))) viewD) asI)) viewD) Ow.d))
    (sSeq (sSet 3 (eLst aNil))
    (sSeq (sFor (eB (aCons (eM (eCa gLen (aCons (eVar 2) aNil)) viewD) aNil) rg1) (gtName 4)
    (wdKind f13))
    (sRetV 3))))
section
variable {f13 : List D → R Ow} (h13 : ∀ (c : Int) (j : Nat), j ≤ 1000 → f13 [.int c, .int (j : Nat)] = .ok (.d (.int (mixI c (j : Nat))))) {N : Nat → Str} {NS : PyData} (hN : NamesD NS N) {n : Nat} (hn : 1 ≤ n ∧ n ≤ 3) (c : Int)
include h13 hN hn
theorem wdRow_ok (i r : Nat) (hi : i < 3) (hr : r < 3) (WO : Option Ow) (os : List Ow) (hl : os.length < 1000) (x8 x9 x10 : Option Ow) : ∃ y8 y9 y10, wdRow f13 [some (.d (.int c)), some (.d NS), some (.d (ksD N n)), WO, some (.d (.int (i : Nat))), some (.d (.int (mixI c (i : Nat)))), some (.l os), some (.d (.int (r : Nat))), x8, x9, x10, none] = .nx [some (.d (.int c)), some (.d NS), some (.d (ksD N n)), WO, some (.d (.int (i : Nat))), some (.d (.int (mixI c (i : Nat)))), some (.l (os ++ [.d (encRw (rowAt N n c i r))])), some (.d (.int (r : Nat))), y8, y9, y10, none] := by
  have m1 := h13 c (8 + 4 * i + r) (by omega)
  have e4 : gMul (.int 4) (.int (i : Nat)) = some (.int (4 * (i : Nat))) := gMul_small (by decide) (Nat.lt_trans (show ((i : Nat) : Int).natAbs < 100 by omega) (by decide))
  rw [show ((8 + 4 * i + r : Nat) : Int) = 8 + 4 * (i : Nat) + (r : Nat) from by omega] at m1
  unfold rowAt
  rw [show ((8 + 4 * i + r : Nat) : Int) = 8 + 4 * (i : Nat) + (r : Nat) from by omega]
  have F0 := mixI_pos c (i : Nat)
  generalize mixI c (8 + 4 * (i : Nat) + (r : Nat)) = num at m1
  generalize mixI c (i : Nat) = FI at F0
  have g2 : gMod (.int num) (.int 2) = some (.int (num % 2)) := gMod_int (by decide)
  have g4 : gMod (.int num) (.int 4) = some (.int (num % 4)) := gMod_int (by decide)
  have b20 := Int.emod_nonneg num (b := 2) (by decide)
  have b40 := Int.emod_nonneg num (b := 4) (by decide)
  have wd : gIx (.list [.int 0, .int (1 + num % 2), .int (num % 4)]) (.int (r : Nat)) = some (.int (wideAt num r : Nat)) := by
    unfold wideAt
    match r, hr with
    | 0, _ => rfl
    | 1, _ =>
      show some (PyData.int (1 + num % 2)) = _
      simp only [if_neg (show ¬ (1 : Nat) = 0 by decide), if_pos]
      rw [show (((1 + num % 2).toNat : Nat) : Int) = 1 + num % 2 from by omega]
    | 2, _ =>
      show some (PyData.int (num % 4)) = _
      simp only [if_neg (show ¬ (2 : Nat) = 0 by decide), if_neg (show ¬ (2 : Nat) = 1 by decide)]
      rw [show (((num % 4).toNat : Nat) : Int) = num % 4 from by omega]
  have wb := wideAt_b num r
  generalize wideAt num r = wide at wd wb
  have kl := ks_len N n
  have lc : eLc (eB (aCons (eVar 9) aNil) rg1) (gtName 11) cYes (eM (eBin gIx (eVar 2) (eBin gMod (eM (eB (aCons (eVar 8) (aCons (eVar 11) aNil)) f13) viewD) (eM (eCa gLen (aCons (eVar 2) aNil)) viewD))) Ow.d) (List.map (·.2) ([("_law_j", 11)] : List (Str × Nat))) [some (.d (.int c)), some (.d NS), some (.d (ksD N n)), WO, some (.d (.int (i : Nat))), some (.d (.int FI)), some (.l os), some (.d (.int (r : Nat))), some (.d (.int num)), some (.d (.int (wide : Nat))), x10, none] = .ok (.l ((List.range wide).map fun j => .d (.str (N (mixI num (j : Nat) % (n : Int)).toNat)))) := by
    refine eLc_of (ds := (List.range wide).map fun k : Nat => PyData.int (k : Nat)) (by
      have rg := rg1_nat wide (by omega)
      rw [rangeD_map] at rg
      generalize ksD N n = KS
      simp [rg]) (by rw [List.length_map, List.length_range, sizeLine_eq]; omega) (lcR_map _ _ (List.range wide) fun j hj => ?_)
    rw [List.mem_range] at hj
    have mj := h13 num j (by omega)
    obtain ⟨x, hx, xl⟩ := emod_nat (c := mixI num (j : Nat)) (n := n) (by omega)
    have gm : gMod (.int (mixI num (j : Nat))) (.int (n : Nat)) = some (.int (x : Nat)) := by rw [gMod_int (by omega), hx]
    have ix := ks_ix (N := N) xl
    refine ⟨[some (.d (.int c)), some (.d NS), some (.d (ksD N n)), WO, some (.d (.int (i : Nat))), some (.d (.int FI)), some (.l os), some (.d (.int (r : Nat))), some (.d (.int num)), some (.d (.int (wide : Nat))), x10, some (.d (.int (j : Nat)))], by
      generalize ksD N n = KS
      simp [wipeE], rfl, ?_⟩
    rw [hx, Int.toNat_natCast]
    generalize mixI num (j : Nat) = MJ at mj gm
    generalize ksD N n = KS at ix kl
    simp [mj, kl, gm, ix]
  have vc : viewD (.l ((List.range wide).map fun j => .d (.str (N (mixI num (j : Nat) % (n : Int)).toNat)))) = .list ((List.range wide).map fun j => .str (N (mixI num (j : Nat) % (n : Int)).toNat)) := viewD_of _ _
  refine ⟨some (.d (.int num)), some (.d (.int (wide : Nat))), some (.d (.list ((List.range wide).map fun j => .str (N (mixI num (j : Nat) % (n : Int)).toNat)))), ?_⟩
  refine seq_nx (env1 := [some (.d (.int c)), some (.d NS), some (.d (ksD N n)), WO, some (.d (.int (i : Nat))), some (.d (.int FI)), some (.l os), some (.d (.int (r : Nat))), some (.d (.int num)), x9, x10, none]) (by
    generalize ksD N n = KS
    simp [e4, m1]) ?_
  refine seq_nx (env1 := [some (.d (.int c)), some (.d NS), some (.d (ksD N n)), WO, some (.d (.int (i : Nat))), some (.d (.int FI)), some (.l os), some (.d (.int (r : Nat))), some (.d (.int num)), some (.d (.int (wide : Nat))), x10, none]) (by
    have s3 := shl3 (.int 0) (.int (1 + num % 2)) (.int (num % 4))
    generalize ksD N n = KS
    generalize num % 2 = X2 at g2 wd s3
    generalize num % 4 = X4 at g4 wd s3
    generalize PyData.list [.int 0, .int (1 + X2), .int X4] = LL at wd s3
    simp [g2, g4, s3, wd, sizeLine_eq]) ?_
  refine seq_nx (env1 := [some (.d (.int c)), some (.d NS), some (.d (ksD N n)), WO, some (.d (.int (i : Nat))), some (.d (.int FI)), some (.l os), some (.d (.int (r : Nat))), some (.d (.int num)), some (.d (.int (wide : Nat))), some (.d (.list ((List.range wide).map fun j => .str (N (mixI num (j : Nat) % (n : Int)).toNat)))), none]) (by
    rw [sSet_eq, eM_eq, eM_eq]
    refine (congrArg (fun r => R.st _ (R.map Ow.d (R.map viewD r)) _) lc).trans ?_
    rw [R.map_ok, R.map_ok, vc, R.st_ok]
    rfl) ?_
  have d16 : gDiv (.int FI) (.int 16) = some (.int (FI / 16)) := gDiv_small (by decide) (by decide)
  obtain ⟨q, hq, ql⟩ := emod_nat (c := FI / 16 + (r : Nat)) (n := 8) (by decide)
  have m8 : gMod (.int (FI / 16 + (r : Nat))) (.int 8) = some (.int (q : Nat)) := by rw [gMod_int (by decide)]; exact congrArg (fun z => some (PyData.int z)) hq
  have nq := hN.ix q ql
  have gt : gTuple [.list ((List.range wide).map fun j => .str (N (mixI num (j : Nat) % (n : Int)).toNat))] = some (.d (.tuple ((List.range wide).map fun j => .str (N (mixI num (j : Nat) % (n : Int)).toNat)))) := rfl
  have er : encRw ⟨N ((FI / 16 + (r : Nat)) % 8).toNat, (List.range wide).map fun j => N (mixI num (j : Nat) % (n : Int)).toNat⟩ = .tuple [.str (N q), .tuple ((List.range wide).map fun j => .str (N (mixI num (j : Nat) % (n : Int)).toNat))] := by
    have : ((FI / 16 + (r : Nat)) % 8).toNat = q := by rw [show (FI / 16 + (r : Nat)) % 8 = (q : Int) from hq, Int.toNat_natCast]
    unfold encRw
    rw [this, List.map_map]
    rfl
  rw [er]
  have hl2 : os.length < 16777216 := by omega
  generalize PyData.tuple ((List.range wide).map fun j => .str (N (mixI num (j : Nat) % (n : Int)).toNat)) = TB at gt
  generalize PyData.list ((List.range wide).map fun j => .str (N (mixI num (j : Nat) % (n : Int)).toNat)) = LB at gt
  generalize ksD N n = KS
  generalize FI / 16 = FD at d16 m8
  simp [d16, m8, nq, gt, sizeLine_eq, hl2]
theorem wdKind_ok (i : Nat) (hi : i < n) (w : List Ow) (hw : w.length < 1000) (x5 x6 x7 x8 x9 x10 : Option Ow) : ∃ y7 y8 y9 y10, wdKind f13 [some (.d (.int c)), some (.d NS), some (.d (ksD N n)), some (.l w), some (.d (.int (i : Nat))), x5, x6, x7, x8, x9, x10, none] = .nx [some (.d (.int c)), some (.d NS), some (.d (ksD N n)), some (.l (w ++ [.d (encKd (N i, srtR (rowsRaw N n c i)))])), some (.d (.int (i : Nat))), some (.d (.int (mixI c (i : Nat)))), some (.l ((rowsRaw N n c i).map fun r => .d (encRw r))), y7, y8, y9, y10, none] := by
  have mi := h13 c i (by omega)
  have cb := cntAt_b c i
  have F0 := mixI_pos c (i : Nat)
  have rl : (rowsRaw N n c i).length = cntAt c i := by unfold rowsRaw; rw [List.length_map, List.length_range]
  obtain ⟨env', e1, x7', y8, y9, y10, e2⟩ := forL_map (g := gtName 7) (f := wdRow f13) (fun k : Nat => PyData.int (k : Nat)) (List.range (cntAt c i))
    (fun j env => ∃ x7 x8 x9 x10, env = [some (.d (.int c)), some (.d NS), some (.d (ksD N n)), some (.l w), some (.d (.int (i : Nat))), some (.d (.int (mixI c (i : Nat)))), some (.l (((rowsRaw N n c i).take j).map fun r => .d (encRw r))), x7, x8, x9, x10, none]) (fun j r env hj ⟨x7, x8, x9, x10, e⟩ => by
      subst e
      obtain ⟨h1, h2⟩ := List.getElem?_eq_some_iff.mp hj
      rw [List.length_range] at h1
      rw [List.getElem_range] at h2
      subst h2
      obtain ⟨y8, y9, y10, q⟩ := wdRow_ok h13 hN hn c i j (by omega) (by omega) (some (.l w)) (((rowsRaw N n c i).take j).map fun r => .d (encRw r)) (by rw [List.length_map, List.length_take]; omega) x8 x9 x10
      refine ⟨_, rfl, _, .inl q, some (.d (.int (j : Nat))), y8, y9, y10, ?_⟩
      have tk : ((rowsRaw N n c i).take (j + 1)).map (fun r => Ow.d (encRw r)) = (((rowsRaw N n c i).take j).map fun r => .d (encRw r)) ++ [.d (encRw (rowAt N n c i j))] := by
        have : (rowsRaw N n c i)[j]? = some (rowAt N n c i j) := by unfold rowsRaw; rw [List.getElem?_map, List.getElem?_range h1]; rfl
        rw [List.take_add_one, this, List.map_append]
        rfl
      rw [tk]) [some (.d (.int c)), some (.d NS), some (.d (ksD N n)), some (.l w), some (.d (.int (i : Nat))), some (.d (.int (mixI c (i : Nat)))), some (.l []), x7, x8, x9, x10, none] ⟨x7, x8, x9, x10, rfl⟩
  subst e2
  rw [List.length_range, List.take_of_length_le (by omega)] at e1
  refine ⟨x7', y8, y9, y10, ?_⟩
  refine seq_nx (env1 := [some (.d (.int c)), some (.d NS), some (.d (ksD N n)), some (.l w), some (.d (.int (i : Nat))), some (.d (.int (mixI c (i : Nat)))), x6, x7, x8, x9, x10, none]) (by
    generalize ksD N n = KS
    generalize mixI c (i : Nat) = FI at mi
    simp [mi]) ?_
  refine seq_nx (env1 := [some (.d (.int c)), some (.d NS), some (.d (ksD N n)), some (.l w), some (.d (.int (i : Nat))), some (.d (.int (mixI c (i : Nat)))), some (.l []), x7, x8, x9, x10, none]) (by
    generalize ksD N n = KS
    simp [sizeLine_eq]) ?_
  refine seq_nx (env1 := [some (.d (.int c)), some (.d NS), some (.d (ksD N n)), some (.l w), some (.d (.int (i : Nat))), some (.d (.int (mixI c (i : Nat)))), some (.l ((rowsRaw N n c i).map fun r => .d (encRw r))), x7', y8, y9, y10, none]) (by
    have it : (eB (aCons (eBin gSub (eM (eBinO gAdd (eC (.int 2)) (eBin gMod (eVar 5) (eC (.int 2)))) viewD) (eM (eCa gInt (aCons (eAnd (eBin gGt (eVar 4) (eC (.int 0))) (eBin gEq (eBin gMod (eBin gDiv (eVar 5) (eC (.int 2))) (eC (.int 3))) (eC (.int 0)))) aNil)) viewD)) aNil) rg1) [some (.d (.int c)), some (.d NS), some (.d (ksD N n)), some (.l w), some (.d (.int (i : Nat))), some (.d (.int (mixI c (i : Nat)))), some (.l []), x7, x8, x9, x10, none] = .ok ((List.range (cntAt c i)).map fun k : Nat => PyData.int (k : Nat)) := by
      have rg := rg1_nat (cntAt c i) (by omega)
      rw [rangeD_map] at rg
      have ce : ((cntAt c i : Nat) : Int) = 2 + mixI c (i : Nat) % 2 - (if (decide (0 < i) && (mixI c (i : Nat) / 2 % 3 == 0)) = true then 1 else 0) := by
        unfold cntAt
        have := Int.emod_nonneg (mixI c (i : Nat)) (b := 2) (by decide)
        split <;> omega
      rw [ce] at rg
      have g2 : gMod (.int (mixI c (i : Nat))) (.int 2) = some (.int (mixI c (i : Nat) % 2)) := gMod_int (by decide)
      have d2 : gDiv (.int (mixI c (i : Nat))) (.int 2) = some (.int (mixI c (i : Nat) / 2)) := gDiv_small (by decide) (by decide)
      have g3 : gMod (.int (mixI c (i : Nat) / 2)) (.int 3) = some (.int (mixI c (i : Nat) / 2 % 3)) := gMod_int (by decide)
      have gg : gGt (.int (i : Nat)) (.int 0) = some (.bool (decide (0 < i))) := by
        show some (PyData.bool (decide ((0 : Int) < (i : Nat)))) = _
        congr 2
        simp
      generalize mixI c (i : Nat) / 2 % 3 = Z3 at g3 rg
      generalize mixI c (i : Nat) / 2 = Z2 at d2 g3
      generalize mixI c (i : Nat) % 2 = Y2 at g2 rg
      generalize decide (0 < i) = B at gg rg
      generalize ksD N n = KS
      generalize mixI c (i : Nat) = FI at g2 d2
      have gs : ∀ a b : Int, gSub (.int a) (.int b) = some (.int (a - b)) := fun a b => rfl
      cases B with
      | false =>
        simp only [Bool.false_and, Bool.false_eq_true, if_false, Int.sub_zero] at rg
        simp [g2, gg, gs]
        exact rg
      | true =>
        simp only [Bool.true_and, beq_iff_eq] at rg
        simp [g2, gg, d2, g3, gs]
        exact rg
    rw [sFor_eq, it, R.st_ok, e1]) ?_
  have ki := ks_ix (N := N) hi
  have sh : shD (.l ((rowsRaw N n c i).map fun r => .d (encRw r))) = .ok (.list ((rowsRaw N n c i).map encRw)) := unDs_of encRw _
  have sr := srtR_eq (rowsRaw N n c i)
  have sv : viewD (.l ((srtR (rowsRaw N n c i)).map fun r => .d (encRw r))) = rwsD (srtR (rowsRaw N n c i)) := viewD_of encRw _
  have ek : encKd (N i, srtR (rowsRaw N n c i)) = .tuple [.str (N i), rwsD (srtR (rowsRaw N n c i))] := rfl
  rw [ek]
  have hw2 : w.length < 16777216 := by omega
  generalize rwsD (srtR (rowsRaw N n c i)) = RW at sv
  generalize Ow.l ((srtR (rowsRaw N n c i)).map fun r => .d (encRw r)) = RO at sr sv
  generalize PyData.list ((rowsRaw N n c i).map encRw) = RL at sh sr
  generalize Ow.l ((rowsRaw N n c i).map fun r => .d (encRw r)) = RR at sh
  generalize ksD N n = KS at ki
  simp [ki, sh, sr, sv, sizeLine_eq, hw2]
end
theorem wood8_fin {f13 : List D → R Ow} (h13 : ∀ (c : Int) (j : Nat), j ≤ 1000 → f13 [.int c, .int (j : Nat)] = .ok (.d (.int (mixI c (j : Nat))))) {ls : List (List Nat)} (h8 : Names8 ls) {N : Nat → Str} (hNe : N = fun i => lets (ls.getD i [])) (c : Int) : ∃ n, (1 ≤ n ∧ n ≤ 3) ∧ finR (bWood8 f13 (envOf 10 [.int c, nsD ls])) = .ok (.l ((woodOf N n c).map fun p => .d (encKd p))) := by
  have hN : NamesD (nsD ls) N := by rw [hNe]; exact names_at h8
  obtain ⟨m, hm, ml⟩ := emod_nat (c := c) (n := 3) (by decide)
  change c % 3 = _ at hm
  refine ⟨1 + m, by omega, ?_⟩
  have hn : 1 ≤ 1 + m ∧ 1 + m ≤ 3 := by omega
  have g3 : gMod (.int c) (.int 3) = some (.int (m : Nat)) := by rw [gMod_int (by decide), hm]
  have cut := ks_cut h8 (n := 1 + m) (by omega)
  rw [show ((1 + m : Nat) : Int) = 1 + (m : Nat) from by omega] at cut
  have vk : viewD (.l (((List.range (1 + m)).map fun i => PyData.str (lets (ls.getD i []))).map Ow.d)) = ksD N (1 + m) := by rw [hNe]; exact vw_ls _
  generalize Ow.l (((List.range (1 + m)).map fun i => PyData.str (lets (ls.getD i []))).map Ow.d) = KO at cut vk
  generalize nsD ls = NS at cut hN
  have he : envOf 10 [.int c, NS] = [some (.d (.int c)), some (.d NS), none, none, none, none, none, none, none, none, none, none] := rfl
  rw [he]
  refine fin_step (env1 := [some (.d (.int c)), some (.d NS), some (.d (ksD N (1 + m))), none, none, none, none, none, none, none, none, none]) (by
    generalize ksD N (1 + m) = KS at vk
    simp [g3, cut, vk]) ?_
  refine fin_step (env1 := [some (.d (.int c)), some (.d NS), some (.d (ksD N (1 + m))), some (.l []), none, none, none, none, none, none, none, none]) (by
    generalize ksD N (1 + m) = KS
    simp [sizeLine_eq]) ?_
  have wl : (woodOf N (1 + m) c).length = 1 + m := by unfold woodOf; rw [List.length_map, List.length_range]
  obtain ⟨env', e1, x4, x5, x6, x7, x8, x9, x10, e2⟩ := forL_map (g := gtName 4) (f := wdKind f13) (fun k : Nat => PyData.int (k : Nat)) (List.range (1 + m))
    (fun j env => ∃ x4 x5 x6 x7 x8 x9 x10, env = [some (.d (.int c)), some (.d NS), some (.d (ksD N (1 + m))), some (.l (((woodOf N (1 + m) c).take j).map fun p => .d (encKd p))), x4, x5, x6, x7, x8, x9, x10, none]) (fun j r env hj ⟨x4, x5, x6, x7, x8, x9, x10, e⟩ => by
      subst e
      obtain ⟨h1, h2⟩ := List.getElem?_eq_some_iff.mp hj
      rw [List.length_range] at h1
      rw [List.getElem_range] at h2
      subst h2
      obtain ⟨y7, y8, y9, y10, q⟩ := wdKind_ok h13 hN hn c j h1 (((woodOf N (1 + m) c).take j).map fun p => .d (encKd p)) (by rw [List.length_map, List.length_take]; omega) x5 x6 x7 x8 x9 x10
      refine ⟨_, rfl, _, .inl q, some (.d (.int (j : Nat))), some (.d (.int (mixI c (j : Nat)))), some (.l ((rowsRaw N (1 + m) c j).map fun r => .d (encRw r))), y7, y8, y9, y10, ?_⟩
      have tk : ((woodOf N (1 + m) c).take (j + 1)).map (fun p => Ow.d (encKd p)) = (((woodOf N (1 + m) c).take j).map fun p => .d (encKd p)) ++ [.d (encKd (N j, srtR (rowsRaw N (1 + m) c j)))] := by
        have : (woodOf N (1 + m) c)[j]? = some (N j, srtR (rowsRaw N (1 + m) c j)) := by unfold woodOf; rw [List.getElem?_map, List.getElem?_range h1]; rfl
        rw [List.take_add_one, this, List.map_append]
        rfl
      rw [tk]) [some (.d (.int c)), some (.d NS), some (.d (ksD N (1 + m))), some (.l []), none, none, none, none, none, none, none, none] ⟨none, none, none, none, none, none, none, rfl⟩
  subst e2
  rw [List.length_range, List.take_of_length_le (by omega)] at e1
  refine fin_step (env1 := [some (.d (.int c)), some (.d NS), some (.d (ksD N (1 + m))), some (.l ((woodOf N (1 + m) c).map fun p => .d (encKd p))), x4, x5, x6, x7, x8, x9, x10, none]) (by
    have kl := ks_len N (1 + m)
    have it : (eB (aCons (eM (eCa gLen (aCons (eVar 2) aNil)) viewD) aNil) rg1) [some (.d (.int c)), some (.d NS), some (.d (ksD N (1 + m))), some (.l []), none, none, none, none, none, none, none, none] = .ok ((List.range (1 + m)).map fun k : Nat => PyData.int (k : Nat)) := by
      have rg := rg1_nat (1 + m) (by omega)
      rw [rangeD_map] at rg
      generalize ksD N (1 + m) = KS at kl
      simp only [eB_eq, aCons_eq, eM_eq, eCa_eq, eVar_2, aNil_eq, R.bind_ok, R.map_ok, kl, R.of_some, viewD_d]
      exact rg
    rw [sFor_eq, it, R.st_ok, e1]) ?_
  rfl
end
end Mir
set_option Elab.async false
set_option linter.all false
set_option maxRecDepth 100000
set_option maxHeartbeats 4000000
namespace Mir
open PySem PySem.Spec L2
theorem choose_below {α : Type} [Inhabited α] {P : Nat → α → Prop} {n : Nat} (h : ∀ j, j < n → ∃ T, P j T) : ∃ g : Nat → α, ∀ j, j < n → P j (g j) := by
  classical
  exact ⟨fun j => if c : j < n then (h j c).choose else default, fun j c => by show P j (if c : j < n then (h j c).choose else default); rw [dif_pos c]; exact (h j c).choose_spec⟩
instance : Inhabited Trm := ⟨noTm⟩
structure DrawnM (cs : List (Int × Int)) (d : Nat) (T : Trm) : Prop where
  ok : okM T
  lev : levM T ≤ d + 1
  size : sizeM T + 1 ≤ 2 ^ (d + 1)
  calls : ∀ c ∈ callsM T, c ∈ cs
def csD (cs : List (Int × Int)) : PyData := .list (cs.map encC)
theorem nice_csD (cs : List (Int × Int)) : Nice (csD cs) := nice_list (n := 1) (fun d hd => by
  obtain ⟨c, _, rfl⟩ := List.mem_map.mp hd
  unfold encC
  exact ⟨rfl, by simp [PyData.depth, PyData.depthAll]⟩) (by omega)
noncomputable section
abbrev bTerm6 (f13 f15 f17 : List D → R Ow) : Ev → SR := (sSeq (sSet 6 (eM (eM (eB (aCons (eVar 0) (aCons (eVar 1) aNil)) f13) viewD) Ow.d))
    (sSeq (sIf (tAndE (eB (eBin gNe (eVar 3) (eM (eLst aNil) viewD)) asB) (eB (eBin gLt (eBin gMod (eVar 6) (eC (.int 5))) (eC (.int 2))) asB))
    (sRet (eBinO gAdd (eTup (aCons (eC (.str "call")) aNil)) (eBin gIx (eVar 3) (eBin gMod (eBin gDiv (eVar 6) (eC (.int 5))) (eM (eCa gLen (aCons (eVar 3) aNil)) viewD)))))
    sSkip)
    (sSeq (sSet 7 (eM (eC (.int 0)) Ow.d))
    (sSeq (sIf (eB (eBin gGt (eVar 2) (eC (.int 0))) asB)
    (sSet 7 (eM (eM (eBinO gAdd (eBin gSub (eVar 2) (eC (.int 1))) (eBin gMod (eBin gDiv (eVar 6) (eC (.int 8))) (eBin gSub (eC (.int 4)) (eVar 2)))) viewD) Ow.d))
    sSkip)
    (sSeq (sSet 8 (eM (eM (eLc (eB (aCons (eVar 7) aNil) rg1) (gtName 9) cYes (eB (aCons (eVar 0) (aCons (eM (eBinO gAdd (eB (eBinO gAdd (eBin gMul (eC (.int 3)) (eVar 1)) (eVar 9)) shD) (eC (.int 1))) viewD) (aCons (eBin gSub (eVar 2) (eC (.int 1))) (aCons (eVar 3) (aCons (eVar 4) (aCons (eVar 5) aNil)))))) f17) (List.map (·.2) ([("_law_j", 9)] : List (Str × Nat)))) viewD) Ow.d))
    (sSeq (sSet 10 (eM (eAnd (eVar 5) (eBin gEq (eBin gMod (eBin gDiv (eVar 6) (eC (.int 32))) (eC (.int 2))) (eC (.int 1)))) Ow.d))
    (sSeq (sSet 11 (eM (eBin gIx (eB (eLst (aCons (eC (.int 0)) (aCons (eBin gSub (eBin gMod (eBin gDiv (eVar 6) (eC (.int 512))) (eC (.int 19))) (eC (.int 9))) (aCons (eM (eB (aCons (eVar 0) aNil) f15) viewD) aNil)))) shD) (eBin gMod (eBin gDiv (eVar 6) (eC (.int 64))) (eC (.int 3)))) Ow.d))
    (sRet (eM (eTup (aCons (eC (.str "put")) (aCons (eBin gIx (eVar 4) (eBin gMod (eBin gDiv (eVar 6) (eC (.int 16384))) (eC (.int 8)))) (aCons (eVar 10) (aCons (eVar 11) (aCons (eM (eCa gTuple (aCons (eVar 8) aNil)) viewD) aNil)))))) Ow.d)))))))))
theorem pick3 (a b c : Int) (z : Int) : ∃ x : Int, gIx (.list [.int a, .int b, .int c]) (.int (z % 3)) = some (.int x) := by
  obtain ⟨k, hk, kl⟩ := emod_nat (c := z) (n := 3) (by decide)
  change z % 3 = _ at hk
  rw [hk]
  match k, kl with
  | 0, _ => exact ⟨a, rfl⟩
  | 1, _ => exact ⟨b, rfl⟩
  | 2, _ => exact ⟨c, rfl⟩
theorem term6_fin {f13 f15 f17 : List D → R Ow} (h13 : ∀ (c : Int) (j : Nat), j ≤ 1000 → f13 [.int c, .int (j : Nat)] = .ok (.d (.int (mixI c (j : Nat))))) (h15 : ∀ z : Int, f15 [.int z] = .ok (.d (.int (greatI z)))) {N : Nat → Str} {NS : PyData} (hN : NamesD NS N) (c : Int) (k d : Nat) (hk : k ≤ 100) (hd : d ≤ 2) (cs : List (Int × Int)) (kp : Bool)
    (h17 : 0 < d → ∀ j, j < 2 → ∃ T, DrawnM cs (d - 1) T ∧ f17 [.int c, .int ((3 * k + j + 1 : Nat) : Int), .int ((d - 1 : Nat) : Int), csD cs, NS, .bool kp] = .ok (.d (encM T))) :
    ∃ T, DrawnM cs d T ∧ finR (bTerm6 f13 f15 f17 (envOf 6 [.int c, .int (k : Nat), .int (d : Nat), csD cs, NS, .bool kp])) = .ok (.d (encM T)) := by
  have he : envOf 6 [.int c, .int (k : Nat), .int (d : Nat), csD cs, NS, .bool kp] = [some (.d (.int c)), some (.d (.int (k : Nat))), some (.d (.int (d : Nat))), some (.d (csD cs)), some (.d NS), some (.d (.bool kp)), none, none, none, none, none, none] := rfl
  rw [he]
  have m := h13 c k (by omega)
  have z0 := mixI_pos c (k : Nat)
  generalize mixI c (k : Nat) = z at m z0
  have nn : gNe (csD cs) (.list []) = some (.bool (!cs.isEmpty)) := by
    have := ne_nil (nice_csD cs)
    rwa [List.isEmpty_map] at this
  have vn : viewD (.l []) = .list [] := by simp
  have g5 : gMod (.int z) (.int 5) = some (.int (z % 5)) := gMod_int (by decide)
  have d5 : gDiv (.int z) (.int 5) = some (.int (z / 5)) := gDiv_small (by decide) (by decide)
  have gl : ∀ a : Int, gLt (.int a) (.int 2) = some (.bool (decide (a < 2))) := fun a => rfl
  have st1 : ∀ r : R Ow, finR ((sSeq (sIf (tAndE (eB (eBin gNe (eVar 3) (eM (eLst aNil) viewD)) asB) (eB (eBin gLt (eBin gMod (eVar 6) (eC (.int 5))) (eC (.int 2))) asB))
    (sRet (eBinO gAdd (eTup (aCons (eC (.str "call")) aNil)) (eBin gIx (eVar 3) (eBin gMod (eBin gDiv (eVar 6) (eC (.int 5))) (eM (eCa gLen (aCons (eVar 3) aNil)) viewD)))))
    sSkip)
    (sSeq (sSet 7 (eM (eC (.int 0)) Ow.d))
    (sSeq (sIf (eB (eBin gGt (eVar 2) (eC (.int 0))) asB)
    (sSet 7 (eM (eM (eBinO gAdd (eBin gSub (eVar 2) (eC (.int 1))) (eBin gMod (eBin gDiv (eVar 6) (eC (.int 8))) (eBin gSub (eC (.int 4)) (eVar 2)))) viewD) Ow.d))
    sSkip)
    (sSeq (sSet 8 (eM (eM (eLc (eB (aCons (eVar 7) aNil) rg1) (gtName 9) cYes (eB (aCons (eVar 0) (aCons (eM (eBinO gAdd (eB (eBinO gAdd (eBin gMul (eC (.int 3)) (eVar 1)) (eVar 9)) shD) (eC (.int 1))) viewD) (aCons (eBin gSub (eVar 2) (eC (.int 1))) (aCons (eVar 3) (aCons (eVar 4) (aCons (eVar 5) aNil)))))) f17) (List.map (·.2) ([("_law_j", 9)] : List (Str × Nat)))) viewD) Ow.d))
    (sSeq (sSet 10 (eM (eAnd (eVar 5) (eBin gEq (eBin gMod (eBin gDiv (eVar 6) (eC (.int 32))) (eC (.int 2))) (eC (.int 1)))) Ow.d))
    (sSeq (sSet 11 (eM (eBin gIx (eB (eLst (aCons (eC (.int 0)) (aCons (eBin gSub (eBin gMod (eBin gDiv (eVar 6) (eC (.int 512))) (eC (.int 19))) (eC (.int 9))) (aCons (eM (eB (aCons (eVar 0) aNil) f15) viewD) aNil)))) shD) (eBin gMod (eBin gDiv (eVar 6) (eC (.int 64))) (eC (.int 3)))) Ow.d))
    (sRet (eM (eTup (aCons (eC (.str "put")) (aCons (eBin gIx (eVar 4) (eBin gMod (eBin gDiv (eVar 6) (eC (.int 16384))) (eC (.int 8)))) (aCons (eVar 10) (aCons (eVar 11) (aCons (eM (eCa gTuple (aCons (eVar 8) aNil)) viewD) aNil)))))) Ow.d)))))))) [some (.d (.int c)), some (.d (.int (k : Nat))), some (.d (.int (d : Nat))), some (.d (csD cs)), some (.d NS), some (.d (.bool kp)), some (.d (.int z)), none, none, none, none, none]) = r → finR (bTerm6 f13 f15 f17 [some (.d (.int c)), some (.d (.int (k : Nat))), some (.d (.int (d : Nat))), some (.d (csD cs)), some (.d NS), some (.d (.bool kp)), none, none, none, none, none, none]) = r := fun r hr => by
    refine fin_step (env1 := [some (.d (.int c)), some (.d (.int (k : Nat))), some (.d (.int (d : Nat))), some (.d (csD cs)), some (.d NS), some (.d (.bool kp)), some (.d (.int z)), none, none, none, none, none]) (by
      generalize csD cs = CS
      simp [m]) hr
  have ct : (tAndE (eB (eBin gNe (eVar 3) (eM (eLst aNil) viewD)) asB) (eB (eBin gLt (eBin gMod (eVar 6) (eC (.int 5))) (eC (.int 2))) asB)) [some (.d (.int c)), some (.d (.int (k : Nat))), some (.d (.int (d : Nat))), some (.d (csD cs)), some (.d NS), some (.d (.bool kp)), some (.d (.int z)), none, none, none, none, none] = .ok (!cs.isEmpty && decide (z % 5 < 2)) := by
    generalize csD cs = CS at nn
    generalize cs.isEmpty = E at nn
    have gl5 := gl (z % 5)
    generalize decide (z % 5 < 2) = B at gl5
    generalize z % 5 = Z5 at g5 gl5
    cases E <;> simp [vn, nn, g5, gl5, sizeLine_eq]
  by_cases cc : (!cs.isEmpty && decide (z % 5 < 2)) = true
  · -- a call
    have ne : cs ≠ [] := fun e => by rw [e] at cc; simp at cc
    have l1 : 0 < cs.length := List.length_pos_iff.mpr ne
    obtain ⟨i, hi, il⟩ := emod_nat (c := z / 5) (n := cs.length) l1
    have e := List.getElem?_eq_getElem il
    obtain ⟨a, b, hab⟩ : ∃ a b, cs[i] = (a, b) := ⟨_, _, rfl⟩
    refine ⟨.call a b, ⟨call_okM _ _, by rw [levM]; omega, by rw [sizeM]; have := Nat.one_le_two_pow (n := d); rw [Nat.pow_succ]; omega, fun c hc => by rw [callsM, List.mem_singleton] at hc; rw [hc, ← hab]; exact List.getElem_mem il⟩, st1 _ ?_⟩
    rw [sSeq_eq, sIf_eq, ct, cc, R.st_ok, if_pos rfl]
    have cl : gLen [csD cs] = some (.d (.int (cs.length : Nat))) := by show some (Ow.d (.int (cs.map encC).length)) = _; rw [List.length_map]
    have gm : gMod (.int (z / 5)) (.int (cs.length : Nat)) = some (.int (i : Nat)) := by rw [gMod_int (by omega), hi]
    have ix : gIx (csD cs) (.int (i : Nat)) = some (.tuple [.int a, .int b]) := by
      show atI (cs.map encC) _ = _
      exact atI_natD (by rw [List.getElem?_map, e, hab]; rfl)
    have ga : gAdd (.tuple [.str "call"]) (.tuple [.int a, .int b]) = some (.d (encM (.call a b))) := by rw [gAdd_tup (by rw [sizeLine_eq]; simp), encM_call]; rfl
    generalize encM (.call a b) = EC at ga
    generalize csD cs = CS at cl ix
    generalize z / 5 = Z5 at d5 gm
    generalize PyData.tuple [.int a, .int b] = AB at ix ga
    simp [d5, cl, gm, ix, ga, sizeLine_eq]
  · -- a put
    have d8 : gDiv (.int z) (.int 8) = some (.int (z / 8)) := gDiv_small (by decide) (by decide)
    obtain ⟨wide, wb, wf⟩ : ∃ wide : Nat, (wide ≤ 2 ∧ (0 < wide → 0 < d)) ∧ (sSeq (sSet 7 (eM (eC (.int 0)) Ow.d)) (sIf (eB (eBin gGt (eVar 2) (eC (.int 0))) asB)
      (sSet 7 (eM (eM (eBinO gAdd (eBin gSub (eVar 2) (eC (.int 1))) (eBin gMod (eBin gDiv (eVar 6) (eC (.int 8))) (eBin gSub (eC (.int 4)) (eVar 2)))) viewD) Ow.d))
      sSkip)) [some (.d (.int c)), some (.d (.int (k : Nat))), some (.d (.int (d : Nat))), some (.d (csD cs)), some (.d NS), some (.d (.bool kp)), some (.d (.int z)), none, none, none, none, none] = .nx [some (.d (.int c)), some (.d (.int (k : Nat))), some (.d (.int (d : Nat))), some (.d (csD cs)), some (.d NS), some (.d (.bool kp)), some (.d (.int z)), some (.d (.int (wide : Nat))), none, none, none, none] := by
      generalize csD cs = CS
      by_cases d0 : d = 0
      · subst d0
        refine ⟨0, ⟨by omega, fun h => by omega⟩, ?_⟩
        have gg : gGt (.int ((0 : Nat) : Int)) (.int 0) = some (.bool false) := rfl
        simp [gg]
      · have b0 := Int.emod_nonneg (z / 8) (b := 4 - (d : Int)) (by omega)
        have b1 := Int.emod_lt_of_pos (z / 8) (b := 4 - (d : Int)) (by omega)
        refine ⟨((d : Int) - 1 + z / 8 % (4 - (d : Int))).toNat, ⟨by omega, fun _ => by omega⟩, ?_⟩
        have gg : gGt (.int (d : Nat)) (.int 0) = some (.bool true) := by
          show some (PyData.bool (decide ((0 : Int) < (d : Nat)))) = _
          rw [decide_eq_true (by omega)]
        have gs1 : gSub (.int (d : Nat)) (.int 1) = some (.int ((d : Int) - 1)) := rfl
        have gs4 : gSub (.int 4) (.int (d : Nat)) = some (.int (4 - (d : Int))) := rfl
        have gm : gMod (.int (z / 8)) (.int (4 - (d : Int))) = some (.int (z / 8 % (4 - (d : Int)))) := gMod_int (by omega)
        rw [show ((((d : Int) - 1 + z / 8 % (4 - (d : Int))).toNat : Nat) : Int) = (d : Int) - 1 + z / 8 % (4 - (d : Int)) from by omega]
        generalize z / 8 % (4 - (d : Int)) = Z8 at gm
        generalize z / 8 = X8 at d8 gm
        generalize (4 - (d : Int)) = F4 at gs4 gm
        simp [gg, gs1, gs4, gm, d8]
    obtain ⟨g, hg⟩ := choose_below (α := Trm) (n := wide) (P := fun j T => DrawnM cs (d - 1) T ∧ f17 [.int c, .int ((3 * k + j + 1 : Nat) : Int), .int ((d - 1 : Nat) : Int), csD cs, NS, .bool kp] = .ok (.d (encM T))) fun j hj => h17 (wb.2 (by omega)) j (by omega)
    obtain ⟨q, hq, ql⟩ := emod_nat (c := z / 16384) (n := 8) (by decide)
    change z / 16384 % 8 = _ at hq
    have nq := hN.ix q ql
    have okq := hN.ok q ql
    obtain ⟨ad, had⟩ := pick3 0 (z / 512 % 19 - 9) (greatI c) (z / 64)
    obtain ⟨ps, hps⟩ : ∃ ps, ps = (List.range wide).map g := ⟨_, rfl⟩
    have psl : ps.length = wide := by rw [hps, List.length_map, List.length_range]
    have each : ∀ p ∈ ps, 0 < d ∧ DrawnM cs (d - 1) p := fun p hp => by
      rw [hps] at hp
      obtain ⟨j, hj, rfl⟩ := List.mem_map.mp hp
      rw [List.mem_range] at hj
      exact ⟨wb.2 (by omega), (hg j hj).1⟩
    refine ⟨.put (N q) (kp && (z / 32 % 2 == 1)) ad ps, ⟨?_, ?_, ?_, ?_⟩, st1 _ ?_⟩
    · rw [okM, okMs_iff]
      exact ⟨okq, by omega, fun p hp => (each p hp).2.ok⟩
    · rw [levM]
      have : ∀ qs : List Trm, (∀ p ∈ qs, p ∈ ps) → levMs qs ≤ d := fun qs => by
        induction qs with
        | nil => intro _; simp [levMs]
        | cons p qs ih =>
          intro h
          rw [levMs]
          obtain ⟨d0, dm⟩ := each p (h p List.mem_cons_self)
          have := dm.lev
          have := ih fun q hq => h q (List.mem_cons_of_mem _ hq)
          omega
      have := this ps fun p h => h
      omega
    · rw [sizeM]
      have : ∀ qs : List Trm, (∀ p ∈ qs, p ∈ ps) → qs.length ≤ 2 → sizeMs qs ≤ qs.length * (2 ^ d - 1) := fun qs => by
        induction qs with
        | nil => intro _ _; simp [sizeMs]
        | cons p qs ih =>
          intro h hl
          rw [sizeMs, List.length_cons, Nat.add_mul, Nat.one_mul]
          rw [List.length_cons] at hl
          obtain ⟨d0, dm⟩ := each p (h p List.mem_cons_self)
          have e1 := dm.size
          rw [show d - 1 + 1 = d from by omega] at e1
          have := ih (fun q hq => h q (List.mem_cons_of_mem _ hq)) (by omega)
          omega
      have a := this ps (fun p h => h) (by omega)
      have b : ps.length * (2 ^ d - 1) ≤ 2 * (2 ^ d - 1) := Nat.mul_le_mul_right _ (by omega)
      have := Nat.one_le_two_pow (n := d)
      rw [Nat.pow_succ]
      omega
    · intro c hc
      rw [callsM, callsMs_flat, List.mem_flatten] at hc
      obtain ⟨l, hl, hcl⟩ := hc
      obtain ⟨p, hp, rfl⟩ := List.mem_map.mp hl
      exact (each p hp).2.calls c hcl
    rw [sSeq_eq, sIf_eq, ct, R.st_ok, if_neg cc]
    simp only [sSkip_eq, SR.andThen]
    have assoc : ∀ (a b rest : Ev → SR) (env env1 : Ev) (r : R Ow), sSeq a b env = .nx env1 → finR (rest env1) = r → finR (sSeq a (sSeq b rest) env) = r := fun a b rest env env1 r h1 h2 => by
      rw [sSeq_eq] at h1 ⊢
      cases ha : a env with
      | nx e => rw [ha] at h1; have h1' : b e = .nx env1 := h1; show finR (sSeq b rest e) = r; rw [sSeq_eq, h1']; exact h2
      | _ => rw [ha] at h1; cases h1
    refine assoc _ _ _ _ _ _ wf ?_
    have lc : eLc (eB (aCons (eVar 7) aNil) rg1) (gtName 9) cYes (eB (aCons (eVar 0) (aCons (eM (eBinO gAdd (eB (eBinO gAdd (eBin gMul (eC (.int 3)) (eVar 1)) (eVar 9)) shD) (eC (.int 1))) viewD) (aCons (eBin gSub (eVar 2) (eC (.int 1))) (aCons (eVar 3) (aCons (eVar 4) (aCons (eVar 5) aNil)))))) f17) (List.map (·.2) ([("_law_j", 9)] : List (Str × Nat))) [some (.d (.int c)), some (.d (.int (k : Nat))), some (.d (.int (d : Nat))), some (.d (csD cs)), some (.d NS), some (.d (.bool kp)), some (.d (.int z)), some (.d (.int (wide : Nat))), none, none, none, none] = .ok (.l (ps.map fun p => .d (encM p))) := by
      rw [hps, List.map_map]
      refine eLc_of (ds := (List.range wide).map fun k : Nat => PyData.int (k : Nat)) (by
        have rg := rg1_nat wide (by omega)
        rw [rangeD_map] at rg
        generalize csD cs = CS
        simp [rg]) (by rw [List.length_map, List.length_range, sizeLine_eq]; omega) (lcR_map _ _ (List.range wide) fun j hj => ?_)
      rw [List.mem_range] at hj
      have h := (hg j hj).2
      have d0 := wb.2 (by omega)
      have g3 : gMul (.int 3) (.int (k : Nat)) = some (.int (3 * (k : Nat))) := gMul_small (by decide) (Nat.lt_trans (show ((k : Nat) : Int).natAbs < 1000 by omega) (by decide))
      have gs1 : gSub (.int (d : Nat)) (.int 1) = some (.int ((d - 1 : Nat) : Int)) := by rw [show ((d - 1 : Nat) : Int) = (d : Int) - 1 from by omega]; rfl
      rw [show ((3 * k + j + 1 : Nat) : Int) = 3 * (k : Nat) + (j : Nat) + 1 from by omega] at h
      refine ⟨[some (.d (.int c)), some (.d (.int (k : Nat))), some (.d (.int (d : Nat))), some (.d (csD cs)), some (.d NS), some (.d (.bool kp)), some (.d (.int z)), some (.d (.int (wide : Nat))), none, some (.d (.int (j : Nat))), none, none], by
        generalize csD cs = CS
        simp [wipeE], rfl, ?_⟩
      show _ = R.ok (Ow.d (encM (g j)))
      generalize encM (g j) = EG at h
      generalize csD cs = CS at h
      generalize ((d - 1 : Nat) : Int) = D1 at gs1 h
      simp [g3, gs1, h]
    have vc : viewD (.l (ps.map fun p => .d (encM p))) = .list (ps.map encM) := viewD_of _ _
    refine fin_step (env1 := [some (.d (.int c)), some (.d (.int (k : Nat))), some (.d (.int (d : Nat))), some (.d (csD cs)), some (.d NS), some (.d (.bool kp)), some (.d (.int z)), some (.d (.int (wide : Nat))), some (.d (.list (ps.map encM))), none, none, none]) (by
      rw [sSet_eq, eM_eq, eM_eq]
      refine (congrArg (fun r => R.st _ (R.map Ow.d (R.map viewD r)) _) lc).trans ?_
      rw [R.map_ok, R.map_ok, vc, R.st_ok]
      rfl) ?_
    have gt : gTuple [.list (ps.map encM)] = some (.d (.tuple (ps.map encM))) := rfl
    have ep : encM (.put (N q) (kp && (z / 32 % 2 == 1)) ad ps) = .tuple [.str "put", .str (N q), .bool (kp && (z / 32 % 2 == 1)), .int ad, .tuple (ps.map encM)] := encM_put _ _ _ _
    rw [ep]
    have d32 : gDiv (.int z) (.int 32) = some (.int (z / 32)) := gDiv_small (by decide) (by decide)
    have m32 : gMod (.int (z / 32)) (.int 2) = some (.int (z / 32 % 2)) := gMod_int (by decide)
    have d512 : gDiv (.int z) (.int 512) = some (.int (z / 512)) := gDiv_small (by decide) (by decide)
    have m512 : gMod (.int (z / 512)) (.int 19) = some (.int (z / 512 % 19)) := gMod_int (by decide)
    have d64 : gDiv (.int z) (.int 64) = some (.int (z / 64)) := gDiv_small (by decide) (by decide)
    have m64 : gMod (.int (z / 64)) (.int 3) = some (.int (z / 64 % 3)) := gMod_int (by decide)
    have d16k : gDiv (.int z) (.int 16384) = some (.int (z / 16384)) := gDiv_small (by decide) (by decide)
    have m16k : gMod (.int (z / 16384)) (.int 8) = some (.int (q : Nat)) := by rw [gMod_int (by decide), hq]
    have gr := h15 c
    have s3 := shl3 (.int 0) (.int (z / 512 % 19 - 9)) (.int (greatI c))
    have gs9 : gSub (.int (z / 512 % 19)) (.int 9) = some (.int (z / 512 % 19 - 9)) := rfl
    generalize PyData.list [.int 0, .int (z / 512 % 19 - 9), .int (greatI c)] = L3 at had s3
    generalize PyData.tuple (ps.map encM) = TP at gt
    generalize PyData.list (ps.map encM) = LP at gt
    generalize greatI c = GC at gr s3
    generalize csD cs = CS
    refine fin_step (env1 := [some (.d (.int c)), some (.d (.int (k : Nat))), some (.d (.int (d : Nat))), some (.d CS), some (.d NS), some (.d (.bool kp)), some (.d (.int z)), some (.d (.int (wide : Nat))), some (.d LP), none, some (.d (.bool (kp && (z / 32 % 2 == 1)))), none]) (by
      generalize z / 32 % 2 = Y at m32
      generalize z / 32 = X at d32 m32
      cases kp <;> simp [d32, m32]) ?_
    refine fin_step (env1 := [some (.d (.int c)), some (.d (.int (k : Nat))), some (.d (.int (d : Nat))), some (.d CS), some (.d NS), some (.d (.bool kp)), some (.d (.int z)), some (.d (.int (wide : Nat))), some (.d LP), none, some (.d (.bool (kp && (z / 32 % 2 == 1)))), some (.d (.int ad))]) (by
      generalize z / 512 % 19 - 9 = Y9 at gs9 s3
      generalize z / 512 % 19 = Y at m512 gs9
      generalize z / 512 = X at d512 m512
      generalize z / 64 % 3 = Y3 at m64 had
      generalize z / 64 = X6 at d64 m64
      simp [d512, m512, gs9, gr, s3, d64, m64, had, sizeLine_eq]) ?_
    generalize z / 16384 = X at d16k m16k
    simp [d16k, m16k, nq, gt, sizeLine_eq]
end
end Mir
set_option Elab.async false
set_option linter.all false
set_option maxRecDepth 100000
set_option maxHeartbeats 4000000
namespace Mir
open PySem PySem.Spec L2
def clsAt (bs os : List Str) (b : Nat) : List (Int × Int) := ((List.range os.length).filter fun m => os.getD m "" == bs.getD b "").map fun m : Nat => ((m : Int), (b : Int))
def clsOf (bs os : List Str) : List (Int × Int) := ((List.range bs.length).map (clsAt bs os)).flatten
theorem clsOf_mem {bs os : List Str} {c : Int × Int} (h : c ∈ clsOf bs os) : ∃ m b : Nat, c = ((m : Int), (b : Int)) ∧ m < os.length ∧ b < bs.length ∧ os.getD m "" = bs.getD b "" := by
  unfold clsOf at h
  rw [List.mem_flatten] at h
  obtain ⟨l, hl, hc⟩ := h
  obtain ⟨b, hb, rfl⟩ := List.mem_map.mp hl
  unfold clsAt at hc
  obtain ⟨m, hm, rfl⟩ := List.mem_map.mp hc
  rw [List.mem_filter, List.mem_range] at hm
  exact ⟨m, b, rfl, hm.1, List.mem_range.mp hb, beq_iff_eq.mp hm.2⟩
noncomputable section
abbrev clIn : Ev → R Ow := (eLc (eB (aCons (eM (eCa gLen (aCons (eVar 1) aNil)) viewD) aNil) rg1) (gtName 4) (eB (eBin gEq (eBin gIx (eVar 1) (eVar 4)) (eBin gIx (eVar 0) (eVar 3))) asB) (eM (eTup (aCons (eVar 4) (aCons (eVar 3) aNil))) Ow.d) (List.map (·.2) ([("_law_mode", 4)] : List (Str × Nat))))
abbrev bCallsG : Ev → SR := (sSeq (sSet 2 (eLst aNil))
    (sSeq (sFor (eB (aCons (eM (eCa gLen (aCons (eVar 0) aNil)) viewD) aNil) rg1) (gtName 3)
    (sExt 2 (eB clIn shD)))
    (sRetV 2)))
def osD (os : List Str) : PyData := .list (os.map PyData.str)
theorem os_len (os : List Str) : gLen [osD os] = some (.d (.int (os.length : Nat))) := by show some (Ow.d (.int (os.map PyData.str).length)) = _; rw [List.length_map]
theorem os_ix {os : List Str} {m : Nat} (h : m < os.length) : gIx (osD os) (.int (m : Nat)) = some (.str (os.getD m "")) := by
  show atI (os.map PyData.str) _ = _
  exact atI_natD (by rw [List.getElem?_map, List.getElem?_eq_getElem h, List.getD_eq_getElem?_getD, List.getElem?_eq_getElem h]; rfl)
/-- branches, as a list or a tuple -/
structure IsBr (BD : D) (bs : List Str) : Prop where
  len : gLen [BD] = some (.d (.int (bs.length : Nat)))
  ix : ∀ b, b < bs.length → gIx BD (.int (b : Nat)) = some (.str (bs.getD b ""))
theorem isBr_tup (bs : List Str) : IsBr (brD bs) bs where
  len := br_len bs
  ix := fun b hb => br_ix (by rw [List.getElem?_eq_getElem hb, List.getD_eq_getElem?_getD, List.getElem?_eq_getElem hb]; rfl)
theorem isBr_lst (bs : List Str) : IsBr (osD bs) bs where
  len := os_len bs
  ix := fun b hb => os_ix hb
theorem callsG_fin {BD : D} {bs os : List Str} (hb : IsBr BD bs) (h1 : bs.length ≤ 3) (h2 : os.length ≤ 10) : finR (bCallsG (envOf 3 [BD, osD os])) = .ok (.l ((clsOf bs os).map fun c => .d (encC c))) := by
  have he : envOf 3 [BD, osD os] = [some (.d BD), some (.d (osD os)), none, none, none] := rfl
  rw [he]
  have ol := os_len os
  refine fin_step (env1 := [some (.d BD), some (.d (osD os)), some (.l []), none, none]) (by generalize osD os = OD; simp [sizeLine_eq]) ?_
  have fl : ∀ b, b ≤ bs.length → (((List.range b).map (clsAt bs os)).flatten).length ≤ b * 10 := fun b => by
    induction b with
    | zero => intro _; simp
    | succ b ih =>
      intro h
      rw [List.range_succ, List.map_append, List.flatten_append, List.length_append]
      have := ih (by omega)
      have l1 : (((List.map (clsAt bs os) [b])).flatten).length ≤ 10 := by
        simp only [List.map_cons, List.map_nil, List.flatten_cons, List.flatten_nil, List.append_nil]
        unfold clsAt
        rw [List.length_map]
        have := List.length_filter_le (fun m => os.getD m "" == bs.getD b "") (List.range os.length)
        rw [List.length_range] at this
        omega
      omega
  obtain ⟨env', e1, x3, e2⟩ := forL_map (g := gtName 3) (f := sExt 2 (eB clIn shD)) (fun k : Nat => PyData.int (k : Nat)) (List.range bs.length)
    (fun i env => ∃ x3, env = [some (.d BD), some (.d (osD os)), some (.l ((((List.range i).map (clsAt bs os)).flatten).map fun c => .d (encC c))), x3, none]) (fun i b env hi ⟨x3, e⟩ => by
      subst e
      obtain ⟨q1, q2⟩ := List.getElem?_eq_some_iff.mp hi
      rw [List.length_range] at q1
      rw [List.getElem_range] at q2
      subst q2
      refine ⟨[some (.d BD), some (.d (osD os)), some (.l ((((List.range i).map (clsAt bs os)).flatten).map fun c => .d (encC c))), some (.d (.int (i : Nat))), none], rfl, [some (.d BD), some (.d (osD os)), some (.l ((((List.range (i + 1)).map (clsAt bs os)).flatten).map fun c => .d (encC c))), some (.d (.int (i : Nat))), none], .inl ?_, _, rfl⟩
      have tk : (((List.range (i + 1)).map (clsAt bs os)).flatten).map (fun c => Ow.d (encC c)) = ((((List.range i).map (clsAt bs os)).flatten).map fun c => .d (encC c)) ++ ((clsAt bs os i).map encC).map Ow.d := by
        rw [List.range_succ, List.map_append, List.flatten_append, List.map_append, List.map_map]
        congr 1
        simp only [List.map_cons, List.map_nil, List.flatten_cons, List.flatten_nil, List.append_nil]
        rfl
      rw [tk]
      have l0 := fl i (by omega)
      have l1 : (clsAt bs os i).length ≤ 10 := by
        unfold clsAt
        rw [List.length_map]
        have := List.length_filter_le (fun m => os.getD m "" == bs.getD i "") (List.range os.length)
        rw [List.length_range] at this
        omega
      have ll : ((((List.range i).map (clsAt bs os)).flatten).map fun c => Ow.d (encC c)).length + ((clsAt bs os i).map encC).length ≤ 16777216 := by rw [List.length_map, List.length_map]; omega
      generalize ((((List.range i).map (clsAt bs os)).flatten).map fun c => Ow.d (encC c)) = OS at ll
      have lc : clIn [some (.d BD), some (.d (osD os)), some (.l OS), some (.d (.int (i : Nat))), none] = .ok (.l ((clsAt bs os i).map fun c => .d (encC c))) := by
        show eLc _ _ _ _ _ _ = _
        unfold clsAt
        rw [List.map_map]
        refine eLc_of (ds := (List.range os.length).map fun k : Nat => PyData.int (k : Nat)) (by
          have rg := rg1_nat os.length (by omega)
          rw [rangeD_map] at rg
          generalize osD os = OD at ol
          simp [ol, rg]) (by rw [List.length_map, List.length_range, sizeLine_eq]; omega) (lcR_filt _ (fun m => os.getD m "" == bs.getD i "") _ (List.range os.length) fun m hm => ?_)
        rw [List.mem_range] at hm
        have o1 := os_ix hm
        have b1 := hb.ix i q1
        refine ⟨[some (.d BD), some (.d (osD os)), some (.l OS), some (.d (.int (i : Nat))), some (.d (.int (m : Nat)))], by generalize osD os = OD; simp [wipeE], ?_, fun _ => ?_⟩
        · generalize os.getD m "" = S1 at o1
          generalize bs.getD i "" = S2 at b1
          generalize osD os = OD at o1
          simp [o1, b1, gEq_str]
        · generalize osD os = OD
          show _ = R.ok (Ow.d (encC ((m : Int), (i : Int))))
          unfold encC
          simp [sizeLine_eq]
      have sh : shD (.l ((clsAt bs os i).map fun c => .d (encC c))) = .ok (.list ((clsAt bs os i).map encC)) := unDs_of encC _
      have al : asL (.list ((clsAt bs os i).map encC)) = .ok ((clsAt bs os i).map encC) := rfl
      rw [sExt_eq]
      show ownL 2 _ _ = _
      rw [ownL_2, eB_eq, lc, R.bind_ok, sh, R.st_ok, al, R.st_ok, if_pos (by rw [sizeLine_eq]; exact ll)]
      rfl) [some (.d BD), some (.d (osD os)), some (.l []), none, none] ⟨none, rfl⟩
  subst e2
  rw [List.length_range] at e1
  refine fin_step (env1 := [some (.d BD), some (.d (osD os)), some (.l ((clsOf bs os).map fun c => .d (encC c))), x3, none]) (by
    have bl := hb.len
    have it : (eB (aCons (eM (eCa gLen (aCons (eVar 0) aNil)) viewD) aNil) rg1) [some (.d BD), some (.d (osD os)), some (.l []), none, none] = .ok ((List.range bs.length).map fun k : Nat => PyData.int (k : Nat)) := by
      have rg := rg1_nat bs.length (by omega)
      rw [rangeD_map] at rg
      generalize osD os = OD
      simp [bl, rg]
    rw [sFor_eq, it, R.st_ok, e1]
    rfl) ?_
  rfl
abbrev bMark3 (f15 : List D → R Ow) : Ev → SR := (sRet (eM (eBin gIx (eB (eLst (aCons (eC (.int 0)) (aCons (eBin gSub (eBin gMod (eBin gDiv (eVar 1) (eC (.int 2048))) (eC (.int 19))) (eC (.int 9))) (aCons (eM (eB (aCons (eVar 0) aNil) f15) viewD) aNil)))) shD) (eBin gMod (eBin gDiv (eVar 1) (eC (.int 64))) (eC (.int 3)))) Ow.d))
def small250 (x : Int) : Prop := x.natAbs < 2 ^ 250
theorem mark3_fin {f15 : List D → R Ow} (h15 : ∀ z : Int, f15 [.int z] = .ok (.d (.int (greatI z)))) (c z : Int) : ∃ x : Int, small250 x ∧ finR (bMark3 f15 (envOf 0 [.int c, .int z])) = .ok (.d (.int x)) := by
  have he : envOf 0 [.int c, .int z] = [some (.d (.int c)), some (.d (.int z))] := rfl
  rw [he]
  have had : ∃ x : Int, small250 x ∧ gIx (.list [.int 0, .int (z / 2048 % 19 - 9), .int (greatI c)]) (.int (z / 64 % 3)) = some (.int x) := by
    obtain ⟨k, hk, kl⟩ := emod_nat (c := z / 64) (n := 3) (by decide)
    change z / 64 % 3 = _ at hk
    rw [hk]
    match k, kl with
    | 0, _ => exact ⟨0, (by decide : (0 : Int).natAbs < 2 ^ 250), rfl⟩
    | 1, _ =>
      have a := Int.emod_nonneg (z / 2048) (b := 19) (by decide)
      have b := Int.emod_lt_of_pos (z / 2048) (b := 19) (by decide)
      exact ⟨_, Nat.lt_trans (show (z / 2048 % 19 - 9).natAbs < 100 by omega) (by decide), rfl⟩
    | 2, _ => exact ⟨_, greatI_abs c, rfl⟩
  obtain ⟨x, xs, hx⟩ := had
  refine ⟨x, xs, ?_⟩
  have gr := h15 c
  have d1 : gDiv (.int z) (.int 2048) = some (.int (z / 2048)) := gDiv_small (by decide) (by decide)
  have m1 : gMod (.int (z / 2048)) (.int 19) = some (.int (z / 2048 % 19)) := gMod_int (by decide)
  have d64 : gDiv (.int z) (.int 64) = some (.int (z / 64)) := gDiv_small (by decide) (by decide)
  have m64 : gMod (.int (z / 64)) (.int 3) = some (.int (z / 64 % 3)) := gMod_int (by decide)
  have gs9 : gSub (.int (z / 2048 % 19)) (.int 9) = some (.int (z / 2048 % 19 - 9)) := rfl
  have s3 := shl3 (.int 0) (.int (z / 2048 % 19 - 9)) (.int (greatI c))
  generalize PyData.list [.int 0, .int (z / 2048 % 19 - 9), .int (greatI c)] = L3 at hx s3
  generalize greatI c = GC at gr s3
  generalize z / 2048 % 19 - 9 = Y9 at gs9 s3
  generalize z / 2048 % 19 = Y at m1 gs9
  generalize z / 2048 = X at d1 m1
  generalize z / 64 % 3 = Y3 at m64 hx
  generalize z / 64 = X6 at d64 m64
  simp [d1, m1, gs9, gr, s3, d64, m64, hx, sizeLine_eq]
end
end Mir
set_option Elab.async false
set_option linter.all false
set_option maxRecDepth 100000
set_option maxHeartbeats 4000000
namespace Mir
open PySem PySem.Spec L2
structure TnDrawn (t : Trn) (os : List Str) : Prop where
  cnt : 1 ≤ os.length ∧ os.length ≤ 4
  kinds : ∀ z ∈ os, z ∈ t.wood.map (·.1)
  len : t.modes.length = os.length
  mode : ∀ (m : Nat) (p : Str × List Trm), t.modes[m]? = some p → p.1 = os.getD m "" ∧ p.2.length = (rowsOf t.wood p.1).length ∧ ∀ (i : Nat) (row : Rw) (T : Trm), (rowsOf t.wood p.1)[i]? = some row → p.2[i]? = some T → DrawnM (clsOf row.br os) 2 T
  start : DrawnM (clsOf [(t.wood.map (·.1)).getD 0 ""] os) 2 t.start
theorem rowsOf_kind {w : Wood} (hw : (w.map (·.1)).Nodup) {p : Str × List Rw} (hp : p ∈ w) : rowsOf w p.1 = p.2 := by
  induction w with
  | nil => cases hp
  | cons q w ih =>
    rw [List.map_cons, List.nodup_cons] at hw
    rw [rowsOf]
    rcases List.mem_cons.mp hp with rfl | h
    · rw [beq_self_eq_true]; rfl
    · have : (q.1 == p.1) = false := by
        rw [beq_eq_false_iff_ne]
        intro e
        exact hw.1 (e ▸ List.mem_map.mpr ⟨p, h, rfl⟩)
      rw [this]
      exact ih hw.2 h
theorem brOf_mem {nm : Str} : ∀ {rs : List Rw} {ks : List Str}, brOf rs nm = some ks → ∃ r ∈ rs, r.nm = nm ∧ r.br = ks
  | [], ks, h => by cases h
  | r :: rs, ks, h => by
    rw [brOf] at h
    split at h
    · rename_i c
      cases h
      exact ⟨r, List.mem_cons_self, beq_iff_eq.mp c, rfl⟩
    · obtain ⟨s, h1, h2, h3⟩ := brOf_mem h
      exact ⟨s, List.mem_cons_of_mem _ h1, h2, h3⟩
theorem brOf_row {rs : List Rw} (hd : (rs.map (·.nm)).Nodup) {r : Rw} (hr : r ∈ rs) : brOf rs r.nm = some r.br := by
  induction rs with
  | nil => cases hr
  | cons q rs ih =>
    rw [List.map_cons, List.nodup_cons] at hd
    rw [brOf]
    rcases List.mem_cons.mp hr with rfl | h
    · rw [beq_self_eq_true]; rfl
    · have : (q.nm == r.nm) = false := by
        rw [beq_eq_false_iff_ne]
        intro e
        exact hd.1 (e ▸ List.mem_map.mpr ⟨r, h, rfl⟩)
      rw [this]
      exact ih hd.2 h
theorem rowsOf_or (w : Wood) (k : Str) : rowsOf w k = [] ∨ ∃ p ∈ w, p.1 = k ∧ rowsOf w k = p.2 := by
  induction w with
  | nil => exact .inl rfl
  | cons q w ih =>
    rw [rowsOf]
    cases c : q.1 == k with
    | true => exact .inr ⟨q, List.mem_cons_self, beq_iff_eq.mp c, rfl⟩
    | false =>
      rcases ih with h | ⟨p, h1, h2, h3⟩
      · exact .inl h
      · exact .inr ⟨p, List.mem_cons_of_mem _ h1, h2, h3⟩
theorem drawn_good {cs : List (Int × Int)} {T : Trm} (h : DrawnM cs 2 T) : GoodM 3 T := ⟨h.ok, h.lev, by have := h.size; omega⟩
theorem drawn_fit {t : Trn} {os : List Str} (ht : TnDrawn t os) {bs : List Str} {T : Trm} (h : DrawnM (clsOf bs os) 2 T) : FitT t bs T := fun c hc => by
  obtain ⟨m, b, rfl, hm, hb, e⟩ := clsOf_mem (h.calls c hc)
  have ml : m < t.modes.length := by rw [ht.len]; exact hm
  have e1 := List.getElem?_eq_getElem ml
  refine ⟨by show (0 : Int) ≤ (m : Int); omega, by show (0 : Int) ≤ (b : Int); omega, t.modes[m], by rw [Int.toNat_natCast]; exact e1, ?_⟩
  rw [Int.toNat_natCast, (ht.mode m _ e1).1, e, List.getElem?_eq_getElem hb, List.getD_eq_getElem?_getD, List.getElem?_eq_getElem hb]
  rfl
theorem drawn_snd {t : Trn} {os : List Str} (hw : WoodOk t.wood) (ht : TnDrawn t os) : SndT t 3 where
  few := by rw [ht.len]; have := ht.cnt; omega
  wide := fun k nm ks h => by
    obtain ⟨r, hr, _, rfl⟩ := brOf_mem h
    rcases rowsOf_or t.wood k with e | ⟨p, h1, h2, h3⟩
    · rw [e] at hr; cases hr
    · rw [h3] at hr
      have := (hw.rok p h1 r hr).2.1
      omega
  lens := fun p hp => by
    obtain ⟨m, hm⟩ := List.getElem?_of_mem hp
    exact (ht.mode m p hm).2.1
  fits := fun p hp i row T hr hT => by
    obtain ⟨m, hm⟩ := List.getElem?_of_mem hp
    have d := (ht.mode m p hm).2.2 i row T hr hT
    exact ⟨drawn_fit ht d, drawn_good d⟩
theorem drawn_nc {t : Trn} {os : List Str} (hw : WoodOk t.wood) (ht : TnDrawn t os) : NcTn t 3 where
  kinds := hw.kok
  rows := fun p hp r hr => by
    obtain ⟨a, _, c⟩ := hw.rok p hp r hr
    refine ⟨a, fun z hz => ?_⟩
    obtain ⟨q, hq, rfl⟩ := List.mem_map.mp (c z hz)
    exact hw.kok q hq
  start := ⟨ht.start.ok, ht.start.lev⟩
  mkinds := fun p hp => by
    obtain ⟨m, hm⟩ := List.getElem?_of_mem hp
    have ml := (List.getElem?_eq_some_iff.mp hm).1
    rw [ht.len] at ml
    rw [(ht.mode m p hm).1]
    have : os.getD m "" ∈ os := by rw [List.getD_eq_getElem?_getD, List.getElem?_eq_getElem ml]; exact List.getElem_mem ml
    obtain ⟨q, hq, e⟩ := List.mem_map.mp (ht.kinds _ this)
    rw [← e]
    exact hw.kok q hq
  rules := fun p hp T hT => by
    obtain ⟨m, hm⟩ := List.getElem?_of_mem hp
    obtain ⟨i, hi⟩ := List.getElem?_of_mem hT
    obtain ⟨_, l, d⟩ := ht.mode m p hm
    have il := (List.getElem?_eq_some_iff.mp hi).1
    have := d i _ T (List.getElem?_eq_getElem (by rw [← l]; exact il)) hi
    exact ⟨this.ok, this.lev⟩
noncomputable section
def kdD (w : Wood) : PyData := .list (w.map fun p => .str p.1)
theorem kd_os (w : Wood) : kdD w = osD (w.map (·.1)) := by unfold kdD osD; rw [List.map_map]; rfl
abbrev tnRuleG (f12 f17 f18 : List D → R Ow) : Ev → SR := (sSeq (sSet 13 (eM (eM (eB (aCons (eBin gIx (eVar 12) (eC (.int 1))) (aCons (eVar 7) aNil)) f18) viewD) Ow.d))
    (sSeq (sApp 11 (eB (aCons (eM (eB (aCons (eVar 0) (aCons (eVar 10) aNil)) f12) viewD) (aCons (eC (.int 0)) (aCons (eC (.int 2)) (aCons (eVar 13) (aCons (eVar 2) (aCons (eC (.bool true)) aNil)))))) f17))
    (sSet 10 (eM (eM (eBinO gAdd (eVar 10) (eC (.int 1))) viewD) Ow.d))))
abbrev tnModeG (f12 f17 f18 : List D → R Ow) : Ev → SR := (sSeq (sSet 11 (eLst aNil))
    (sSeq (sFor (eB (eDictIx (eVar 1) (eVar 4)) itD) (gtName 12)
    (tnRuleG f12 f17 f18))
    (sFrz 11 (sApp 9 (eM (eTup (aCons (eVar 4) (aCons (eVar 11) aNil))) Ow.d)))))
abbrev bTurningG (f12 f13 f17 f18 : List D → R Ow) : Ev → SR := (sSeq (sSet 3 (eM (eM (eLc (eB (eVar 1) itD) (gtTup 2 (gtCons (gtName 4) (gtCons (gtName 5) gtNil))) cYes (eM (eVar 4) Ow.d) (List.map (·.2) ([("_law_kind", 4), ("_law_rows", 5)] : List (Str × Nat)))) viewD) Ow.d))
    (sSeq (sSet 6 (eM (eM (eB (aCons (eVar 0) (aCons (eC (.int 3)) aNil)) f12) viewD) Ow.d))
    (sSeq (sSet 7 (eM (eM (eBinO gAdd (eB (eLst (aCons (eBin gIx (eVar 3) (eC (.int 0))) aNil)) shD) (eB (eLc (eB (aCons (eBin gMod (eVar 6) (eC (.int 4))) aNil) rg1) (gtName 8) cYes (eM (eBin gIx (eVar 3) (eBin gMod (eM (eB (aCons (eVar 6) (aCons (eVar 8) aNil)) f13) viewD) (eM (eCa gLen (aCons (eVar 3) aNil)) viewD))) Ow.d) (List.map (·.2) ([("_law_i", 8)] : List (Str × Nat)))) shD)) viewD) Ow.d))
    (sSeq (sSet 9 (eLst aNil))
    (sSeq (sSet 10 (eM (eC (.int 4)) Ow.d))
    (sSeq (sFor (eB (eVar 7) itD) (gtName 4)
    (tnModeG f12 f17 f18))
    (sSeq (sSet 14 (eM (eM (eB (aCons (eM (eB (aCons (eVar 0) (aCons (eC (.int 2)) aNil)) f12) viewD) (aCons (eC (.int 0)) (aCons (eC (.int 2)) (aCons (eM (eB (aCons (eM (eLst (aCons (eBin gIx (eVar 3) (eC (.int 0))) aNil)) viewD) (aCons (eVar 7) aNil)) f18) viewD) (aCons (eVar 2) (aCons (eC (.bool false)) aNil)))))) f17) viewD) Ow.d))
    (sFrz 9 (sRet (eM (eTup (aCons (eVar 1) (aCons (eVar 14) (aCons (eVar 9) aNil)))) Ow.d))))))))))
section
variable {f12 f13 f17 f18 : List D → R Ow} {SC NS : PyData} {cell : Nat → Int} (h12 : ∀ k : Nat, f12 [SC, .int (k : Nat)] = .ok (.d (.int (cell k))))
  (h17 : ∀ (c : Int) (cs : List (Int × Int)) (kp : Bool), ∃ T, DrawnM cs 2 T ∧ f17 [.int c, .int 0, .int 2, csD cs, NS, .bool kp] = .ok (.d (encM T)))
  (h18 : ∀ (BD : D) (bs os : List Str), IsBr BD bs → bs.length ≤ 3 → os.length ≤ 10 → f18 [BD, osD os] = .ok (.l ((clsOf bs os).map fun c => .d (encC c))))
include h12 h17 h18
theorem tnRuleG_ok (W KD : D) (os : List Str) (ho : os.length ≤ 10) (row : Rw) (hr : row.br.length ≤ 3) (u : Nat) (x4 x5 x6 x8 x9 x13 x14 : Option Ow) (rl : List Ow) (hl : rl.length < 1000) : ∃ T y13, DrawnM (clsOf row.br os) 2 T ∧ tnRuleG f12 f17 f18 [some (.d SC), some (.d W), some (.d NS), some (.d KD), x4, x5, x6, some (.d (osD os)), x8, x9, some (.d (.int (u : Nat))), some (.l rl), some (.d (encRw row)), x13, x14] = .nx [some (.d SC), some (.d W), some (.d NS), some (.d KD), x4, x5, x6, some (.d (osD os)), x8, x9, some (.d (.int ((u + 1 : Nat) : Int))), some (.l (rl ++ [.d (encM T)])), some (.d (encRw row)), y13, x14] := by
  obtain ⟨T, hT, e17⟩ := h17 (cell u) (clsOf row.br os) true
  refine ⟨T, some (.d (csD (clsOf row.br os))), hT, ?_⟩
  have e18 := h18 (brD row.br) row.br os (isBr_tup row.br) hr ho
  have i1 := rw_ix1 row
  have vc : viewD (.l ((clsOf row.br os).map fun c => .d (encC c))) = csD (clsOf row.br os) := viewD_of encC _
  have e12 := h12 u
  have hl2 : rl.length < 16777216 := by omega
  have uu : ((u + 1 : Nat) : Int) = (u : Int) + 1 := by omega
  rw [uu]
  generalize csD (clsOf row.br os) = CS at vc e17
  generalize Ow.l ((clsOf row.br os).map fun c => .d (encC c)) = CO at vc e18
  generalize osD os = OD at e18
  generalize brD row.br = BD at e18 i1
  generalize encRw row = RW at i1
  generalize encM T = TM at e17
  refine seq_nx (env1 := [some (.d SC), some (.d W), some (.d NS), some (.d KD), x4, x5, x6, some (.d OD), x8, x9, some (.d (.int (u : Nat))), some (.l rl), some (.d RW), some (.d CS), x14]) (by simp [i1, e18, vc]) ?_
  refine seq_nx (env1 := [some (.d SC), some (.d W), some (.d NS), some (.d KD), x4, x5, x6, some (.d OD), x8, x9, some (.d (.int (u : Nat))), some (.l (rl ++ [.d TM])), some (.d RW), some (.d CS), x14]) (by simp [e12, e17, sizeLine_eq, hl2]) ?_
  simp
theorem tnModeG_ok {w : Wood} (hw : WoodOk w) {os : List Str} (ho : os.length ≤ 4) {k : Str} (hk : k ∈ w.map (·.1)) (KD : D) (u : Nat) (ms : List Ow) (hm : ms.length < 1000) (x5 x6 x8 x11 x12 x13 x14 : Option Ow) :
    ∃ rls : List Trm, rls.length = (rowsOf w k).length ∧ (∀ (i : Nat) (row : Rw) (T : Trm), (rowsOf w k)[i]? = some row → rls[i]? = some T → DrawnM (clsOf row.br os) 2 T) ∧
      ∃ u' y11 y12 y13, tnModeG f12 f17 f18 [some (.d SC), some (.d (encWd w)), some (.d NS), some (.d KD), some (.d (.str k)), x5, x6, some (.d (osD os)), x8, some (.l ms), some (.d (.int (u : Nat))), x11, x12, x13, x14] = .nx [some (.d SC), some (.d (encWd w)), some (.d NS), some (.d KD), some (.d (.str k)), x5, x6, some (.d (osD os)), x8, some (.l (ms ++ [.d (encMo (k, rls))])), some (.d (.int (u' : Nat))), y11, y12, y13, x14] := by
  obtain ⟨p, hp, rfl⟩ := List.mem_map.mp hk
  have rp := rowsOf_kind hw.kinds hp
  rw [rp]
  have few := hw.few p hp
  obtain ⟨env', e1, rls, x12', x13', e2, r1, r2⟩ := forL_map (g := gtName 12) (f := tnRuleG f12 f17 f18) encRw p.2
    (fun i env => ∃ (rls : List Trm) (x12 x13 : Option Ow), env = [some (.d SC), some (.d (encWd w)), some (.d NS), some (.d KD), some (.d (.str p.1)), x5, x6, some (.d (osD os)), x8, some (.l ms), some (.d (.int ((u + i : Nat) : Int))), some (.l (rls.map fun T => .d (encM T))), x12, x13, x14] ∧ rls.length = i ∧ ∀ (j : Nat) (row : Rw) (T : Trm), p.2[j]? = some row → rls[j]? = some T → DrawnM (clsOf row.br os) 2 T) (fun i row env hi ⟨rls, x12, x13, e, l1, l2⟩ => by
      subst e
      have il := (List.getElem?_eq_some_iff.mp hi).1
      obtain ⟨T, y13, hT, q⟩ := tnRuleG_ok h12 h17 h18 (encWd w) KD os (by omega) row (hw.rok p hp row (List.mem_of_getElem? hi)).2.1 (u + i) (some (.d (.str p.1))) x5 x6 x8 (some (.l ms)) x13 x14 (rls.map fun T => .d (encM T)) (by rw [List.length_map]; omega)
      refine ⟨[some (.d SC), some (.d (encWd w)), some (.d NS), some (.d KD), some (.d (.str p.1)), x5, x6, some (.d (osD os)), x8, some (.l ms), some (.d (.int ((u + i : Nat) : Int))), some (.l (rls.map fun T => .d (encM T))), some (.d (encRw row)), x13, x14], rfl, _, .inl q, rls ++ [T], some (.d (encRw row)), y13, ?_, by rw [List.length_append]; simp; omega, fun j row' T' h1 h2 => ?_⟩
      · rw [List.map_append]
        rfl
      · by_cases c : j < rls.length
        · rw [List.getElem?_append_left c] at h2
          exact l2 j row' T' h1 h2
        · have jl := (List.getElem?_eq_some_iff.mp h2).1
          rw [List.length_append, List.length_singleton] at jl
          have : j = rls.length := by omega
          subst this
          rw [List.getElem?_append_right (Nat.le_refl _), Nat.sub_self] at h2
          cases h2
          rw [l1, hi] at h1
          cases h1
          exact hT) [some (.d SC), some (.d (encWd w)), some (.d NS), some (.d KD), some (.d (.str p.1)), x5, x6, some (.d (osD os)), x8, some (.l ms), some (.d (.int (u : Nat))), some (.l []), x12, x13, x14] ⟨[], x12, x13, rfl, rfl, fun j row T h1 h2 => by simp at h2⟩
  subst e2
  refine ⟨rls, r1, r2, u + p.2.length, some (.d (trsD rls)), x12', x13', ?_⟩
  have ap := asPairs_wd w
  have lp := lastP_wd (k := p.1) hw.kinds
  have an : (w.any fun q => q.1 == p.1) = true := by rw [List.any_eq_true]; exact ⟨p, hp, beq_self_eq_true _⟩
  rw [an, if_pos rfl, rp] at lp
  refine seq_nx (env1 := [some (.d SC), some (.d (encWd w)), some (.d NS), some (.d KD), some (.d (.str p.1)), x5, x6, some (.d (osD os)), x8, some (.l ms), some (.d (.int (u : Nat))), some (.l []), x12, x13, x14]) (by
    generalize osD os = OD
    generalize encWd w = W
    simp [sizeLine_eq]) ?_
  refine seq_nx (env1 := [some (.d SC), some (.d (encWd w)), some (.d NS), some (.d KD), some (.d (.str p.1)), x5, x6, some (.d (osD os)), x8, some (.l ms), some (.d (.int ((u + p.2.length : Nat) : Int))), some (.l (rls.map fun T => .d (encM T))), x12', x13', x14]) (by
    have it : (eB (eDictIx (eVar 1) (eVar 4)) itD) [some (.d SC), some (.d (encWd w)), some (.d NS), some (.d KD), some (.d (.str p.1)), x5, x6, some (.d (osD os)), x8, some (.l ms), some (.d (.int (u : Nat))), some (.l []), x12, x13, x14] = .ok (p.2.map encRw) := by
      have i2 : itD (rwsD p.2) = .ok (p.2.map encRw) := rfl
      generalize rwsD p.2 = RW at lp i2
      generalize osD os = OD
      generalize encWd w = W at ap
      simp [ap, lp, i2]
    rw [sFor_eq, it, R.st_ok, e1]) ?_
  have vm : viewD (.l (rls.map fun T => .d (encM T))) = trsD rls := viewD_of encM rls
  have fz : frzV 11 [some (.d SC), some (.d (encWd w)), some (.d NS), some (.d KD), some (.d (.str p.1)), x5, x6, some (.d (osD os)), x8, some (.l ms), some (.d (.int ((u + p.2.length : Nat) : Int))), some (.l (rls.map fun T => .d (encM T))), x12', x13', x14] = [some (.d SC), some (.d (encWd w)), some (.d NS), some (.d KD), some (.d (.str p.1)), x5, x6, some (.d (osD os)), x8, some (.l ms), some (.d (.int ((u + p.2.length : Nat) : Int))), some (.d (trsD rls)), x12', x13', x14] := by
    rw [← vm]
    rfl
  show sApp 9 _ (frzV 11 _) = _
  rw [fz]
  have hm2 : ms.length < 16777216 := by omega
  have em : encMo (p.1, rls) = .tuple [.str p.1, trsD rls] := rfl
  rw [em]
  generalize trsD rls = TR
  generalize osD os = OD
  generalize encWd w = W
  simp [sizeLine_eq, hm2]
variable (h13 : ∀ (c : Int) (j : Nat), j ≤ 1000 → f13 [.int c, .int (j : Nat)] = .ok (.d (.int (mixI c (j : Nat)))))
include h13
theorem turningG_fin {w : Wood} (hw : WoodOk w) : ∃ t os, t.wood = w ∧ TnDrawn t os ∧ finR (bTurningG f12 f13 f17 f18 (envOf 12 [SC, encWd w, NS])) = .ok (.d (encTn t)) := by
  have he : envOf 12 [SC, encWd w, NS] = [some (.d SC), some (.d (encWd w)), some (.d NS), none, none, none, none, none, none, none, none, none, none, none, none] := rfl
  rw [he]
  have iw : itD (encWd w) = .ok (w.map encKd) := rfl
  have lc3 : eLc (eB (eVar 1) itD) (gtTup 2 (gtCons (gtName 4) (gtCons (gtName 5) gtNil))) cYes (eM (eVar 4) Ow.d) (List.map (·.2) ([("_law_kind", 4), ("_law_rows", 5)] : List (Str × Nat))) [some (.d SC), some (.d (encWd w)), some (.d NS), none, none, none, none, none, none, none, none, none, none, none, none] = .ok (.l (w.map fun p => .d (.str p.1))) := by
    refine eLc_of (ds := w.map encKd) (by generalize encWd w = W at iw; simp [iw]) (by rw [List.length_map, sizeLine_eq]; have := hw.some; omega) (lcR_map encKd _ w fun p _ => ⟨[some (.d SC), some (.d (encWd w)), some (.d NS), none, some (.d (.str p.1)), some (.d (rwsD p.2)), none, none, none, none, none, none, none, none, none], by
      rw [encKd_tup]
      generalize encWd w = W
      generalize rwsD p.2 = RW
      simp [wipeE], rfl, by simp⟩)
  have v3 : viewD (.l (w.map fun p => .d (.str p.1))) = osD (w.map (·.1)) := by rw [← kd_os]; exact viewD_of _ _
  refine (show ∃ t os, t.wood = w ∧ TnDrawn t os ∧ finR (sSeq _ _ _) = _ from ?_)
  have wl : 0 < (w.map (·.1)).length := by rw [List.length_map]; have := hw.some; omega
  have kl := os_len (w.map (·.1))
  have k0 := os_ix (os := w.map (·.1)) wl
  -- owners
  obtain ⟨r, hr, rl⟩ := emod_nat (c := cell 3) (n := 4) (by decide)
  change cell 3 % 4 = _ at hr
  have g4 : gMod (.int (cell 3)) (.int 4) = some (.int (r : Nat)) := by rw [gMod_int (by decide), hr]
  have e3 := h12 3
  have pick : ∀ i : Nat, i < r → ∃ z : Str, z ∈ w.map (·.1) ∧ ∀ x4 x5 x7 x9 x10 x11 x12 x13 x14 : Option Ow, (eM (eBin gIx (eVar 3) (eBin gMod (eM (eB (aCons (eVar 6) (aCons (eVar 8) aNil)) f13) viewD) (eM (eCa gLen (aCons (eVar 3) aNil)) viewD))) Ow.d) [some (.d SC), some (.d (encWd w)), some (.d NS), some (.d (osD (w.map (·.1)))), x4, x5, some (.d (.int (cell 3))), x7, some (.d (.int (i : Nat))), x9, x10, x11, x12, x13, x14] = .ok (.d (.str z)) := fun i hi => by
    have m := h13 (cell 3) i (by omega)
    obtain ⟨q, hq, ql⟩ := emod_nat (c := mixI (cell 3) (i : Nat)) (n := (w.map (·.1)).length) wl
    have gm : gMod (.int (mixI (cell 3) (i : Nat))) (.int ((w.map (·.1)).length : Nat)) = some (.int (q : Nat)) := by rw [gMod_int (by omega), hq]
    have ix := os_ix ql
    have kl2 := kl
    rw [List.length_map] at gm kl2
    refine ⟨(w.map (·.1)).getD q ("" : Str), by rw [List.getD_eq_getElem?_getD, List.getElem?_eq_getElem ql]; exact List.getElem_mem ql, fun x4 x5 x7 x9 x10 x11 x12 x13 x14 => ?_⟩
    generalize (w.map (·.1)).getD q ("" : Str) = z at ix
    generalize osD (w.map (·.1)) = KD at kl2 ix
    generalize encWd w = W
    generalize mixI (cell 3) (i : Nat) = MI at m gm
    simp [m, kl2, gm, ix]
  obtain ⟨g, hg⟩ := choose_below (α := Str) (n := r) (P := fun i z => z ∈ w.map (·.1) ∧ ∀ x4 x5 x7 x9 x10 x11 x12 x13 x14 : Option Ow, (eM (eBin gIx (eVar 3) (eBin gMod (eM (eB (aCons (eVar 6) (aCons (eVar 8) aNil)) f13) viewD) (eM (eCa gLen (aCons (eVar 3) aNil)) viewD))) Ow.d) [some (.d SC), some (.d (encWd w)), some (.d NS), some (.d (osD (w.map (·.1)))), x4, x5, some (.d (.int (cell 3))), x7, some (.d (.int (i : Nat))), x9, x10, x11, x12, x13, x14] = .ok (.d (.str z))) pick
  obtain ⟨os, hos⟩ : ∃ os, os = (w.map (·.1)).getD 0 ("" : Str) :: (List.range r).map g := ⟨_, rfl⟩
  have osl : os.length = r + 1 := by rw [hos, List.length_cons, List.length_map, List.length_range]
  have osk : ∀ z ∈ os, z ∈ w.map (·.1) := fun z hz => by
    rw [hos] at hz
    rcases List.mem_cons.mp hz with rfl | hz
    · rw [List.getD_eq_getElem?_getD, List.getElem?_eq_getElem wl]; exact List.getElem_mem wl
    · obtain ⟨i, hi, rfl⟩ := List.mem_map.mp hz
      exact (hg i (List.mem_range.mp hi)).1
  have lc7 : eLc (eB (aCons (eBin gMod (eVar 6) (eC (.int 4))) aNil) rg1) (gtName 8) cYes (eM (eBin gIx (eVar 3) (eBin gMod (eM (eB (aCons (eVar 6) (aCons (eVar 8) aNil)) f13) viewD) (eM (eCa gLen (aCons (eVar 3) aNil)) viewD))) Ow.d) (List.map (·.2) ([("_law_i", 8)] : List (Str × Nat))) [some (.d SC), some (.d (encWd w)), some (.d NS), some (.d (osD (w.map (·.1)))), none, none, some (.d (.int (cell 3))), none, none, none, none, none, none, none, none] = .ok (.l ((List.range r).map fun i => .d (.str (g i)))) := by
    refine eLc_of (ds := (List.range r).map fun k : Nat => PyData.int (k : Nat)) (by
      have rg := rg1_nat r (by omega)
      rw [rangeD_map] at rg
      generalize osD (w.map (·.1)) = KD
      generalize encWd w = W
      simp [g4, rg]) (by rw [List.length_map, List.length_range, sizeLine_eq]; omega) (lcR_map _ _ (List.range r) fun i hi => ?_)
    refine ⟨[some (.d SC), some (.d (encWd w)), some (.d NS), some (.d (osD (w.map (·.1)))), none, none, some (.d (.int (cell 3))), none, some (.d (.int (i : Nat))), none, none, none, none, none, none], by
      generalize osD (w.map (·.1)) = KD
      generalize encWd w = W
      simp [wipeE], rfl, (hg i (List.mem_range.mp hi)).2 _ _ _ _ _ _ _ _ _⟩
  have sh7 : shD (.l ((List.range r).map fun i => .d (.str (g i)))) = .ok (.list ((List.range r).map fun i => .str (g i))) := unDs_of (fun i => PyData.str (g i)) _
  have ad7 : gAdd (.list [.str ((w.map (·.1)).getD 0 ("" : Str))]) (.list ((List.range r).map fun i => .str (g i))) = some (.l ((os.map PyData.str).map Ow.d)) := by
    rw [gAdd_lst (by rw [List.length_map, List.length_range, sizeLine_eq]; simp; omega), hos, List.map_cons, List.map_map]
    rfl
  have v7 : viewD (.l ((os.map PyData.str).map Ow.d)) = osD os := vw_ls _
  -- the start
  obtain ⟨S, hS, eS⟩ := h17 (cell 2) (clsOf [(w.map (·.1)).getD 0 ("" : Str)] os) false
  have c2 := h12 2
  have cl := h18 (osD [(w.map (·.1)).getD 0 ("" : Str)]) [(w.map (·.1)).getD 0 ("" : Str)] os (isBr_lst _) (by simp) (by omega)
  have vcl : viewD (.l ((clsOf [(w.map (·.1)).getD 0 ("" : Str)] os).map fun c => .d (encC c))) = csD (clsOf [(w.map (·.1)).getD 0 ("" : Str)] os) := viewD_of encC _
  have k1 : viewD (.l [.d (.str ((w.map (·.1)).getD 0 ("" : Str)))]) = osD [(w.map (·.1)).getD 0 ("" : Str)] := vw_ls [_]
  have k1s : shD (.l [.d (.str ((w.map (·.1)).getD 0 ("" : Str)))]) = .ok (.list [.str ((w.map (·.1)).getD 0 ("" : Str))]) := shl1 _
  -- the modes
  obtain ⟨env', e1, ms, u', x4, x11, x12, x13, e2, m1, m2⟩ := forL_map (g := gtName 4) (f := tnModeG f12 f17 f18) PyData.str os
    (fun i env => ∃ (ms : List (Str × List Trm)) (u' : Nat) (x4 x11 x12 x13 : Option Ow), env = [some (.d SC), some (.d (encWd w)), some (.d NS), some (.d (osD (w.map (·.1)))), x4, none, some (.d (.int (cell 3))), some (.d (osD os)), none, some (.l (ms.map fun p => .d (encMo p))), some (.d (.int (u' : Nat))), x11, x12, x13, none] ∧ ms.length = i ∧ ∀ (m : Nat) (p : Str × List Trm), ms[m]? = some p → p.1 = os.getD m "" ∧ p.2.length = (rowsOf w p.1).length ∧ ∀ (i : Nat) (row : Rw) (T : Trm), (rowsOf w p.1)[i]? = some row → p.2[i]? = some T → DrawnM (clsOf row.br os) 2 T) (fun i k env hi ⟨ms, u', x4, x11, x12, x13, e, l1, l2⟩ => by
      subst e
      obtain ⟨rls, q1, q2, u2, y11, y12, y13, q⟩ := tnModeG_ok h12 h17 h18 hw (os := os) (by omega) (osk k (List.mem_of_getElem? hi)) (osD (w.map (·.1))) u' (ms.map fun p => .d (encMo p)) (by have := (List.getElem?_eq_some_iff.mp hi).1; rw [List.length_map]; omega) none (some (.d (.int (cell 3)))) none x11 x12 x13 none
      refine ⟨[some (.d SC), some (.d (encWd w)), some (.d NS), some (.d (osD (w.map (·.1)))), some (.d (.str k)), none, some (.d (.int (cell 3))), some (.d (osD os)), none, some (.l (ms.map fun p => .d (encMo p))), some (.d (.int (u' : Nat))), x11, x12, x13, none], rfl, _, .inl q, ms ++ [(k, rls)], u2, some (.d (.str k)), y11, y12, y13, by rw [List.map_append]; rfl, by rw [List.length_append]; simp; omega, fun m p hp => ?_⟩
      by_cases c : m < ms.length
      · rw [List.getElem?_append_left c] at hp
        exact l2 m p hp
      · have jl := (List.getElem?_eq_some_iff.mp hp).1
        rw [List.length_append, List.length_singleton] at jl
        have : m = ms.length := by omega
        subst this
        rw [List.getElem?_append_right (Nat.le_refl _), Nat.sub_self] at hp
        cases hp
        refine ⟨?_, q1, q2⟩
        rw [l1, List.getD_eq_getElem?_getD, hi]
        rfl) [some (.d SC), some (.d (encWd w)), some (.d NS), some (.d (osD (w.map (·.1)))), none, none, some (.d (.int (cell 3))), some (.d (osD os)), none, some (.l []), some (.d (.int ((4 : Nat) : Int))), none, none, none, none] ⟨[], 4, none, none, none, none, rfl, rfl, fun m p h => by simp at h⟩
  subst e2
  refine ⟨⟨w, S, ms⟩, os, rfl, ⟨by omega, osk, m1, m2, hS⟩, ?_⟩
  refine fin_step (env1 := [some (.d SC), some (.d (encWd w)), some (.d NS), some (.d (osD (w.map (·.1)))), none, none, none, none, none, none, none, none, none, none, none]) (by
    rw [sSet_eq, eM_eq, eM_eq]
    refine (congrArg (fun r => R.st _ (R.map Ow.d (R.map viewD r)) _) lc3).trans ?_
    rw [R.map_ok, R.map_ok, v3, R.st_ok]
    rfl) ?_
  refine fin_step (env1 := [some (.d SC), some (.d (encWd w)), some (.d NS), some (.d (osD (w.map (·.1)))), none, none, some (.d (.int (cell 3))), none, none, none, none, none, none, none, none]) (by
    change f12 [SC, .int 3] = _ at e3
    generalize osD (w.map (·.1)) = KD
    generalize encWd w = W
    simp [e3]) ?_
  refine fin_step (env1 := [some (.d SC), some (.d (encWd w)), some (.d NS), some (.d (osD (w.map (·.1)))), none, none, some (.d (.int (cell 3))), some (.d (osD os)), none, none, none, none, none, none, none]) (by
    have a : (eB (eLst (aCons (eBin gIx (eVar 3) (eC (.int 0))) aNil)) shD) [some (.d SC), some (.d (encWd w)), some (.d NS), some (.d (osD (w.map (·.1)))), none, none, some (.d (.int (cell 3))), none, none, none, none, none, none, none, none] = .ok (.list [.str ((w.map (·.1)).getD 0 ("" : Str))]) := by
      change gIx (osD (w.map (·.1))) (.int 0) = _ at k0
      generalize (w.map (·.1)).getD 0 ("" : Str) = z at k0 k1s
      generalize osD (w.map (·.1)) = KD at k0
      generalize encWd w = W
      simp [k0, shl1, sizeLine_eq]
    have b : (eB (eLc (eB (aCons (eBin gMod (eVar 6) (eC (.int 4))) aNil) rg1) (gtName 8) cYes (eM (eBin gIx (eVar 3) (eBin gMod (eM (eB (aCons (eVar 6) (aCons (eVar 8) aNil)) f13) viewD) (eM (eCa gLen (aCons (eVar 3) aNil)) viewD))) Ow.d) (List.map (·.2) ([("_law_i", 8)] : List (Str × Nat)))) shD) [some (.d SC), some (.d (encWd w)), some (.d NS), some (.d (osD (w.map (·.1)))), none, none, some (.d (.int (cell 3))), none, none, none, none, none, none, none, none] = .ok (.list ((List.range r).map fun i => .str (g i))) := by
      rw [eB_eq, lc7, R.bind_ok, sh7]
    rw [sSet_eq, eM_eq, eM_eq, eBinO_eq, a, R.bind_ok, b, R.bind_ok, ad7]
    show R.st _ (.ok (Ow.d (viewD _))) _ = _
    rw [v7, R.st_ok]
    rfl) ?_
  refine fin_step (env1 := [some (.d SC), some (.d (encWd w)), some (.d NS), some (.d (osD (w.map (·.1)))), none, none, some (.d (.int (cell 3))), some (.d (osD os)), none, some (.l []), none, none, none, none, none]) (by
    generalize osD (w.map (·.1)) = KD
    generalize osD os = OD
    generalize encWd w = W
    simp [sizeLine_eq]) ?_
  refine fin_step (env1 := [some (.d SC), some (.d (encWd w)), some (.d NS), some (.d (osD (w.map (·.1)))), none, none, some (.d (.int (cell 3))), some (.d (osD os)), none, some (.l []), some (.d (.int ((4 : Nat) : Int))), none, none, none, none]) (by
    generalize osD (w.map (·.1)) = KD
    generalize osD os = OD
    generalize encWd w = W
    simp) ?_
  refine fin_step (env1 := [some (.d SC), some (.d (encWd w)), some (.d NS), some (.d (osD (w.map (·.1)))), x4, none, some (.d (.int (cell 3))), some (.d (osD os)), none, some (.l (ms.map fun p => .d (encMo p))), some (.d (.int (u' : Nat))), x11, x12, x13, none]) (by
    have it : (eB (eVar 7) itD) [some (.d SC), some (.d (encWd w)), some (.d NS), some (.d (osD (w.map (·.1)))), none, none, some (.d (.int (cell 3))), some (.d (osD os)), none, some (.l []), some (.d (.int ((4 : Nat) : Int))), none, none, none, none] = .ok (os.map PyData.str) := by
      have i2 : itD (osD os) = .ok (os.map PyData.str) := rfl
      generalize osD (w.map (·.1)) = KD
      generalize osD os = OD at i2
      generalize encWd w = W
      simp [i2]
    rw [sFor_eq, it, R.st_ok, e1]) ?_
  refine fin_step (env1 := [some (.d SC), some (.d (encWd w)), some (.d NS), some (.d (osD (w.map (·.1)))), x4, none, some (.d (.int (cell 3))), some (.d (osD os)), none, some (.l (ms.map fun p => .d (encMo p))), some (.d (.int (u' : Nat))), x11, x12, x13, some (.d (encM S))]) (by
    change f12 [SC, .int 2] = _ at c2
    change gIx (osD (w.map (·.1))) (.int 0) = _ at k0
    generalize csD (clsOf [(w.map (·.1)).getD 0 ("" : Str)] os) = CS at vcl eS
    generalize Ow.l ((clsOf [(w.map (·.1)).getD 0 ("" : Str)] os).map fun c => .d (encC c)) = CO at vcl cl
    generalize osD [(w.map (·.1)).getD 0 ("" : Str)] = K1 at cl k1
    generalize (w.map (·.1)).getD 0 ("" : Str) = z at k0 k1
    generalize osD (w.map (·.1)) = KD at k0
    generalize osD os = OD at cl
    generalize encWd w = W
    generalize ms.map (fun p => Ow.d (encMo p)) = MO
    generalize encM S = SM at eS
    simp [c2, k0, k1, cl, vcl, eS, sizeLine_eq]) ?_
  have vm : viewD (.l (ms.map fun p => .d (encMo p))) = moD ms := viewD_of encMo ms
  have fz : frzV 9 [some (.d SC), some (.d (encWd w)), some (.d NS), some (.d (osD (w.map (·.1)))), x4, none, some (.d (.int (cell 3))), some (.d (osD os)), none, some (.l (ms.map fun p => .d (encMo p))), some (.d (.int (u' : Nat))), x11, x12, x13, some (.d (encM S))] = [some (.d SC), some (.d (encWd w)), some (.d NS), some (.d (osD (w.map (·.1)))), x4, none, some (.d (.int (cell 3))), some (.d (osD os)), none, some (.d (moD ms)), some (.d (.int (u' : Nat))), x11, x12, x13, some (.d (encM S))] := by
    rw [← vm]
    rfl
  show finR (sRet _ (frzV 9 _)) = _
  rw [fz]
  have et : encTn ⟨w, S, ms⟩ = .tuple [encWd w, encM S, moD ms] := rfl
  rw [et]
  generalize osD (w.map (·.1)) = KD
  generalize osD os = OD
  generalize encWd w = W
  generalize moD ms = MD
  generalize encM S = SM
  simp [sizeLine_eq]
end
end
end Mir
set_option Elab.async false
set_option linter.all false
set_option maxRecDepth 100000
set_option maxHeartbeats 4000000
namespace Mir
open PySem PySem.Spec L2
structure Nd where
  kind : Str
  lev : Nat
  row : Option Rw
  mark : Int
  kids : List Nat
def rowD : Option Rw → D
  | none => .none
  | some r => encRw r
def ndF (n : Nd) : List Ow := [.d (.str n.kind), .d (.int (n.lev : Nat)), .d (rowD n.row), .d (.int n.mark), .l (n.kids.map fun j : Nat => .d (.int (j : Nat)))]
def encNd (n : Nd) : Ow := .l (ndF n)
structure NdOk (w : Wood) (top : Nat) (ns : List Nd) (i : Nat) (n : Nd) : Prop where
  kind : n.kind ∈ w.map (·.1)
  lev : 1 ≤ n.lev ∧ n.lev ≤ top
  mark : small250 n.mark
  bare : n.row = none → n.kids = []
  full : ∀ r, n.row = some r → r ∈ rowsOf w n.kind ∧ r.br ≠ [] ∧ n.kids.length = r.br.length ∧ ∀ (j k : Nat), n.kids[j]? = some k → i < k ∧ ∃ c, ns[k]? = some c ∧ r.br[j]? = some c.kind ∧ c.lev = n.lev + 1
structure GInv (w : Wood) (top : Nat) (ns : List Nd) (bare : List Nat) : Prop where
  root : ∃ n0, ns[0]? = some n0 ∧ n0.kind = (w.map (·.1)).getD 0 ("" : Str)
  each : ∀ (i : Nat) (n : Nd), ns[i]? = some n → NdOk w top ns i n
  bnd : bare.Nodup
  bare : ∀ b ∈ bare, ∃ n, ns[b]? = some n ∧ n.row = none
/-- a node's mark changed; fewer bare ones -/
theorem GInv.marked {w : Wood} {top : Nat} {ns : List Nd} {bare bare' : List Nat} (h : GInv w top ns bare) {s : Nat} {n : Nd} (hs : ns[s]? = some n) {x : Int} (hx : small250 x) (hb : bare'.Sublist bare) : GInv w top (ns.set s { n with mark := x }) bare' := by
  have sl := (List.getElem?_eq_some_iff.mp hs).1
  have look : ∀ (k : Nat) (c : Nd), ns[k]? = some c → ∃ c', (ns.set s { n with mark := x })[k]? = some c' ∧ c'.kind = c.kind ∧ c'.lev = c.lev ∧ c'.row = c.row := fun k c hc => by
    by_cases e : s = k
    · subst e
      rw [hs] at hc
      cases hc
      exact ⟨_, List.getElem?_set_self sl, rfl, rfl, rfl⟩
    · exact ⟨c, by rw [List.getElem?_set_ne e]; exact hc, rfl, rfl, rfl⟩
  have low : ∀ (i : Nat) (m : Nd), ns[i]? = some m → NdOk w top (ns.set s { n with mark := x }) i m := fun i m hm => by
    have q := h.each i m hm
    refine ⟨q.kind, q.lev, q.mark, q.bare, fun r hr => ?_⟩
    obtain ⟨a, b, c, d⟩ := q.full r hr
    refine ⟨a, b, c, fun j k hk => ?_⟩
    obtain ⟨ik, c, c1, c2, c3⟩ := d j k hk
    obtain ⟨c', d1, d2, d3, _⟩ := look k c c1
    exact ⟨ik, c', d1, by rw [d2]; exact c2, by rw [d3]; exact c3⟩
  refine ⟨?_, fun i m hm => ?_, hb.nodup h.bnd, fun b hbb => ?_⟩
  · obtain ⟨n0, a, b⟩ := h.root
    obtain ⟨c', d1, d2, _⟩ := look 0 n0 a
    exact ⟨c', d1, by rw [d2]; exact b⟩
  · by_cases e : s = i
    · subst e
      rw [List.getElem?_set_self sl] at hm
      cases hm
      have q := low s n hs
      exact ⟨q.kind, q.lev, hx, q.bare, q.full⟩
    · rw [List.getElem?_set_ne e] at hm
      exact low i m hm
  · obtain ⟨m, a, c⟩ := h.bare b (hb.subset hbb)
    obtain ⟨c', d1, _, _, d4⟩ := look b m a
    exact ⟨c', d1, by rw [d4]; exact c⟩
/-- a bare node grown by a row -/
theorem GInv.grow {w : Wood} {top : Nat} {ns : List Nd} {bare bare' : List Nat} (h : GInv w top ns bare) {s : Nat} {n : Nd} (hs : ns[s]? = some n) (hn : n.row = none) (hb : bare'.Sublist bare) (hsb : s ∉ bare') {r : Rw} (hr : r ∈ rowsOf w n.kind) (hw : ∀ z ∈ r.br, z ∈ w.map (·.1)) (hne : r.br ≠ []) (hl : n.lev < top) {x : Int} (hx : small250 x) {cs : List Nd} (hc : cs.length = r.br.length)
    (he : ∀ (i : Nat) (c : Nd), cs[i]? = some c → r.br[i]? = some c.kind ∧ c.lev = n.lev + 1 ∧ c.row = none ∧ c.kids = [] ∧ small250 c.mark) :
    GInv w top (ns.set s { n with row := some r, kids := (List.range r.br.length).map fun j => ns.length + j, mark := x } ++ cs) (bare' ++ (List.range r.br.length).map fun j => ns.length + j) := by
  have sl := (List.getElem?_eq_some_iff.mp hs).1
  obtain ⟨N', hN'⟩ : ∃ N' : Nd, N' = { n with row := some r, kids := (List.range r.br.length).map fun j => ns.length + j, mark := x } := ⟨_, rfl⟩
  rw [← hN']
  have ll : (ns.set s N').length = ns.length := List.length_set
  have look : ∀ (k : Nat) (c : Nd), ns[k]? = some c → ∃ c', (ns.set s N' ++ cs)[k]? = some c' ∧ c'.kind = c.kind ∧ c'.lev = c.lev ∧ (s ≠ k → c' = c) := fun k c hcc => by
    have kl := (List.getElem?_eq_some_iff.mp hcc).1
    rw [List.getElem?_append_left (by rw [ll]; exact kl)]
    by_cases e : s = k
    · subst e
      rw [hs] at hcc
      cases hcc
      exact ⟨_, List.getElem?_set_self sl, by rw [hN'], by rw [hN'], fun q => absurd rfl q⟩
    · exact ⟨c, by rw [List.getElem?_set_ne e]; exact hcc, rfl, rfl, fun _ => rfl⟩
  have new : ∀ (i : Nat) (c : Nd), cs[i]? = some c → (ns.set s N' ++ cs)[ns.length + i]? = some c := fun i c hcc => by
    rw [List.getElem?_append_right (by rw [ll]; omega), ll, Nat.add_sub_cancel_left]
    exact hcc
  refine ⟨?_, fun i m hm => ?_, ?_, fun b hbb => ?_⟩
  · obtain ⟨n0, a, b⟩ := h.root
    obtain ⟨c', d1, d2, _⟩ := look 0 n0 a
    exact ⟨c', d1, by rw [d2]; exact b⟩
  · by_cases il : i < ns.length
    · by_cases e : s = i
      · subst e
        rw [List.getElem?_append_left (by rw [ll]; exact il), List.getElem?_set_self sl] at hm
        cases hm
        have q := h.each s n hs
        rw [hN']
        refine ⟨q.kind, q.lev, hx, (fun z => by cases z), fun r' hr' => ?_⟩
        cases hr'
        refine ⟨hr, hne, by rw [List.length_map, List.length_range], fun j k hk => ?_⟩
        have hk' : ((List.range r.br.length).map fun j => ns.length + j)[j]? = some k := hk
        rw [List.getElem?_map] at hk'
        cases hj : (List.range r.br.length)[j]? with
        | none => rw [hj] at hk'; cases hk'
        | some j' =>
          rw [hj] at hk'
          obtain ⟨jl, je⟩ := List.getElem?_eq_some_iff.mp hj
          rw [List.length_range] at jl
          rw [List.getElem_range] at je
          subst je
          have ek : ns.length + j = k := Option.some.inj hk'
          subst ek
          have cj := List.getElem?_eq_getElem (l := cs) (i := j) (by omega)
          obtain ⟨e1, e2, _⟩ := he j _ cj
          rw [← hN']
          exact ⟨by omega, _, new j _ cj, e1, by rw [hN']; exact e2⟩
      · rw [List.getElem?_append_left (by rw [ll]; exact il), List.getElem?_set_ne e] at hm
        have q := h.each i m hm
        refine ⟨q.kind, q.lev, q.mark, q.bare, fun r' hr' => ?_⟩
        obtain ⟨a, b, c, d⟩ := q.full r' hr'
        refine ⟨a, b, c, fun j k hk => ?_⟩
        obtain ⟨ik, c, c1, c2, c3⟩ := d j k hk
        obtain ⟨c', d1, d2, d3, _⟩ := look k c c1
        exact ⟨ik, c', d1, by rw [d2]; exact c2, by rw [d3]; exact c3⟩
    · rw [List.getElem?_append_right (by rw [ll]; omega), ll] at hm
      obtain ⟨e1, e2, e3, e4, e5⟩ := he _ m hm
      have q := h.each s n hs
      refine ⟨hw _ (List.mem_of_getElem? e1), ⟨by rw [e2]; omega, by rw [e2]; omega⟩, e5, fun _ => e4, fun r' hr' => by rw [e3] at hr'; cases hr'⟩
  · rw [List.nodup_append]
    refine ⟨hb.nodup h.bnd, ?_, fun a ha b hb2 e => ?_⟩
    · rw [List.nodup_iff_pairwise_ne, List.pairwise_map]
      exact List.pairwise_lt_range.imp fun {a b} q => by omega
    · subst e
      obtain ⟨m, hm, _⟩ := h.bare a (hb.subset ha)
      have := (List.getElem?_eq_some_iff.mp hm).1
      obtain ⟨j, _, ej⟩ := List.mem_map.mp hb2
      omega
  · rcases List.mem_append.mp hbb with z | z
    · obtain ⟨m, a, c⟩ := h.bare b (hb.subset z)
      obtain ⟨c', d1, _, _, d4⟩ := look b m a
      have : s ≠ b := fun e => hsb (e ▸ z)
      exact ⟨c', d1, by rw [d4 this]; exact c⟩
    · obtain ⟨j, hj, rfl⟩ := List.mem_map.mp z
      rw [List.mem_range] at hj
      have cj := List.getElem?_eq_getElem (l := cs) (i := j) (by omega)
      obtain ⟨_, _, e3, _⟩ := he j _ cj
      exact ⟨_, new j _ cj, e3⟩
noncomputable section
def ndsO (ns : List Nd) : Ow := .l (ns.map encNd)
theorem nds_ix {ns : List Nd} {s : Nat} {n : Nd} (hs : ns[s]? = some n) : ixO (ndsO ns) (.int (s : Nat)) = .ok (encNd n) := by
  unfold ndsO
  rw [ixO_l, atI_natD (by rw [List.getElem?_map, hs]; rfl)]
theorem nd_ix0 (n : Nd) : ixO (encNd n) (.int 0) = .ok (.d (.str n.kind)) := by unfold encNd ndF; simp
theorem nd_ix1 (n : Nd) : ixO (encNd n) (.int 1) = .ok (.d (.int (n.lev : Nat))) := by unfold encNd ndF; simp
theorem nd_ix2 (n : Nd) : ixO (encNd n) (.int 2) = .ok (.d (rowD n.row)) := by unfold encNd ndF; simp
theorem own1_nds {i : Nat} {g : Ev → R D} {env : Ev} {ns : List Nd} {s : Nat} {n : Nd} {c : List Ow → Nat → List Ow → SR} (h0 : env[i]? = some (some (ndsO ns))) (hg : g env = .ok (.int (s : Nat))) (hs : ns[s]? = some n) : own1 i g env c = c (ns.map encNd) s (ndF n) := by
  have sl := (List.getElem?_eq_some_iff.mp hs).1
  unfold own1
  rw [ownL_of (os := ns.map encNd) env h0, hg, R.st_ok]
  have e1 : ixN (ns.map encNd).length ((s : Nat) : Int) = some s := ixN_nat (by rw [List.length_map]; exact sl)
  have e2 : (ns.map encNd)[s]? = some (.l (ndF n)) := by rw [List.getElem?_map, hs]; rfl
  show (match ixN (ns.map encNd).length ((s : Nat) : Int) with
    | some j => match (ns.map encNd)[j]? with
      | some (.l os1) => c (ns.map encNd) j os1
      | _ => .no
    | none => .no) = _
  rw [e1]
  simp only
  rw [e2]
theorem put1_row {i : Nat} {g : Ev → R D} {f : Ev → R Ow} {env : Ev} {ns : List Nd} {s : Nat} {n : Nd} {r : Rw} (h0 : env[i]? = some (some (ndsO ns))) (hg : g env = .ok (.int (s : Nat))) (hs : ns[s]? = some n) (hf : f env = .ok (.d (encRw r))) : sPut1 i g (eC (.int 2)) f env = .nx (env.set i (some (ndsO (ns.set s { n with row := some r })))) := by
  unfold sPut1
  rw [hf, R.st_ok, own1_nds h0 hg hs, eC_eq, R.st_ok]
  have e5 : ixN (ndF n).length 2 = some 2 := ixN_nat (k := 2) (by unfold ndF; simp)
  show (match ixN (ndF n).length 2 with
    | some l => SR.nx (env.set i (some (.l ((ns.map encNd).set s (.l ((ndF n).set l (.d (encRw r))))))))
    | none => .no) = _
  rw [e5]
  unfold ndsO
  rw [List.map_set]
  rfl
theorem put1_mark {i : Nat} {g : Ev → R D} {f : Ev → R Ow} {env : Ev} {ns : List Nd} {s : Nat} {n : Nd} {x : Int} (h0 : env[i]? = some (some (ndsO ns))) (hg : g env = .ok (.int (s : Nat))) (hs : ns[s]? = some n) (hf : f env = .ok (.d (.int x))) : sPut1 i g (eC (.int 3)) f env = .nx (env.set i (some (ndsO (ns.set s { n with mark := x })))) := by
  unfold sPut1
  rw [hf, R.st_ok, own1_nds h0 hg hs, eC_eq, R.st_ok]
  have e5 : ixN (ndF n).length 3 = some 3 := ixN_nat (k := 3) (by unfold ndF; simp)
  show (match ixN (ndF n).length 3 with
    | some l => SR.nx (env.set i (some (.l ((ns.map encNd).set s (.l ((ndF n).set l (.d (.int x))))))))
    | none => .no) = _
  rw [e5]
  unfold ndsO
  rw [List.map_set]
  rfl
theorem app2_kid {i : Nat} {g : Ev → R D} {f : Ev → R Ow} {env : Ev} {ns : List Nd} {s k : Nat} {n : Nd} (h0 : env[i]? = some (some (ndsO ns))) (hg : g env = .ok (.int (s : Nat))) (hs : ns[s]? = some n) (hf : f env = .ok (.d (.int (k : Nat)))) (hl : n.kids.length < 1000) : sApp2 i g (eC (.int 4)) f env = .nx (env.set i (some (ndsO (ns.set s { n with kids := n.kids ++ [k] })))) := by
  unfold sApp2 own2
  rw [own1_nds h0 hg hs, eC_eq, R.st_ok]
  have e5 : ixN (ndF n).length 4 = some 4 := ixN_nat (k := 4) (by unfold ndF; simp)
  have e6 : (ndF n)[4]? = some (.l (n.kids.map fun j : Nat => .d (.int (j : Nat)))) := rfl
  have ll : (n.kids.map fun j : Nat => Ow.d (.int (j : Nat))).length < sizeLine := by rw [List.length_map, sizeLine_eq]; omega
  show (match ixN (ndF n).length 4 with
    | some l => match (ndF n)[l]? with
      | some (.l os2) => (f env).st env fun r => if os2.length < sizeLine then SR.nx (env.set i (some (.l ((ns.map encNd).set s (.l ((ndF n).set l (.l (os2 ++ [r])))))))) else .no
      | _ => .no
    | none => .no) = _
  rw [e5]
  simp only
  rw [e6]
  simp only
  rw [hf, R.st_ok, if_pos ll]
  unfold ndsO
  rw [List.map_set]
  have : encNd { n with kids := n.kids ++ [k] } = .l ((ndF n).set 4 (.l ((n.kids.map fun j : Nat => .d (.int (j : Nat))) ++ [.d (.int (k : Nat))]))) := by unfold encNd ndF; rw [List.map_append]; rfl
  rw [this]
theorem app_nd {i : Nat} {f : Ev → R Ow} {env : Ev} {ns : List Nd} {n : Nd} (h0 : env[i]? = some (some (ndsO ns))) (hf : f env = .ok (encNd n)) (hl : ns.length < 1000) : sApp i f env = .nx (env.set i (some (ndsO (ns ++ [n])))) := by
  rw [sApp_eq, ownL_of (os := ns.map encNd) env h0, hf, R.st_ok, if_pos (by rw [List.length_map, sizeLine_eq]; omega)]
  unfold ndsO
  rw [List.map_append]
  rfl
theorem mergeD_new : ∀ (ps : List (Str × D)) (acc : List (D × D)), (ps.map (·.1)).Nodup → (∀ p ∈ ps, ∀ q ∈ acc, keyEq q.1 (.str p.1) = false) → mergeD acc ps = acc ++ ps.map fun p => (PyData.str p.1, p.2)
  | [], acc, _, _ => by rw [List.map_nil, List.append_nil]; rfl
  | p :: ps, acc, hn, hd => by
    rw [List.map_cons, List.nodup_cons] at hn
    have e : mergeD acc (p :: ps) = mergeD (putP acc (.str p.1) p.2) ps := rfl
    have pe : putP acc (.str p.1) p.2 = acc ++ [(.str p.1, p.2)] := by
      unfold putP
      have : (acc.any fun q => keyEq q.1 (.str p.1)) = false := by
        rw [List.any_eq_false]
        intro q hq
        rw [hd p List.mem_cons_self q hq]
        decide
      rw [this, if_neg (by decide)]
    rw [e, pe, mergeD_new ps _ hn.2 fun q hq z hz => ?_, List.append_assoc]
    · rfl
    · rcases List.mem_append.mp hz with h | h
      · exact hd q (List.mem_cons_of_mem _ hq) z h
      · rw [List.mem_singleton.mp h]
        show (p.1 == q.1) = false
        rw [beq_eq_false_iff_ne]
        intro e
        exact hn.1 (e ▸ List.mem_map.mpr ⟨q, hq, rfl⟩)
theorem find_prs : ∀ (w : Wood), (w.map (·.1)).Nodup → ∀ p ∈ w, getP ((prsOf w).map fun q => (PyData.str q.1, q.2)) (.str p.1) = some (rwsD p.2)
  | [], _, p, hp => by cases hp
  | q :: w, hn, p, hp => by
    rw [List.map_cons, List.nodup_cons] at hn
    unfold getP
    show ((((PyData.str q.1, rwsD q.2) :: ((prsOf w).map fun q => (PyData.str q.1, q.2))) : List (D × D)).find? fun z => keyEq z.1 (.str p.1)).map (·.2) = _
    rw [List.find?_cons]
    rcases List.mem_cons.mp hp with rfl | h
    · have : keyEq (PyData.str p.1) (.str p.1) = true := by simp [keyEq]
      rw [show keyEq ((PyData.str p.1, rwsD p.2) : D × D).1 (.str p.1) = true from this]
      rfl
    · have ne : keyEq (PyData.str q.1) (.str p.1) = false := by
        show (q.1 == p.1) = false
        rw [beq_eq_false_iff_ne]
        intro e
        exact hn.1 (e ▸ List.mem_map.mpr ⟨p, h, rfl⟩)
      rw [show keyEq ((PyData.str q.1, rwsD q.2) : D × D).1 (.str p.1) = false from ne]
      exact find_prs w hn.2 p h
theorem wood_get {w : Wood} (hw : WoodOk w) {k : Str} (hk : k ∈ w.map (·.1)) : getP (mergeD [] (prsOf w)) (.str k) = some (rwsD (rowsOf w k)) := by
  obtain ⟨p, hp, rfl⟩ := List.mem_map.mp hk
  rw [mergeD_new (prsOf w) [] (by unfold prsOf; rw [List.map_map]; exact hw.kinds) (fun p _ q hq => by cases hq), List.nil_append, rowsOf_kind hw.kinds hp]
  exact find_prs w hw.kinds p hp
theorem ne_tnil {ds : List D} (h : Nice (.tuple ds)) : gNe (.tuple ds) (.tuple []) = some (.bool (!ds.isEmpty)) := by
  have n0 : Nice (.tuple []) := ⟨rfl, by simp [PyData.depth, PyData.depthAll]⟩
  rw [gNe_nice h n0]
  cases ds with
  | nil => rw [eqv_self n0]; rfl
  | cons d ds => rfl
end
end Mir
set_option Elab.async false
set_option linter.all false
set_option maxRecDepth 100000
set_option maxHeartbeats 4000000
namespace Mir
open PySem PySem.Spec L2
theorem nd_erase {l : List Nat} {i s : Nat} (h : l.Nodup) (hi : l[i]? = some s) : s ∉ l.eraseIdx i := by
  obtain ⟨hl, e⟩ := List.getElem?_eq_some_iff.mp hi
  have a : l = l.take i ++ s :: l.drop (i + 1) := by rw [← e, ← List.drop_eq_getElem_cons hl, List.take_append_drop]
  have b : l.eraseIdx i = l.take i ++ l.drop (i + 1) := List.eraseIdx_eq_take_drop_succ l i
  rw [b]
  rw [a, List.nodup_append] at h
  intro hx
  rcases List.mem_append.mp hx with q | q
  · exact h.2.2 s q s List.mem_cons_self rfl
  · exact (List.nodup_cons.mp h.2.1).1 q
noncomputable section
def bareO (bare : List Nat) : Ow := .l (bare.map fun b : Nat => .d (.int (b : Nat)))
theorem bareO_data (bare : List Nat) : bareO bare = .l ((bare.map fun b : Nat => PyData.int (b : Nat)).map Ow.d) := by unfold bareO; rw [List.map_map]; rfl
theorem shD_bare (bare : List Nat) : shD (bareO bare) = .ok (.list (bare.map fun b : Nat => .int (b : Nat))) := unDs_of (fun b : Nat => PyData.int (b : Nat)) bare
theorem viewD_bare (bare : List Nat) : viewD (bareO bare) = .list (bare.map fun b : Nat => .int (b : Nat)) := viewD_of (fun b : Nat => PyData.int (b : Nat)) bare
theorem nice_nats (bare : List Nat) : Nice (.list (bare.map fun b : Nat => PyData.int (b : Nat))) := nice_list (n := 0) (fun d hd => by
  obtain ⟨i, _, rfl⟩ := List.mem_map.mp hd
  exact ⟨rfl, by rw [PyData.depth]; omega⟩) (by omega)
abbrev gE (W CE : D) (top : Nat) (MD : List (D × D)) (ns : List Nd) (bare : List Nat) (x6 x7 x8 x9 x11 : Option Ow) : Ev := [some (.d W), some (.d CE), some (.d (.int (top : Nat))), some (.m MD), some (ndsO ns), some (bareO bare), x6, x7, x8, x9, none, x11]
abbrev gkBody : Ev → SR := (sSeq (sApp2 4 (eVar 8) (eC (.int 4)) (eM (eLenO (eVarO 4)) Ow.d))
    (sSeq (sApp 5 (eM (eLenO (eVarO 4)) Ow.d))
    (sApp 4 (eLstO (oCons (eM (eVar 11) Ow.d) (oCons (eBinO gAdd (eB (eIxO (eIxO (eVarO 4) (eVar 8)) (eC (.int 1))) shD) (eC (.int 1))) (oCons (eM (eC .none) Ow.d) (oCons (eM (eBin gSub (eBin gMod (eBin gDiv (eVar 7) (eM (eBinO gAdd (eC (.int 3)) (eLenO (eVarO 4))) viewD)) (eC (.int 5))) (eC (.int 2))) Ow.d) (oCons (eLst aNil) oNil)))))))))
theorem len_nds (ns : List Nd) (f : Ev → R Ow) (env : Ev) (h : f env = .ok (ndsO ns)) : eLenO f env = .ok (.int (ns.length : Nat)) := by
  rw [eLenO_eq, h, R.bind_ok]
  unfold ndsO
  simp only [List.length_map]
theorem kid_step (W CE : D) (top : Nat) (MD : List (D × D)) (ns : List Nd) (bare : List Nat) (x6 x9 : Option Ow) (z : Int) (s : Nat) (k : Str) {n : Nd} (hs : ns[s]? = some n) (hl : ns.length < 900) (hb : bare.length < 900) (hk : n.kids.length < 900) :
    gkBody (gE W CE top MD ns bare x6 (some (.d (.int z))) (some (.d (.int (s : Nat)))) x9 (some (.d (.str k)))) = .nx (gE W CE top MD (ns.set s { n with kids := n.kids ++ [ns.length] } ++ [⟨k, n.lev + 1, none, z / (3 + (ns.length : Nat)) % 5 - 2, []⟩]) (bare ++ [ns.length]) x6 (some (.d (.int z))) (some (.d (.int (s : Nat)))) x9 (some (.d (.str k)))) := by
  have sl := (List.getElem?_eq_some_iff.mp hs).1
  refine seq_nx (env1 := gE W CE top MD (ns.set s { n with kids := n.kids ++ [ns.length] }) bare x6 (some (.d (.int z))) (some (.d (.int (s : Nat)))) x9 (some (.d (.str k)))) (by
    refine (app2_kid (ns := ns) (k := ns.length) rfl rfl hs ?_ (by omega)).trans rfl
    rw [eM_eq, len_nds ns (eVarO 4) _ rfl]
    rfl) ?_
  have hs2 : (ns.set s { n with kids := n.kids ++ [ns.length] })[s]? = some { n with kids := n.kids ++ [ns.length] } := List.getElem?_set_self sl
  have ll : (ns.set s { n with kids := n.kids ++ [ns.length] }).length = ns.length := List.length_set
  have e2 : ({ n with kids := n.kids ++ [ns.length] } : Nd).lev = n.lev := rfl
  rw [← e2, ← ll]
  rw [ll]
  rw [← ll] at hl
  have lN : ((ns.length : Nat) : Int) = (((ns.set s { n with kids := n.kids ++ [ns.length] }).length : Nat) : Int) := by rw [ll]
  generalize hn2 : ns.set s { n with kids := n.kids ++ [ns.length] } = ns2 at hs2 ll hl lN
  generalize { n with kids := n.kids ++ [ns.length] } = n2 at hs2
  rw [← ll]
  clear hn2 lN e2 hs sl hk
  refine seq_nx (env1 := gE W CE top MD ns2 (bare ++ [ns2.length]) x6 (some (.d (.int z))) (some (.d (.int (s : Nat)))) x9 (some (.d (.str k)))) (by
    have lb : (bare.map fun b : Nat => Ow.d (.int (b : Nat))).length < sizeLine := by rw [List.length_map, sizeLine_eq]; omega
    rw [sApp_eq]
    show ownL 5 _ _ = _
    rw [ownL_of (os := bare.map fun b : Nat => Ow.d (.int (b : Nat))) _ rfl, eM_eq, len_nds ns2 (eVarO 4) _ rfl, R.map_ok, R.st_ok, if_pos lb]
    have : bareO (bare ++ [ns2.length]) = .l ((bare.map fun b : Nat => .d (.int (b : Nat))) ++ [.d (.int (ns2.length : Nat))]) := by unfold bareO; rw [List.map_append]; rfl
    show _ = SR.nx [_, _, _, _, _, some (bareO (bare ++ [ns2.length])), _, _, _, _, _, _]
    rw [this]
    rfl) ?_
  refine (app_nd (ns := ns2) (n := ⟨k, n2.lev + 1, none, z / (3 + (ns2.length : Nat)) % 5 - 2, []⟩) rfl ?_ (by omega)).trans rfl
  have ix : ixO (ndsO ns2) (.int (s : Nat)) = .ok (encNd n2) := nds_ix hs2
  have i1 := nd_ix1 n2
  have ln := len_nds ns2 (eVarO 4) (gE W CE top MD ns2 (bare ++ [ns2.length]) x6 (some (.d (.int z))) (some (.d (.int (s : Nat)))) x9 (some (.d (.str k)))) rfl
  have gd : gDiv (.int z) (.int (3 + (ns2.length : Nat))) = some (.int (z / (3 + (ns2.length : Nat)))) := gDiv_small (by omega) (Nat.lt_trans (show (3 + (ns2.length : Nat) : Int).natAbs < 1000 by omega) (by decide))
  have gm : gMod (.int (z / (3 + (ns2.length : Nat)))) (.int 5) = some (.int (z / (3 + (ns2.length : Nat)) % 5)) := gMod_int (by decide)
  have gs : gSub (.int (z / (3 + (ns2.length : Nat)) % 5)) (.int 2) = some (.int (z / (3 + (ns2.length : Nat)) % 5 - 2)) := rfl
  have ec : encNd ⟨k, n2.lev + 1, none, z / (3 + (ns2.length : Nat)) % 5 - 2, []⟩ = .l [.d (.str k), .d (.int ((n2.lev : Nat) + 1)), .d .none, .d (.int (z / (3 + (ns2.length : Nat)) % 5 - 2)), .l []] := rfl
  rw [ec]
  have sv : ∀ y : D, shD (.d y) = .ok y := fun y => rfl
  have gad : gAdd (.int (n2.lev : Nat)) (.int 1) = some (.d (.int ((n2.lev : Nat) + 1))) := rfl
  have v4 : eVarO 4 (gE W CE top MD ns2 (bare ++ [ns2.length]) x6 (some (.d (.int z))) (some (.d (.int (s : Nat)))) x9 (some (.d (.str k)))) = .ok (ndsO ns2) := rfl
  have a1 : (eM (eVar 11) Ow.d) (gE W CE top MD ns2 (bare ++ [ns2.length]) x6 (some (.d (.int z))) (some (.d (.int (s : Nat)))) x9 (some (.d (.str k)))) = .ok (.d (.str k)) := rfl
  have a2 : (eBinO gAdd (eB (eIxO (eIxO (eVarO 4) (eVar 8)) (eC (.int 1))) shD) (eC (.int 1))) (gE W CE top MD ns2 (bare ++ [ns2.length]) x6 (some (.d (.int z))) (some (.d (.int (s : Nat)))) x9 (some (.d (.str k)))) = .ok (.d (.int ((n2.lev : Nat) + 1))) := by
    have i8 : eVar 8 (gE W CE top MD ns2 (bare ++ [ns2.length]) x6 (some (.d (.int z))) (some (.d (.int (s : Nat)))) x9 (some (.d (.str k)))) = .ok (.int (s : Nat)) := rfl
    have ixs : (eIxO (eVarO 4) (eVar 8)) (gE W CE top MD ns2 (bare ++ [ns2.length]) x6 (some (.d (.int z))) (some (.d (.int (s : Nat)))) x9 (some (.d (.str k)))) = .ok (encNd n2) := by rw [eIxO_eq, v4, R.bind_ok, i8, R.bind_ok, ix]
    have ix1' : (eIxO (eIxO (eVarO 4) (eVar 8)) (eC (.int 1))) (gE W CE top MD ns2 (bare ++ [ns2.length]) x6 (some (.d (.int z))) (some (.d (.int (s : Nat)))) x9 (some (.d (.str k)))) = .ok (.d (.int (n2.lev : Nat))) := by rw [eIxO_eq, ixs, R.bind_ok, eC_eq, R.bind_ok, i1]
    rw [eBinO_eq, eB_eq, ix1', R.bind_ok, sv, R.bind_ok, eC_eq, R.bind_ok, gad]
    rfl
  have a4 : (eM (eBin gSub (eBin gMod (eBin gDiv (eVar 7) (eM (eBinO gAdd (eC (.int 3)) (eLenO (eVarO 4))) viewD)) (eC (.int 5))) (eC (.int 2))) Ow.d) (gE W CE top MD ns2 (bare ++ [ns2.length]) x6 (some (.d (.int z))) (some (.d (.int (s : Nat)))) x9 (some (.d (.str k)))) = .ok (.d (.int (z / (3 + (ns2.length : Nat)) % 5 - 2))) := by
    have b : (eM (eBinO gAdd (eC (.int 3)) (eLenO (eVarO 4))) viewD) (gE W CE top MD ns2 (bare ++ [ns2.length]) x6 (some (.d (.int z))) (some (.d (.int (s : Nat)))) x9 (some (.d (.str k)))) = .ok (.int (3 + (ns2.length : Nat))) := by
      rw [eM_eq, eBinO_eq, eC_eq, R.bind_ok, ln, R.bind_ok, gAdd_int]
      rfl
    have v7 : eVar 7 (gE W CE top MD ns2 (bare ++ [ns2.length]) x6 (some (.d (.int z))) (some (.d (.int (s : Nat)))) x9 (some (.d (.str k)))) = .ok (.int z) := rfl
    rw [eM_eq, eBin_eq, eBin_eq, eBin_eq, v7, R.bind_ok, b, R.bind_ok, gd]
    simp only [R.of_some, R.bind_ok, eC_eq]
    rw [gm]
    simp only [R.of_some, R.bind_ok]
    rw [gs]
    rfl
  have a5 : (eLst aNil) (gE W CE top MD ns2 (bare ++ [ns2.length]) x6 (some (.d (.int z))) (some (.d (.int (s : Nat)))) x9 (some (.d (.str k)))) = .ok (.l []) := by simp [sizeLine_eq]
  rw [eLstO_eq, oCons_eq, a1, oCons_eq, a2, oCons_eq, eM_eq, eC_eq, oCons_eq, a4, oCons_eq, a5]
  simp only [R.bind_ok, R.map_ok, oNil_eq]
  rw [guard_ok (by rw [sizeLine_eq]; simp)]
theorem kids_loop (W CE : D) (top : Nat) (MD : List (D × D)) (ns : List Nd) (bare : List Nat) (x6 x9 x11 : Option Ow) (z : Int) (s : Nat) {n : Nd} (hs : ns[s]? = some n) (hn : n.kids = []) (bs : List Str) (h3 : bs.length ≤ 3) (hl : ns.length < 800) (hb : bare.length < 800) :
    ∃ cs y11, cs.length = bs.length ∧ (∀ (i : Nat) (c : Nd), cs[i]? = some c → bs[i]? = some c.kind ∧ c.lev = n.lev + 1 ∧ c.row = none ∧ c.kids = [] ∧ small250 c.mark) ∧
      forL (gtName 11) gkBody (bs.map PyData.str) (gE W CE top MD ns bare x6 (some (.d (.int z))) (some (.d (.int (s : Nat)))) x9 x11) = .nx (gE W CE top MD (ns.set s { n with kids := (List.range bs.length).map fun j => ns.length + j } ++ cs) (bare ++ (List.range bs.length).map fun j => ns.length + j) x6 (some (.d (.int z))) (some (.d (.int (s : Nat)))) x9 y11) := by
  have sl := (List.getElem?_eq_some_iff.mp hs).1
  obtain ⟨env', e1, cs, y11, e2, c1, c2⟩ := forL_map (g := gtName 11) (f := gkBody) PyData.str bs
    (fun i env => ∃ (cs : List Nd) (y11 : Option Ow), env = gE W CE top MD (ns.set s { n with kids := (List.range i).map fun j => ns.length + j } ++ cs) (bare ++ (List.range i).map fun j => ns.length + j) x6 (some (.d (.int z))) (some (.d (.int (s : Nat)))) x9 y11 ∧ cs.length = i ∧ ∀ (j : Nat) (c : Nd), cs[j]? = some c → bs[j]? = some c.kind ∧ c.lev = n.lev + 1 ∧ c.row = none ∧ c.kids = [] ∧ small250 c.mark) (fun i k env hi ⟨cs, y11, e, c1, c2⟩ => by
      subst e
      have il := (List.getElem?_eq_some_iff.mp hi).1
      have lS : (ns.set s { n with kids := (List.range i).map fun j => ns.length + j }).length = ns.length := List.length_set
      have h1 : (ns.set s { n with kids := (List.range i).map fun j => ns.length + j } ++ cs)[s]? = some { n with kids := (List.range i).map fun j => ns.length + j } := by rw [List.getElem?_append_left (by rw [lS]; exact sl), List.getElem?_set_self sl]
      have lA : (ns.set s { n with kids := (List.range i).map fun j => ns.length + j } ++ cs).length = ns.length + i := by rw [List.length_append, lS, c1]
      have q := kid_step W CE top MD (ns.set s { n with kids := (List.range i).map fun j => ns.length + j } ++ cs) (bare ++ (List.range i).map fun j => ns.length + j) x6 x9 z s k h1 (by rw [lA]; omega) (by rw [List.length_append, List.length_map, List.length_range]; omega) (by show ((List.range i).map fun j => ns.length + j).length < 900; rw [List.length_map, List.length_range]; omega)
      refine ⟨_, rfl, _, .inl q, cs ++ [⟨k, n.lev + 1, none, z / (3 + ((ns.length + i : Nat) : Nat)) % 5 - 2, []⟩], some (.d (.str k)), ?_, by rw [List.length_append, c1]; rfl, fun j c hc => ?_⟩
      · have r1 : (List.range (i + 1)).map (fun j => ns.length + j) = ((List.range i).map fun j => ns.length + j) ++ [ns.length + i] := by rw [List.range_succ, List.map_append]; rfl
        have r2 : (ns.set s { n with kids := (List.range i).map fun j => ns.length + j } ++ cs).set s { n with kids := ((List.range i).map fun j => ns.length + j) ++ [ns.length + i] } = ns.set s { n with kids := ((List.range i).map fun j => ns.length + j) ++ [ns.length + i] } ++ cs := by rw [List.set_append_left _ _ (by rw [lS]; exact sl), List.set_set]
        rw [lA]
        rw [show ({ ({ n with kids := (List.range i).map fun j => ns.length + j } : Nd) with kids := ({ n with kids := (List.range i).map fun j => ns.length + j } : Nd).kids ++ [ns.length + i] } : Nd) = { n with kids := ((List.range i).map fun j => ns.length + j) ++ [ns.length + i] } from rfl, r2, ← r1, List.append_assoc, List.append_assoc, ← r1]
      · by_cases cc : j < cs.length
        · rw [List.getElem?_append_left cc] at hc
          exact c2 j c hc
        · have jl := (List.getElem?_eq_some_iff.mp hc).1
          rw [List.length_append, List.length_singleton] at jl
          have : j = cs.length := by omega
          subst this
          rw [List.getElem?_append_right (Nat.le_refl _), Nat.sub_self] at hc
          cases hc
          have b0 := Int.emod_nonneg (z / (3 + ((ns.length + cs.length : Nat) : Nat))) (b := 5) (by decide)
          have b1 := Int.emod_lt_of_pos (z / (3 + ((ns.length + cs.length : Nat) : Nat))) (b := 5) (by decide)
          rw [c1]
          refine ⟨hi, rfl, rfl, rfl, ?_⟩
          rw [c1] at b0 b1
          exact Nat.lt_trans (show (z / (3 + ((ns.length + i : Nat) : Nat)) % 5 - 2).natAbs < 100 by omega) (by decide)) (gE W CE top MD ns bare x6 (some (.d (.int z))) (some (.d (.int (s : Nat)))) x9 x11) ⟨[], x11, by
      have : ns.set s { n with kids := [] } = ns := by
        rw [← hn]
        refine List.ext_getElem? fun j => ?_
        by_cases e : s = j
        · subst e; rw [List.getElem?_set_self sl, hs]
        · rw [List.getElem?_set_ne e]
      show _ = gE W CE top MD (ns.set s { n with kids := [] } ++ []) (bare ++ []) _ _ _ _ _
      rw [this, List.append_nil, List.append_nil], rfl, fun j c h => by simp at h⟩
  subst e2
  exact ⟨cs, y11, c1, c2, e1⟩
end
end Mir
set_option Elab.async false
set_option linter.all false
set_option maxRecDepth 100000
set_option maxHeartbeats 4000000
namespace Mir
open PySem PySem.Spec L2
noncomputable section
abbrev gcFull : Ev → R Ow := (eLc (eB (eGetM 3 (eM (eIxO (eIxO (eVarO 4) (eVar 8)) (eC (.int 0))) viewD)) itD) (gtName 10) (tAndE (eB (eBin gNe (eBin gIx (eVar 10) (eC (.int 1))) (eTup aNil)) asB) (eB (eBin gLt (eM (eIxO (eIxO (eVarO 4) (eVar 8)) (eC (.int 1))) viewD) (eVar 2)) asB)) (eM (eVar 10) Ow.d) (List.map (·.2) ([("_law_row", 10)] : List (Str × Nat))))
abbrev gcPop : Ev → R (D × Ev) := (xPopAt 5 (eBin gIx (eB (eLst (aCons (eBin gMod (eBin gDiv (eVar 7) (eC (.int 4))) (eM (eCa gLen (aCons (eB (eVarO 5) shD) aNil)) viewD)) (aCons (eBin gSub (eM (eCa gLen (aCons (eB (eVarO 5) shD) aNil)) viewD) (eC (.int 1))) aNil))) shD) (eBin gMod (eVar 7) (eC (.int 2)))))
abbrev gcIf1 : Ev → SR := (sIf (eB (eBin gNe (eM (eVarO 5) viewD) (eM (eLst aNil) viewD)) asB)
    (sSeq (sXSet 8 gcPop)
    (sSet 9 (eM (eM gcFull viewD) Ow.d)))
    sSkip)
abbrev gcIf2 : Ev → SR := (sIf (eB (eBin gNe (eVar 9) (eM (eLst aNil) viewD)) asB)
    (sSeq (sPut1 4 (eVar 8) (eC (.int 2)) (eM (eBin gIx (eVar 9) (eBin gMod (eBin gDiv (eVar 7) (eC (.int 1024))) (eM (eCa gLen (aCons (eVar 9) aNil)) viewD))) Ow.d))
    (sFor (eB (eBin gIx (eB (eIxO (eIxO (eVarO 4) (eVar 8)) (eC (.int 2))) shD) (eC (.int 1))) itD) (gtName 11)
    gkBody))
    sSkip)
abbrev gcBody (f13 f20 : List D → R Ow) : Ev → SR := (sSeq (sSet 7 (eM (eM (eB (aCons (eVar 6) (aCons (eC (.int 5)) aNil)) f13) viewD) Ow.d))
    (sSeq (sSet 8 (eM (eBin gMod (eVar 7) (eLenO (eVarO 4))) Ow.d))
    (sSeq (sSet 9 (eM (eM (eLst aNil) viewD) Ow.d))
    (sSeq gcIf1
    (sSeq gcIf2
    (sPut1 4 (eVar 8) (eC (.int 3)) (eB (aCons (eVar 6) (aCons (eVar 7) aNil)) f20)))))))
abbrev bGrown (f13 f20 : List D → R Ow) : Ev → SR := (sSeq (sSet 3 (eDictOf (eVar 0)))
    (sSeq (sSet 4 (eLstO (oCons (eLstO (oCons (eM (eBin gIx (eBin gIx (eVar 0) (eC (.int 0))) (eC (.int 0))) Ow.d) (oCons (eM (eC (.int 1)) Ow.d) (oCons (eM (eC .none) Ow.d) (oCons (eM (eC (.int 0)) Ow.d) (oCons (eLst aNil) oNil)))))) oNil)))
    (sSeq (sSet 5 (eLst (aCons (eC (.int 0)) aNil)))
    (sSeq (sFor (eB (eVar 1) itD) (gtName 6)
    (gcBody f13 f20))
    (sRetV 4)))))
theorem erase_map {α β : Type} (f : α → β) : ∀ (l : List α) (i : Nat), (l.map f).eraseIdx i = (l.eraseIdx i).map f
  | [], i => rfl
  | x :: l, 0 => rfl
  | x :: l, i + 1 => by show f x :: (l.map f).eraseIdx i = f x :: (l.eraseIdx i).map f; rw [erase_map f l i]
def fullOfR (rows : List Rw) (lev top : Nat) : List Rw := rows.filter fun r => !r.br.isEmpty && decide (lev < top)
section
variable {w : Wood} (hw : WoodOk w) (CE : D) (top : Nat)
include hw
theorem gcFull_ok {ns : List Nd} (bare : List Nat) (x6 x7 x9 x11 : Option Ow) {s : Nat} {n : Nd} (hs : ns[s]? = some n) (hk : n.kind ∈ w.map (·.1)) : gcFull (gE (encWd w) CE top (mergeD [] (prsOf w)) ns bare x6 x7 (some (.d (.int (s : Nat)))) x9 x11) = .ok (.l ((fullOfR (rowsOf w n.kind) n.lev top).map fun r => .d (encRw r))) := by
  obtain ⟨p, hp, hpk⟩ := List.mem_map.mp hk
  have rp : rowsOf w n.kind = p.2 := by rw [← hpk]; exact rowsOf_kind hw.kinds hp
  have gp := wood_get hw hk
  have ixs : (eIxO (eVarO 4) (eVar 8)) (gE (encWd w) CE top (mergeD [] (prsOf w)) ns bare x6 x7 (some (.d (.int (s : Nat)))) x9 x11) = .ok (encNd n) := by
    rw [eIxO_eq]
    show (R.ok (ndsO ns) : R Ow).bind (fun o => (R.ok (PyData.int (s : Nat)) : R D).bind fun d => ixO o d) = _
    rw [R.bind_ok, R.bind_ok, nds_ix hs]
  show eLc _ _ _ _ _ _ = _
  unfold fullOfR
  refine eLc_of (ds := (rowsOf w n.kind).map encRw) ?_ (by rw [List.length_map, sizeLine_eq, rp]; have := hw.few p hp; omega) (lcR_filt encRw (fun r => !r.br.isEmpty && decide (n.lev < top)) _ (rowsOf w n.kind) fun r hr => ?_)
  · have k0 : (eM (eIxO (eIxO (eVarO 4) (eVar 8)) (eC (.int 0))) viewD) (gE (encWd w) CE top (mergeD [] (prsOf w)) ns bare x6 x7 (some (.d (.int (s : Nat)))) x9 x11) = .ok (.str n.kind) := by
      rw [eM_eq, eIxO_eq, ixs, R.bind_ok, eC_eq, R.bind_ok, nd_ix0]
      rfl
    rw [eB_eq, eGetM_of (ps := mergeD [] (prsOf w)) rfl, k0, R.bind_ok, if_pos (isKey_str _), gp]
    rfl
  · rw [rp] at hr
    have ok := hw.rok p hp r hr
    have i1 := rw_ix1 r
    have nb : gNe (brD r.br) (.tuple []) = some (.bool (!r.br.isEmpty)) := by
      have := ne_tnil (nice_strs (l := r.br) fun z hz => by
        obtain ⟨q, hq, rfl⟩ := List.mem_map.mp (ok.2.2 z hz)
        exact hw.kok q hq)
      rwa [List.isEmpty_map] at this
    have hs2 := hs
    refine ⟨[some (.d (encWd w)), some (.d CE), some (.d (.int (top : Nat))), some (.m (mergeD [] (prsOf w))), some (ndsO ns), some (bareO bare), x6, x7, some (.d (.int (s : Nat))), x9, some (.d (encRw r)), x11], by simp [wipeE], ?_, fun _ => rfl⟩
    have ixs2 : (eIxO (eVarO 4) (eVar 8)) [some (.d (encWd w)), some (.d CE), some (.d (.int (top : Nat))), some (.m (mergeD [] (prsOf w))), some (ndsO ns), some (bareO bare), x6, x7, some (.d (.int (s : Nat))), x9, some (.d (encRw r)), x11] = .ok (encNd n) := by
      rw [eIxO_eq]
      show (R.ok (ndsO ns) : R Ow).bind (fun o => (R.ok (PyData.int (s : Nat)) : R D).bind fun d => ixO o d) = _
      rw [R.bind_ok, R.bind_ok, nds_ix hs2]
    have k1 : (eM (eIxO (eIxO (eVarO 4) (eVar 8)) (eC (.int 1))) viewD) [some (.d (encWd w)), some (.d CE), some (.d (.int (top : Nat))), some (.m (mergeD [] (prsOf w))), some (ndsO ns), some (bareO bare), x6, x7, some (.d (.int (s : Nat))), x9, some (.d (encRw r)), x11] = .ok (.int (n.lev : Nat)) := by
      rw [eM_eq, eIxO_eq, ixs2, R.bind_ok, eC_eq, R.bind_ok, nd_ix1]
      rfl
    have gl : gLt (.int (n.lev : Nat)) (.int (top : Nat)) = some (.bool (decide (n.lev < top))) := by
      show some (PyData.bool (decide ((n.lev : Int) < (top : Nat)))) = _
      congr 2
      simp
    have t1 : (eB (eBin gNe (eBin gIx (eVar 10) (eC (.int 1))) (eTup aNil)) asB) [some (.d (encWd w)), some (.d CE), some (.d (.int (top : Nat))), some (.m (mergeD [] (prsOf w))), some (ndsO ns), some (bareO bare), x6, x7, some (.d (.int (s : Nat))), x9, some (.d (encRw r)), x11] = .ok (!r.br.isEmpty) := by
      generalize (!r.br.isEmpty) = B at nb
      generalize brD r.br = BD at nb i1
      generalize encRw r = RW at i1
      generalize encWd w = W
      generalize mergeD [] (prsOf w) = MD
      generalize ndsO ns = NO
      generalize bareO bare = BO
      simp [i1, nb, sizeLine_eq]
    have t2 : (eB (eBin gLt (eM (eIxO (eIxO (eVarO 4) (eVar 8)) (eC (.int 1))) viewD) (eVar 2)) asB) [some (.d (encWd w)), some (.d CE), some (.d (.int (top : Nat))), some (.m (mergeD [] (prsOf w))), some (ndsO ns), some (bareO bare), x6, x7, some (.d (.int (s : Nat))), x9, some (.d (encRw r)), x11] = .ok (decide (n.lev < top)) := by
      rw [eB_eq, eBin_eq, k1, R.bind_ok]
      show ((R.ok (PyData.int (top : Nat)) : R D).bind fun y => R.of (gLt (.int (n.lev : Nat)) y)).bind asB = _
      rw [R.bind_ok, gl]
      rfl
    rw [tAndE_eq, t1, R.bind_ok, t2]
    cases r.br.isEmpty <;> rfl
variable {f13 f20 : List D → R Ow} (h13 : ∀ (c : Int) (j : Nat), j ≤ 1000 → f13 [.int c, .int (j : Nat)] = .ok (.d (.int (mixI c (j : Nat))))) (h20 : ∀ c z : Int, ∃ x : Int, small250 x ∧ f20 [.int c, .int z] = .ok (.d (.int x)))
include h13 h20
theorem gc_step {ns : List Nd} {bare : List Nat} (hI : GInv w top ns bare) (hl : ns.length < 790) (hb : bare.length < 790) (c : Int) (x7 x8 x9 x11 : Option Ow) : ∃ ns' bare' y7 y8 y9 y11, GInv w top ns' bare' ∧ ns'.length ≤ ns.length + 3 ∧ bare'.length ≤ bare.length + 3 ∧
    gcBody f13 f20 (gE (encWd w) CE top (mergeD [] (prsOf w)) ns bare (some (.d (.int c))) x7 x8 x9 x11) = .nx (gE (encWd w) CE top (mergeD [] (prsOf w)) ns' bare' (some (.d (.int c))) y7 y8 y9 y11) := by
  have m := h13 c 5 (by omega)
  have z0 := mixI_pos c 5
  change f13 [.int c, .int 5] = .ok (.d (.int (mixI c 5))) at m
  generalize mixI c 5 = z at m z0
  obtain ⟨mk, mks, m20⟩ := h20 c z
  obtain ⟨n0, r0, _⟩ := hI.root
  have np : 0 < ns.length := (List.getElem?_eq_some_iff.mp r0).1
  obtain ⟨sp, hsp, spl⟩ := emod_nat (c := z) (n := ns.length) np
  have gsp : gMod (.int z) (.int (ns.length : Nat)) = some (.int (sp : Nat)) := by rw [gMod_int (by omega), hsp]
  have st3 : ∀ r : SR, (sSeq gcIf1 (sSeq gcIf2 (sPut1 4 (eVar 8) (eC (.int 3)) (eB (aCons (eVar 6) (aCons (eVar 7) aNil)) f20)))) (gE (encWd w) CE top (mergeD [] (prsOf w)) ns bare (some (.d (.int c))) (some (.d (.int z))) (some (.d (.int (sp : Nat)))) (some (.d (.list []))) x11) = r → gcBody f13 f20 (gE (encWd w) CE top (mergeD [] (prsOf w)) ns bare (some (.d (.int c))) x7 x8 x9 x11) = r := fun r hr => by
    refine seq_nx (env1 := gE (encWd w) CE top (mergeD [] (prsOf w)) ns bare (some (.d (.int c))) (some (.d (.int z))) x8 x9 x11) (by
      generalize encWd w = W
      generalize mergeD [] (prsOf w) = MD
      unfold gE
      generalize ndsO ns = NO
      generalize bareO bare = BO
      simp [m]) ?_
    refine seq_nx (env1 := gE (encWd w) CE top (mergeD [] (prsOf w)) ns bare (some (.d (.int c))) (some (.d (.int z))) (some (.d (.int (sp : Nat)))) x9 x11) (by
      have ln := len_nds ns (eVarO 4) (gE (encWd w) CE top (mergeD [] (prsOf w)) ns bare (some (.d (.int c))) (some (.d (.int z))) x8 x9 x11) rfl
      rw [sSet_eq, eM_eq, eBin_eq, ln]
      show R.st _ (R.map Ow.d ((R.ok (PyData.int z) : R D).bind _)) _ = _
      rw [R.bind_ok, R.bind_ok, gsp]
      rfl) ?_
    refine seq_nx (env1 := gE (encWd w) CE top (mergeD [] (prsOf w)) ns bare (some (.d (.int c))) (some (.d (.int z))) (some (.d (.int (sp : Nat)))) (some (.d (.list []))) x11) (by
      generalize encWd w = W
      generalize mergeD [] (prsOf w) = MD
      unfold gE
      generalize ndsO ns = NO
      generalize bareO bare = BO
      simp [sizeLine_eq]) hr
  have vn : viewD (.l []) = .list [] := by simp
  have nlst : (eM (eLst aNil) viewD) (gE (encWd w) CE top (mergeD [] (prsOf w)) ns bare (some (.d (.int c))) (some (.d (.int z))) (some (.d (.int (sp : Nat)))) (some (.d (.list []))) x11) = .ok (.list []) := by simp [vn, sizeLine_eq]
  have nbare : gNe (.list (bare.map fun b : Nat => PyData.int (b : Nat))) (.list []) = some (.bool (!bare.isEmpty)) := by
    have := ne_nil (nice_nats bare)
    rwa [List.isEmpty_map] at this
  have ct1 : (eB (eBin gNe (eM (eVarO 5) viewD) (eM (eLst aNil) viewD)) asB) (gE (encWd w) CE top (mergeD [] (prsOf w)) ns bare (some (.d (.int c))) (some (.d (.int z))) (some (.d (.int (sp : Nat)))) (some (.d (.list []))) x11) = .ok (!bare.isEmpty) := by
    rw [eB_eq, eBin_eq, nlst]
    show ((R.ok (viewD (bareO bare)) : R D).bind _).bind asB = _
    rw [viewD_bare, R.bind_ok, R.bind_ok, nbare]
    rfl
  -- the mark, whatever stands then
  have marking : ∀ (ns1 : List Nd) (bare1 : List Nat) (s : Nat) (n : Nd) (y9 y11 : Option Ow), ns1[s]? = some n → sPut1 4 (eVar 8) (eC (.int 3)) (eB (aCons (eVar 6) (aCons (eVar 7) aNil)) f20) (gE (encWd w) CE top (mergeD [] (prsOf w)) ns1 bare1 (some (.d (.int c))) (some (.d (.int z))) (some (.d (.int (s : Nat)))) y9 y11) = .nx (gE (encWd w) CE top (mergeD [] (prsOf w)) (ns1.set s { n with mark := mk }) bare1 (some (.d (.int c))) (some (.d (.int z))) (some (.d (.int (s : Nat)))) y9 y11) := fun ns1 bare1 s n y9 y11 h => by
    refine (put1_mark (ns := ns1) (n := n) (x := mk) rfl rfl h ?_).trans rfl
    show ((R.ok [PyData.int c, .int z] : R (List D))).bind f20 = _
    rw [R.bind_ok, m20]
  have noIf2 : ∀ (ns1 : List Nd) (bare1 : List Nat) (s : Nat) (y11 : Option Ow), gcIf2 (gE (encWd w) CE top (mergeD [] (prsOf w)) ns1 bare1 (some (.d (.int c))) (some (.d (.int z))) (some (.d (.int (s : Nat)))) (some (.d (.list []))) y11) = .nx (gE (encWd w) CE top (mergeD [] (prsOf w)) ns1 bare1 (some (.d (.int c))) (some (.d (.int z))) (some (.d (.int (s : Nat)))) (some (.d (.list []))) y11) := fun ns1 bare1 s y11 => by
    have ne : gNe (.list []) (.list []) = some (.bool false) := ne_nil (ds := []) (nice_list (n := 0) (fun d hd => by cases hd) (by omega))
    generalize encWd w = W
    generalize mergeD [] (prsOf w) = MD
    unfold gE
    generalize ndsO ns1 = NO
    generalize bareO bare1 = BO
    simp [vn, ne, sizeLine_eq]
  by_cases cb : bare = []
  · -- nothing bare
    have e1 := List.getElem?_eq_getElem spl
    refine ⟨ns.set sp { ns[sp] with mark := mk }, bare, some (.d (.int z)), some (.d (.int (sp : Nat))), some (.d (.list [])), x11, hI.marked e1 mks (List.Sublist.refl _), by rw [List.length_set]; omega, by omega, st3 _ ?_⟩
    refine seq_nx (env1 := gE (encWd w) CE top (mergeD [] (prsOf w)) ns bare (some (.d (.int c))) (some (.d (.int z))) (some (.d (.int (sp : Nat)))) (some (.d (.list []))) x11) (by
      show sIf _ _ _ _ = _
      rw [sIf_eq, ct1, cb, R.st_ok]
      rfl) ?_
    refine seq_nx (noIf2 ns bare sp x11) ?_
    exact marking ns bare sp _ _ _ e1
  · -- a bare node
    have bl : 0 < bare.length := List.length_pos_iff.mpr cb
    have be : bare.isEmpty = false := by cases bare with | nil => exact absurd rfl cb | cons _ _ => rfl
    obtain ⟨a, ha, al⟩ := emod_nat (c := z / 4) (n := bare.length) bl
    have d4 : gDiv (.int z) (.int 4) = some (.int (z / 4)) := gDiv_small (by decide) (by decide)
    have g4 : gMod (.int (z / 4)) (.int (bare.length : Nat)) = some (.int (a : Nat)) := by rw [gMod_int (by omega), ha]
    have g2 : gMod (.int z) (.int 2) = some (.int (z % 2)) := gMod_int (by decide)
    have gs : gSub (.int (bare.length : Nat)) (.int 1) = some (.int ((bare.length - 1 : Nat) : Int)) := by rw [show ((bare.length - 1 : Nat) : Int) = (bare.length : Int) - 1 from by omega]; rfl
    obtain ⟨ix, ixl, hix⟩ : ∃ ix : Nat, ix < bare.length ∧ gIx (.list [.int (a : Nat), .int ((bare.length - 1 : Nat) : Int)]) (.int (z % 2)) = some (.int (ix : Nat)) := by
      obtain ⟨k, hk, kl⟩ := emod_nat (c := z) (n := 2) (by decide)
      change z % 2 = _ at hk
      rw [hk]
      match k, kl with
      | 0, _ => exact ⟨a, al, rfl⟩
      | 1, _ => exact ⟨bare.length - 1, by omega, rfl⟩
    have ebx := List.getElem?_eq_getElem ixl
    obtain ⟨s, hs⟩ : ∃ s, bare[ix] = s := ⟨_, rfl⟩
    rw [hs] at ebx
    obtain ⟨n, hn, hrow⟩ := hI.bare s (List.mem_of_getElem? ebx)
    have q := hI.each s n hn
    have kn := q.bare hrow
    have sub : (bare.eraseIdx ix).Sublist bare := List.eraseIdx_sublist bare ix
    have nsb := nd_erase hI.bnd ebx
    have le : (bare.eraseIdx ix).length ≤ bare.length := sub.length_le
    have pop : gcPop (gE (encWd w) CE top (mergeD [] (prsOf w)) ns bare (some (.d (.int c))) (some (.d (.int z))) (some (.d (.int (sp : Nat)))) (some (.d (.list []))) x11) = .ok (.int (s : Nat), gE (encWd w) CE top (mergeD [] (prsOf w)) ns (bare.eraseIdx ix) (some (.d (.int c))) (some (.d (.int z))) (some (.d (.int (sp : Nat)))) (some (.d (.list []))) x11) := by
      have lat : lstAt 5 (gE (encWd w) CE top (mergeD [] (prsOf w)) ns bare (some (.d (.int c))) (some (.d (.int z))) (some (.d (.int (sp : Nat)))) (some (.d (.list []))) x11) = some (bare.map fun b : Nat => PyData.int (b : Nat)) := lstAt_of (by show some (some (bareO bare)) = _; rw [bareO_data])
      have idx : (eBin gIx (eB (eLst (aCons (eBin gMod (eBin gDiv (eVar 7) (eC (.int 4))) (eM (eCa gLen (aCons (eB (eVarO 5) shD) aNil)) viewD)) (aCons (eBin gSub (eM (eCa gLen (aCons (eB (eVarO 5) shD) aNil)) viewD) (eC (.int 1))) aNil))) shD) (eBin gMod (eVar 7) (eC (.int 2)))) (gE (encWd w) CE top (mergeD [] (prsOf w)) ns bare (some (.d (.int c))) (some (.d (.int z))) (some (.d (.int (sp : Nat)))) (some (.d (.list []))) x11) = .ok (.int (ix : Nat)) := by
        have sb := shD_bare bare
        have gl : gLen [.list (bare.map fun b : Nat => .int (b : Nat))] = some (.d (.int (bare.length : Nat))) := by rw [gLen_list, List.length_map]
        have s2 := shl2 (.int (a : Nat)) (.int ((bare.length - 1 : Nat) : Int))
        generalize PyData.list [.int (a : Nat), .int ((bare.length - 1 : Nat) : Int)] = L2 at hix s2
        generalize ((bare.length - 1 : Nat) : Int) = B1 at gs s2
        generalize PyData.list (bare.map fun b : Nat => .int (b : Nat)) = BL at sb gl
        generalize encWd w = W
        generalize mergeD [] (prsOf w) = MD
        unfold gE
        generalize ndsO ns = NO
        generalize bareO bare = BO at sb
        generalize z / 4 = Z4 at d4 g4
        generalize z % 2 = Z2 at g2 hix
        simp [sb, gl, d4, g4, gs, s2, g2, hix, sizeLine_eq]
      show xPopAt _ _ _ = _
      unfold xPopAt
      rw [lat]
      simp only
      rw [idx]
      simp only
      rw [if_pos (by rw [List.length_map, sizeLine_eq]; omega)]
      have e1 : ixN (bare.map fun b : Nat => PyData.int (b : Nat)).length ((ix : Nat) : Int) = some ix := ixN_nat (by rw [List.length_map]; exact ixl)
      rw [e1]
      simp only
      have e2 : (bare.map fun b : Nat => PyData.int (b : Nat))[ix]? = some (.int (s : Nat)) := by rw [List.getElem?_map, ebx]; rfl
      rw [e2]
      simp only
      have e3 : ((bare.map fun b : Nat => PyData.int (b : Nat)).eraseIdx ix).map Ow.d = (bare.eraseIdx ix).map fun b : Nat => Ow.d (.int (b : Nat)) := by rw [erase_map, List.map_map]; rfl
      rw [e3]
      rfl
    have fl := gcFull_ok hw CE top (ns := ns) (bare.eraseIdx ix) (some (.d (.int c))) (some (.d (.int z))) (some (.d (.list []))) x11 hn q.kind
    have vf : viewD (.l ((fullOfR (rowsOf w n.kind) n.lev top).map fun r => .d (encRw r))) = rwsD (fullOfR (rowsOf w n.kind) n.lev top) := viewD_of encRw _
    have if1 : gcIf1 (gE (encWd w) CE top (mergeD [] (prsOf w)) ns bare (some (.d (.int c))) (some (.d (.int z))) (some (.d (.int (sp : Nat)))) (some (.d (.list []))) x11) = .nx (gE (encWd w) CE top (mergeD [] (prsOf w)) ns (bare.eraseIdx ix) (some (.d (.int c))) (some (.d (.int z))) (some (.d (.int (s : Nat)))) (some (.d (rwsD (fullOfR (rowsOf w n.kind) n.lev top)))) x11) := by
      show sIf _ _ _ _ = _
      rw [sIf_eq, ct1, be, R.st_ok, Bool.not_false, if_pos rfl]
      refine seq_nx (env1 := gE (encWd w) CE top (mergeD [] (prsOf w)) ns (bare.eraseIdx ix) (some (.d (.int c))) (some (.d (.int z))) (some (.d (.int (s : Nat)))) (some (.d (.list []))) x11) ((sXSet_of pop (show 8 < 12 by decide)).trans rfl) ?_
      rw [sSet_eq, eM_eq, eM_eq]
      refine (congrArg (fun r => R.st _ (R.map Ow.d (R.map viewD r)) _) fl).trans ?_
      rw [R.map_ok, R.map_ok, vf, R.st_ok]
      rfl
    have mem : ∀ r ∈ fullOfR (rowsOf w n.kind) n.lev top, r ∈ rowsOf w n.kind ∧ r.br ≠ [] ∧ n.lev < top := fun r hr => by
      unfold fullOfR at hr
      rw [List.mem_filter, Bool.and_eq_true, decide_eq_true_eq] at hr
      refine ⟨hr.1, fun e => ?_, hr.2.2⟩
      rw [e] at hr
      exact absurd hr.2.1 (by decide)
    obtain ⟨p, hp, hpk⟩ := List.mem_map.mp q.kind
    have rp : rowsOf w n.kind = p.2 := by rw [← hpk]; exact rowsOf_kind hw.kinds hp
    by_cases cf : fullOfR (rowsOf w n.kind) n.lev top = []
    · -- it stays bare
      refine ⟨ns.set s { n with mark := mk }, bare.eraseIdx ix, some (.d (.int z)), some (.d (.int (s : Nat))), some (.d (.list [])), x11, hI.marked hn mks sub, by rw [List.length_set]; omega, by omega, st3 _ ?_⟩
      rw [cf] at if1
      refine seq_nx if1 ?_
      refine seq_nx (noIf2 ns (bare.eraseIdx ix) s x11) ?_
      exact marking ns (bare.eraseIdx ix) s n _ _ hn
    · -- it grows
      have fl0 : 0 < (fullOfR (rowsOf w n.kind) n.lev top).length := List.length_pos_iff.mpr cf
      obtain ⟨b, hb2, bl2⟩ := emod_nat (c := z / 1024) (n := (fullOfR (rowsOf w n.kind) n.lev top).length) fl0
      have ebr := List.getElem?_eq_getElem bl2
      obtain ⟨r, hr⟩ : ∃ r, (fullOfR (rowsOf w n.kind) n.lev top)[b] = r := ⟨_, rfl⟩
      rw [hr] at ebr
      obtain ⟨r1, r2, r3⟩ := mem r (List.mem_of_getElem? ebr)
      have rok := hw.rok p hp r (by rw [← rp]; exact r1)
      have sl := (List.getElem?_eq_some_iff.mp hn).1
      have nf : gNe (rwsD (fullOfR (rowsOf w n.kind) n.lev top)) (.list []) = some (.bool true) := by
        have nw := nice_rwsD (rs := fullOfR (rowsOf w n.kind) n.lev top) fun r hr => by
          have := hw.rok p hp r (by rw [← rp]; exact (mem r hr).1)
          exact ⟨this.1, fun z hz => by
            obtain ⟨q, hq, rfl⟩ := List.mem_map.mp (this.2.2 z hz)
            exact hw.kok q hq⟩
        have := ne_nil (ds := (fullOfR (rowsOf w n.kind) n.lev top).map encRw) ⟨nw.1, by have := nw.2; show (rwsD _).depth ≤ 130; omega⟩
        rw [List.isEmpty_map] at this
        have e : (fullOfR (rowsOf w n.kind) n.lev top).isEmpty = false := by
          cases h : fullOfR (rowsOf w n.kind) n.lev top with
          | nil => exact absurd h cf
          | cons _ _ => rfl
        rw [e] at this
        exact this
      have fln := rws_len (fullOfR (rowsOf w n.kind) n.lev top)
      have d1k : gDiv (.int z) (.int 1024) = some (.int (z / 1024)) := gDiv_small (by decide) (by decide)
      have gb : gMod (.int (z / 1024)) (.int ((fullOfR (rowsOf w n.kind) n.lev top).length : Nat)) = some (.int (b : Nat)) := by rw [gMod_int (by omega), hb2]
      have fix : gIx (rwsD (fullOfR (rowsOf w n.kind) n.lev top)) (.int (b : Nat)) = some (encRw r) := by
        show atI ((fullOfR (rowsOf w n.kind) n.lev top).map encRw) _ = _
        exact atI_natD (by rw [List.getElem?_map, ebr]; rfl)
      generalize fullOfR (rowsOf w n.kind) n.lev top = FU at if1 nf fln gb fix
      obtain ⟨cs, y11, c1, c2, kl⟩ := kids_loop (encWd w) CE top (mergeD [] (prsOf w)) (ns.set s { n with row := some r }) (bare.eraseIdx ix) (some (.d (.int c))) (some (.d (rwsD FU))) x11 z s (n := { n with row := some r }) (List.getElem?_set_self sl) kn r.br rok.2.1 (by rw [List.length_set]; omega) (by omega)
      rw [List.set_set, List.length_set] at kl
      have if2 : gcIf2 (gE (encWd w) CE top (mergeD [] (prsOf w)) ns (bare.eraseIdx ix) (some (.d (.int c))) (some (.d (.int z))) (some (.d (.int (s : Nat)))) (some (.d (rwsD FU))) x11) = .nx (gE (encWd w) CE top (mergeD [] (prsOf w)) (ns.set s { n with row := some r, kids := (List.range r.br.length).map fun j => ns.length + j } ++ cs) (bare.eraseIdx ix ++ (List.range r.br.length).map fun j => ns.length + j) (some (.d (.int c))) (some (.d (.int z))) (some (.d (.int (s : Nat)))) (some (.d (rwsD FU))) y11) := by
        have ct2 : (eB (eBin gNe (eVar 9) (eM (eLst aNil) viewD)) asB) (gE (encWd w) CE top (mergeD [] (prsOf w)) ns (bare.eraseIdx ix) (some (.d (.int c))) (some (.d (.int z))) (some (.d (.int (s : Nat)))) (some (.d (rwsD FU))) x11) = .ok true := by
          generalize encWd w = W
          generalize mergeD [] (prsOf w) = MD
          unfold gE
          generalize ndsO ns = NO
          generalize bareO (bare.eraseIdx ix) = BO
          generalize rwsD FU = RF at nf
          simp [vn, nf, sizeLine_eq]
        show sIf _ _ _ _ = _
        rw [sIf_eq, ct2, R.st_ok, if_pos rfl]
        refine seq_nx (env1 := gE (encWd w) CE top (mergeD [] (prsOf w)) (ns.set s { n with row := some r }) (bare.eraseIdx ix) (some (.d (.int c))) (some (.d (.int z))) (some (.d (.int (s : Nat)))) (some (.d (rwsD FU))) x11) (by
          refine (put1_row (ns := ns) (n := n) (r := r) rfl rfl hn ?_).trans rfl
          generalize encWd w = W
          generalize mergeD [] (prsOf w) = MD
          unfold gE
          generalize ndsO ns = NO
          generalize bareO (bare.eraseIdx ix) = BO
          generalize encRw r = ER at fix
          generalize rwsD FU = RF at fln fix
          generalize ((FU.length : Nat) : Int) = FL at fln gb
          generalize z / 1024 = ZK at d1k gb
          simp [d1k, fln, gb, fix]) ?_
        have it : (eB (eBin gIx (eB (eIxO (eIxO (eVarO 4) (eVar 8)) (eC (.int 2))) shD) (eC (.int 1))) itD) (gE (encWd w) CE top (mergeD [] (prsOf w)) (ns.set s { n with row := some r }) (bare.eraseIdx ix) (some (.d (.int c))) (some (.d (.int z))) (some (.d (.int (s : Nat)))) (some (.d (rwsD FU))) x11) = .ok (r.br.map PyData.str) := by
          have ixs : (eIxO (eVarO 4) (eVar 8)) (gE (encWd w) CE top (mergeD [] (prsOf w)) (ns.set s { n with row := some r }) (bare.eraseIdx ix) (some (.d (.int c))) (some (.d (.int z))) (some (.d (.int (s : Nat)))) (some (.d (rwsD FU))) x11) = .ok (encNd { n with row := some r }) := by
            rw [eIxO_eq]
            show (R.ok (ndsO (ns.set s { n with row := some r })) : R Ow).bind (fun o => (R.ok (PyData.int (s : Nat)) : R D).bind fun d => ixO o d) = _
            rw [R.bind_ok, R.bind_ok, nds_ix (List.getElem?_set_self sl)]
          have i1 := rw_ix1 r
          have ir : itD (brD r.br) = .ok (r.br.map PyData.str) := rfl
          rw [eB_eq, eBin_eq, eB_eq, eIxO_eq, ixs, R.bind_ok, eC_eq, R.bind_ok, nd_ix2, R.bind_ok]
          show ((R.ok (encRw r) : R D).bind fun x => (eC (.int 1) _).bind fun y => R.of (gIx x y)).bind itD = _
          rw [R.bind_ok, eC_eq, R.bind_ok, i1]
          exact ir
        rw [sFor_eq, it, R.st_ok, kl]
      have hA : (ns.set s { n with row := some r, kids := (List.range r.br.length).map fun j => ns.length + j } ++ cs)[s]? = some { n with row := some r, kids := (List.range r.br.length).map fun j => ns.length + j } := by rw [List.getElem?_append_left (by rw [List.length_set]; exact sl), List.getElem?_set_self sl]
      refine ⟨ns.set s { n with row := some r, kids := (List.range r.br.length).map fun j => ns.length + j, mark := mk } ++ cs, bare.eraseIdx ix ++ (List.range r.br.length).map fun j => ns.length + j, some (.d (.int z)), some (.d (.int (s : Nat))), some (.d (rwsD FU)), y11, hI.grow hn hrow sub nsb r1 rok.2.2 r2 r3 mks c1 c2, by rw [List.length_append, List.length_set]; omega, by rw [List.length_append, List.length_map, List.length_range]; omega, st3 _ ?_⟩
      refine seq_nx if1 ?_
      refine seq_nx if2 ?_
      refine (marking _ _ s _ _ _ hA).trans ?_
      rw [List.set_append_left _ _ (by rw [List.length_set]; exact sl), List.set_set]
theorem grown_fin (htop : 1 ≤ top) (cs : List Int) (hc : cs.length ≤ 63) (hCE : CE = .list (cs.map PyData.int)) : ∃ ns bare, GInv w top ns bare ∧ ns.length ≤ 200 ∧ finR (bGrown f13 f20 (envOf 9 [encWd w, CE, .int (top : Nat)])) = .ok (ndsO ns) := by
  have he : envOf 9 [encWd w, CE, .int (top : Nat)] = [some (.d (encWd w)), some (.d CE), some (.d (.int (top : Nat))), none, none, none, none, none, none, none, none, none] := rfl
  rw [he]
  have wl : 0 < (w.map (·.1)).length := by rw [List.length_map]; have := hw.some; omega
  obtain ⟨k0, hk0⟩ : ∃ k0 : Str, k0 = (w.map (·.1)).getD 0 ("" : Str) := ⟨_, rfl⟩
  have km : k0 ∈ w.map (·.1) := by rw [hk0, List.getD_eq_getElem?_getD, List.getElem?_eq_getElem wl]; exact List.getElem_mem wl
  obtain ⟨N0, hN0⟩ : ∃ N0 : Nd, N0 = ⟨k0, 1, none, 0, []⟩ := ⟨_, rfl⟩
  have g0 : GInv w top [N0] [0] := {
    root := ⟨N0, rfl, by rw [hN0]; exact hk0⟩
    each := fun i n hn => by
      match i, hn with
      | 0, hn =>
        cases hn
        rw [hN0]
        exact ⟨km, ⟨Nat.le_refl _, htop⟩, (by decide : (0 : Int).natAbs < 2 ^ 250), (fun _ => rfl), fun r hr => by cases hr⟩
      | i + 1, hn => simp at hn
    bnd := by simp
    bare := fun b hb => by rw [List.mem_singleton.mp hb]; exact ⟨N0, rfl, by rw [hN0]⟩ }
  have ap := asPairs_wd w
  have w0 : ∃ p0, w[0]? = some p0 ∧ p0.1 = k0 := by
    have : 0 < w.length := by have := hw.some; omega
    refine ⟨w[0], List.getElem?_eq_getElem this, ?_⟩
    rw [hk0, List.getD_eq_getElem?_getD, List.getElem?_map, List.getElem?_eq_getElem this]
    rfl
  obtain ⟨p0, hp0, hpk⟩ := w0
  have j0 := wd_ix0 hp0
  have k0' := kd_ix0 p0
  rw [hpk] at k0'
  obtain ⟨env', e1, ns, bare, x6, x7, x8, x9, x11, e2, gi, l1, l2⟩ := forL_map (g := gtName 6) (f := gcBody f13 f20) PyData.int cs
    (fun i env => ∃ ns bare x6 x7 x8 x9 x11, env = gE (encWd w) CE top (mergeD [] (prsOf w)) ns bare x6 x7 x8 x9 x11 ∧ GInv w top ns bare ∧ ns.length ≤ 1 + 3 * i ∧ bare.length ≤ 1 + 3 * i) (fun i c env hi ⟨ns, bare, x6, x7, x8, x9, x11, e, gi, l1, l2⟩ => by
      subst e
      have il := (List.getElem?_eq_some_iff.mp hi).1
      obtain ⟨ns', bare', y7, y8, y9, y11, q1, q2, q3, q4⟩ := gc_step hw CE top h13 h20 gi (by omega) (by omega) c x7 x8 x9 x11
      exact ⟨_, rfl, _, .inl q4, ns', bare', _, y7, y8, y9, y11, rfl, q1, by omega, by omega⟩) (gE (encWd w) CE top (mergeD [] (prsOf w)) [N0] [0] none none none none none) ⟨[N0], [0], _, _, _, _, _, rfl, g0, by simp, by simp⟩
  subst e2
  refine ⟨ns, bare, gi, by omega, ?_⟩
  refine fin_step (env1 := [some (.d (encWd w)), some (.d CE), some (.d (.int (top : Nat))), some (.m (mergeD [] (prsOf w))), none, none, none, none, none, none, none, none]) (by
    rw [sSet_eq, eDictOf_eq]
    show R.st _ ((R.ok (encWd w) : R D).bind _) _ = _
    rw [R.bind_ok, ap]
    rfl) ?_
  refine fin_step (env1 := [some (.d (encWd w)), some (.d CE), some (.d (.int (top : Nat))), some (.m (mergeD [] (prsOf w))), some (ndsO [N0]), none, none, none, none, none, none, none]) (by
    have en : ndsO [N0] = .l [.l [.d (.str k0), .d (.int 1), .d .none, .d (.int 0), .l []]] := by rw [hN0]; rfl
    rw [en]
    generalize encKd p0 = KD at j0 k0'
    generalize mergeD [] (prsOf w) = MD
    generalize encWd w = W at j0
    simp [j0, k0', sizeLine_eq]) ?_
  refine fin_step (env1 := gE (encWd w) CE top (mergeD [] (prsOf w)) [N0] [0] none none none none none) (by
    have eb : bareO [0] = .l [.d (.int 0)] := rfl
    unfold gE
    rw [eb]
    generalize mergeD [] (prsOf w) = MD
    generalize ndsO [N0] = NO
    generalize encWd w = W
    simp [sizeLine_eq]) ?_
  refine fin_step (env1 := gE (encWd w) CE top (mergeD [] (prsOf w)) ns bare x6 x7 x8 x9 x11) (by
    have it : (eB (eVar 1) itD) (gE (encWd w) CE top (mergeD [] (prsOf w)) [N0] [0] none none none none none) = .ok (cs.map PyData.int) := by
      show (R.ok CE : R D).bind itD = _
      rw [hCE]
      rfl
    rw [sFor_eq, it, R.st_ok, e1]) ?_
  rfl
end
end
end Mir
set_option Elab.async false
set_option linter.all false
set_option maxRecDepth 100000
set_option maxHeartbeats 4000000
namespace Mir
open PySem PySem.Spec L2
mutual
def smallT : Tr → Prop
  | .mk _ k bs => small250 k ∧ smallTs bs
def smallTs : List Tr → Prop
  | [] => True
  | b :: bs => smallT b ∧ smallTs bs
end
theorem smallTs_iff : ∀ bs : List Tr, smallTs bs ↔ ∀ b ∈ bs, smallT b
  | [] => by simp [smallTs]
  | b :: bs => by rw [smallTs, smallTs_iff bs]; simp
structure GoodT (w : Wood) (top : Nat) (n : Nd) (t : Tr) : Prop where
  is : isOf w t n.kind = true
  lev : levT t + n.lev ≤ top + 1
  small : smallT t
  ok : okT t
theorem goodT_mk {w : Wood} (hw : WoodOk w) {top : Nat} {n : Nd} {r : Rw} (hk : n.kind ∈ w.map (·.1)) (hl : n.lev ≤ top) (hm : small250 n.mark) (hr : r ∈ rowsOf w n.kind) (ts : List Tr) (h1 : ts.length = r.br.length) (h2 : ∀ (j : Nat) (t : Tr), ts[j]? = some t → ∃ c : Nd, r.br[j]? = some c.kind ∧ c.lev = n.lev + 1 ∧ GoodT w top c t) : GoodT w top n (.mk r.nm n.mark ts) := by
  obtain ⟨p, hp, hpk⟩ := List.mem_map.mp hk
  have rp : rowsOf w n.kind = p.2 := by rw [← hpk]; exact rowsOf_kind hw.kinds hp
  rw [rp] at hr
  have rok := hw.rok p hp r hr
  refine ⟨?_, ?_, ?_, ?_⟩
  · rw [isOf_mk, rp, brOf_row (hw.dist p hp) hr]
    show (decide (r.br.length = ts.length) && isOfs w ts r.br) = true
    rw [decide_eq_true h1.symm, Bool.true_and, isOfs_zip, List.all_eq_true]
    intro q hq
    obtain ⟨j, hj⟩ := List.getElem?_of_mem hq
    obtain ⟨a, b⟩ := List.getElem?_zip_eq_some.mp hj
    obtain ⟨c, c1, _, g⟩ := h2 j q.2 b
    rw [c1] at a
    rw [← Option.some.inj a]
    exact g.is
  · rw [levT]
    have : levTs ts ≤ top - n.lev := by
      have : ∀ qs : List Tr, (∀ t ∈ qs, levT t ≤ top - n.lev) → levTs qs ≤ top - n.lev := fun qs => by
        induction qs with
        | nil => intro _; simp [levTs]
        | cons b bs ih =>
          intro h
          rw [levTs]
          have := h b List.mem_cons_self
          have := ih fun q hq => h q (List.mem_cons_of_mem _ hq)
          omega
      refine this ts fun t ht => ?_
      obtain ⟨j, hj⟩ := List.getElem?_of_mem ht
      obtain ⟨c, _, c2, g⟩ := h2 j t hj
      have := g.lev
      omega
    omega
  · rw [smallT, smallTs_iff]
    refine ⟨hm, fun t ht => ?_⟩
    obtain ⟨j, hj⟩ := List.getElem?_of_mem ht
    obtain ⟨c, _, _, g⟩ := h2 j t hj
    exact g.small
  · rw [okT, okTs_iff]
    refine ⟨rok.1, ?_⟩
    first
      | exact fun t ht => by
          obtain ⟨j, hj⟩ := List.getElem?_of_mem ht
          obtain ⟨c, _, _, g⟩ := h2 j t hj
          exact g.ok
      | exact ⟨by have := rok.2.1; omega, fun t ht => by
          obtain ⟨j, hj⟩ := List.getElem?_of_mem ht
          obtain ⟨c, _, _, g⟩ := h2 j t hj
          exact g.ok⟩
def GoodK (w : Wood) (top : Nat) (ns : List Nd) (tf : Nat → Tr) (k : Nat) (n : Nd) : Prop := GoodT w top n (tf k) ∧ trBs (tf k) = n.kids.map tf ∧ ∃ r ∈ rowsOf w n.kind, trNm (tf k) = r.nm ∧ ∀ (j b : Nat), n.kids[j]? = some b → k < b ∧ ∃ c, ns[b]? = some c ∧ r.br[j]? = some c.kind
noncomputable section
def ndD (n : Nd) : PyData := .list [.str n.kind, .int (n.lev : Nat), rowD n.row, .int n.mark, .list (n.kids.map fun j : Nat => .int (j : Nat))]
def ndsD (ns : List Nd) : PyData := .list (ns.map ndD)
theorem viewD_nd (n : Nd) : viewD (encNd n) = ndD n := by
  unfold encNd ndF ndD
  rw [viewD_l]
  have : viewD (.l (n.kids.map fun j : Nat => Ow.d (.int (j : Nat)))) = .list (n.kids.map fun j : Nat => .int (j : Nat)) := viewD_of (fun j : Nat => PyData.int (j : Nat)) n.kids
  simp only [viewAll, viewD_d, this]
theorem viewD_nds (ns : List Nd) : viewD (ndsO ns) = ndsD ns := by
  unfold ndsO ndsD
  rw [viewD_l]
  congr 1
  induction ns with
  | nil => rfl
  | cons n ns ih => rw [List.map_cons, List.map_cons, viewAll, viewD_nd, ih]
theorem ndsD_ix {ns : List Nd} {k : Nat} {n : Nd} (h : ns[k]? = some n) : gIx (ndsD ns) (.int (k : Nat)) = some (ndD n) := by
  show atI (ns.map ndD) _ = _
  exact atI_natD (by rw [List.getElem?_map, h]; rfl)
theorem ndsD_len (ns : List Nd) : gLen [ndsD ns] = some (.d (.int (ns.length : Nat))) := by show some (Ow.d (.int (ns.map ndD).length)) = _; rw [List.length_map]
theorem nd_d0 (n : Nd) : gIx (ndD n) (.int 0) = some (.str n.kind) := by unfold ndD; simp
theorem nd_d2 (n : Nd) : gIx (ndD n) (.int 2) = some (rowD n.row) := by unfold ndD; simp
theorem nd_d3 (n : Nd) : gIx (ndD n) (.int 3) = some (.int n.mark) := by unfold ndD; simp
theorem nd_d4 (n : Nd) : gIx (ndD n) (.int 4) = some (.list (n.kids.map fun j : Nat => .int (j : Nat))) := by unfold ndD; simp
theorem eq_tnil {ds : List D} (h : Nice (.tuple ds)) : gEq (.tuple ds) (.tuple []) = some (.bool ds.isEmpty) := by
  have n0 : Nice (.tuple []) := ⟨rfl, by simp [PyData.depth, PyData.depthAll]⟩
  rw [gEq_nice h n0]
  cases ds with
  | nil => rw [eqv_self n0]; rfl
  | cons d ds => rfl
abbrev bdEnds : Ev → R Ow := (eLc (eB (eDictIx (eVar 0) (eBin gIx (eBin gIx (eVar 1) (eVar 4)) (eC (.int 0)))) itD) (gtName 7) (eB (eBin gEq (eBin gIx (eVar 7) (eC (.int 1))) (eTup aNil)) asB) (eM (eVar 7) Ow.d) (List.map (·.2) ([("_law_end", 7)] : List (Str × Nat))))
abbrev bdKids : Ev → R Ow := (eLc (eB (eBin gIx (eBin gIx (eVar 1) (eVar 4)) (eC (.int 4))) itD) (gtName 8) cYes (eM (eBin gIx (eB (eVarO 2) shD) (eVar 8)) Ow.d) (List.map (·.2) ([("_law_j", 8)] : List (Str × Nat))))
abbrev bdIf (f13 : List D → R Ow) : Ev → SR := (sIf (eB (eBin gIsN (eVar 5) (eC .none)) asB)
    (sSeq (sSet 6 (eM (eM bdEnds viewD) Ow.d))
    (sSet 5 (eM (eBin gIx (eVar 6) (eBin gMod (eM (eB (aCons (eBin gIx (eBin gIx (eVar 1) (eVar 4)) (eC (.int 3))) (aCons (eVar 4) aNil)) f13) viewD) (eM (eCa gLen (aCons (eVar 6) aNil)) viewD))) Ow.d)))
    sSkip)
abbrev bdBody (f13 : List D → R Ow) : Ev → SR := (sSeq (sSet 5 (eM (eBin gIx (eBin gIx (eVar 1) (eVar 4)) (eC (.int 2))) Ow.d))
    (sSeq (bdIf f13)
    (sPut 2 (eM (eTup (aCons (eBin gIx (eVar 5) (eC (.int 0))) (aCons (eBin gIx (eBin gIx (eVar 1) (eVar 4)) (eC (.int 3))) (aCons (eM (eCa gTuple (aCons (eB bdKids shD) aNil)) viewD) aNil)))) Ow.d) (eVar 4))))
abbrev bBuilt (f13 : List D → R Ow) : Ev → SR := (sSeq (sSet 2 (eLc (eB (eVar 1) itD) (gtName 3) cYes (eM (eC .none) Ow.d) (List.map (·.2) ([("_law_node", 3)] : List (Str × Nat)))))
    (sSeq (sFor (eB (eM (eCa gLen (aCons (eVar 1) aNil)) viewD) rgRev) (gtName 4)
    (bdBody f13))
    (sRetV 2)))
def tsAt (n i : Nat) (tf : Nat → Tr) : List PyData := (List.range n).map fun k => if n - i ≤ k then encT (tf k) else .none
theorem tsAt_len (n i : Nat) (tf : Nat → Tr) : (tsAt n i tf).length = n := by unfold tsAt; rw [List.length_map, List.length_range]
section
variable {w : Wood} (hw : WoodOk w) {top : Nat} {ns : List Nd} {bare : List Nat} (hI : GInv w top ns bare) (hl : ns.length ≤ 200) {f13 : List D → R Ow} (h13 : ∀ (c : Int) (j : Nat), j ≤ 1000 → f13 [.int c, .int (j : Nat)] = .ok (.d (.int (mixI c (j : Nat)))))
include hw hI hl h13
theorem bd_row {k : Nat} {n : Nd} (hk : ns[k]? = some n) (T2 x3 x5 x6 x8 : Option Ow) : ∃ (r : Rw) (y6 : Option Ow), r ∈ rowsOf w n.kind ∧ n.kids.length = r.br.length ∧ (∀ (j q : Nat), n.kids[j]? = some q → k < q ∧ ∃ c, ns[q]? = some c ∧ r.br[j]? = some c.kind ∧ c.lev = n.lev + 1) ∧
    bdIf f13 [some (.d (encWd w)), some (.d (ndsD ns)), T2, x3, some (.d (.int (k : Nat))), some (.d (rowD n.row)), x6, none, x8] = .nx [some (.d (encWd w)), some (.d (ndsD ns)), T2, x3, some (.d (.int (k : Nat))), some (.d (encRw r)), y6, none, x8] := by
  have kl := (List.getElem?_eq_some_iff.mp hk).1
  have q := hI.each k n hk
  cases hr : n.row with
  | some r =>
    obtain ⟨a, b, c, d⟩ := q.full r hr
    refine ⟨r, x6, a, c, d, ?_⟩
    have n1 : isNone (rowD (some r)) = false := rfl
    show bdIf f13 [_, _, _, _, _, some (.d (encRw r)), _, _, _] = _
    change isNone (encRw r) = false at n1
    generalize encRw r = ER at n1
    generalize encWd w = W
    generalize ndsD ns = ND
    simp [n1]
  | none =>
    obtain ⟨p, hp, hpk⟩ := List.mem_map.mp q.kind
    have rp : rowsOf w n.kind = p.2 := by rw [← hpk]; exact rowsOf_kind hw.kinds hp
    obtain ⟨r0, r01, r02⟩ := hw.leaf p hp
    have em : r0 ∈ p.2.filter fun r => r.br.isEmpty := by rw [List.mem_filter]; exact ⟨r01, by rw [r02]; rfl⟩
    have l0 : 0 < (p.2.filter fun r => r.br.isEmpty).length := List.length_pos_of_mem em
    have m13 := h13 n.mark k (by omega)
    obtain ⟨i, hi, il⟩ := emod_nat (c := mixI n.mark (k : Nat)) (n := (p.2.filter fun r => r.br.isEmpty).length) l0
    have gm : gMod (.int (mixI n.mark (k : Nat))) (.int ((p.2.filter fun r => r.br.isEmpty).length : Nat)) = some (.int (i : Nat)) := by rw [gMod_int (by omega), hi]
    have ei := List.getElem?_eq_getElem il
    obtain ⟨r, hre⟩ : ∃ r, (p.2.filter fun r => r.br.isEmpty)[i] = r := ⟨_, rfl⟩
    rw [hre] at ei
    have rm := List.mem_of_getElem? ei
    rw [List.mem_filter] at rm
    have rb : r.br = [] := List.isEmpty_iff.mp rm.2
    have kn := q.bare hr
    refine ⟨r, some (.d (rwsD (p.2.filter fun r => r.br.isEmpty))), by rw [rp]; exact rm.1, by rw [kn, rb]; rfl, fun j q hq => by rw [kn] at hq; simp at hq, ?_⟩
    have ap := asPairs_wd w
    have lp := lastP_wd (k := n.kind) hw.kinds
    have an : (w.any fun q => q.1 == n.kind) = true := by rw [List.any_eq_true]; exact ⟨p, hp, by rw [hpk]; exact beq_self_eq_true _⟩
    rw [an, if_pos rfl, rp] at lp
    have ix := ndsD_ix hk
    have i0 := nd_d0 n
    have i3 := nd_d3 n
    have nn : isNone (rowD none) = true := rfl
    have ct : (eB (eBin gIsN (eVar 5) (eC .none)) asB) [some (.d (encWd w)), some (.d (ndsD ns)), T2, x3, some (.d (.int (k : Nat))), some (.d (rowD none)), x6, none, x8] = .ok true := by
      generalize encWd w = W
      generalize ndsD ns = ND
      generalize rowD none = RN at nn
      simp [nn]
    show sIf _ _ _ _ = _
    rw [sIf_eq, ct, R.st_ok, if_pos rfl]
    have lc : bdEnds [some (.d (encWd w)), some (.d (ndsD ns)), T2, x3, some (.d (.int (k : Nat))), some (.d (rowD none)), x6, none, x8] = .ok (.l ((p.2.filter fun r => r.br.isEmpty).map fun r => .d (encRw r))) := by
      show eLc _ _ _ _ _ _ = _
      refine eLc_of (ds := p.2.map encRw) ?_ (by rw [List.length_map, sizeLine_eq]; have := hw.few p hp; omega) (lcR_filt encRw (fun r => r.br.isEmpty) _ p.2 fun r hr => ?_)
      · have i2 : itD (rwsD p.2) = .ok (p.2.map encRw) := rfl
        generalize rwsD p.2 = RW at lp i2
        generalize ndD n = NN at ix i0
        generalize ndsD ns = ND at ix
        generalize prsOf w = PR at ap lp
        generalize encWd w = W at ap
        generalize rowD none = RN
        simp [ix, i0, ap, lp, i2]
      · have ok := hw.rok p hp r hr
        have i1 := rw_ix1 r
        have nb : gEq (brD r.br) (.tuple []) = some (.bool r.br.isEmpty) := by
          have := eq_tnil (nice_strs (l := r.br) fun z hz => by
            obtain ⟨q, hq, rfl⟩ := List.mem_map.mp (ok.2.2 z hz)
            exact hw.kok q hq)
          rwa [List.isEmpty_map] at this
        refine ⟨[some (.d (encWd w)), some (.d (ndsD ns)), T2, x3, some (.d (.int (k : Nat))), some (.d (rowD none)), x6, some (.d (encRw r)), x8], by
          generalize encWd w = W
          generalize ndsD ns = ND
          generalize rowD none = RN
          simp [wipeE], ?_, fun _ => rfl⟩
        generalize r.br.isEmpty = B at nb
        generalize brD r.br = BD at nb i1
        generalize encRw r = ER at i1
        generalize encWd w = W
        generalize ndsD ns = ND
        generalize rowD none = RN
        simp [i1, nb, sizeLine_eq]
    have vc : viewD (.l ((p.2.filter fun r => r.br.isEmpty).map fun r => .d (encRw r))) = rwsD (p.2.filter fun r => r.br.isEmpty) := viewD_of encRw _
    refine seq_nx (env1 := [some (.d (encWd w)), some (.d (ndsD ns)), T2, x3, some (.d (.int (k : Nat))), some (.d (rowD none)), some (.d (rwsD (p.2.filter fun r => r.br.isEmpty))), none, x8]) (by
      rw [sSet_eq, eM_eq, eM_eq]
      refine (congrArg (fun r => R.st _ (R.map Ow.d (R.map viewD r)) _) lc).trans ?_
      rw [R.map_ok, R.map_ok, vc, R.st_ok]
      rfl) ?_
    have fln := rws_len (p.2.filter fun r => r.br.isEmpty)
    have fix : gIx (rwsD (p.2.filter fun r => r.br.isEmpty)) (.int (i : Nat)) = some (encRw r) := by
      show atI ((p.2.filter fun r => r.br.isEmpty).map encRw) _ = _
      exact atI_natD (by rw [List.getElem?_map, ei]; rfl)
    generalize encRw r = ER at fix
    generalize rwsD (p.2.filter fun r => r.br.isEmpty) = RF at fln fix
    generalize (((p.2.filter fun r => r.br.isEmpty).length : Nat) : Int) = FL at fln gm
    generalize mixI n.mark (k : Nat) = MM at m13 gm
    generalize ndD n = NN at ix i3
    generalize ndsD ns = ND at ix
    generalize encWd w = W
    generalize rowD none = RN
    simp [ix, i3, m13, fln, gm, fix]
omit hl in
omit hw h13 in
theorem kids_gt {i : Nat} {n : Nd} (h : ns[i]? = some n) : ∀ b ∈ n.kids, i < b := fun b hb => by
  have q := hI.each i n h
  obtain ⟨j, hj⟩ := List.getElem?_of_mem hb
  cases hr : n.row with
  | none => rw [q.bare hr] at hb; cases hb
  | some r => exact ((q.full r hr).2.2.2 j b hj).1
theorem bd_step (i : Nat) (hi : i < ns.length) (tf : Nat → Tr) (hg : ∀ (k : Nat) (n : Nd), ns.length - i ≤ k → ns[k]? = some n → GoodK w top ns tf k n) (x3 x4 x5 x6 : Option Ow) : ∃ tf' y5 y6, (∀ (k : Nat) (n : Nd), ns.length - (i + 1) ≤ k → ns[k]? = some n → GoodK w top ns tf' k n) ∧
    bdBody f13 [some (.d (encWd w)), some (.d (ndsD ns)), some (.l ((tsAt ns.length i tf).map Ow.d)), x3, some (.d (.int ((ns.length - 1 - i : Nat) : Int))), x5, x6, none, none] = .nx [some (.d (encWd w)), some (.d (ndsD ns)), some (.l ((tsAt ns.length (i + 1) tf').map Ow.d)), x3, some (.d (.int ((ns.length - 1 - i : Nat) : Int))), y5, y6, none, none] := by
  obtain ⟨k, hk⟩ : ∃ k, k = ns.length - 1 - i := ⟨_, rfl⟩
  rw [← hk]
  have kl : k < ns.length := by omega
  have ek := List.getElem?_eq_getElem kl
  obtain ⟨n, hn⟩ : ∃ n, ns[k] = n := ⟨_, rfl⟩
  rw [hn] at ek
  obtain ⟨r, y6, r1, r2, r3, rst⟩ := bd_row hw hI hl h13 ek (some (.l ((tsAt ns.length i tf).map Ow.d))) x3 (some (.d (rowD n.row))) x6 none
  have q := hI.each k n ek
  obtain ⟨ts, hts⟩ : ∃ ts, ts = n.kids.map tf := ⟨_, rfl⟩
  have good : GoodT w top n (.mk r.nm n.mark ts) := goodT_mk hw q.kind q.lev.2 q.mark r1 ts (by rw [hts, List.length_map]; exact r2) fun j t ht => by
    rw [hts, List.getElem?_map] at ht
    cases hj : n.kids[j]? with
    | none => rw [hj] at ht; cases ht
    | some b =>
      rw [hj] at ht
      have e : tf b = t := Option.some.inj ht
      obtain ⟨kb, c, c1, c2, c3⟩ := r3 j b hj
      rw [← e]
      exact ⟨c, c2, c3, (hg b c (by omega) c1).1⟩
  have kmap : ∀ (l : List Nat), (∀ b ∈ l, k < b) → l.map tf = l.map fun j => if j = k then Tr.mk r.nm n.mark ts else tf j := fun l h => List.map_congr_left fun b hb => by
    have := h b hb
    rw [if_neg (by omega)]
  refine ⟨fun j => if j = k then .mk r.nm n.mark ts else tf j, some (.d (encRw r)), y6, fun j m hj hm => ?_, ?_⟩
  · unfold GoodK
    rw [← kmap m.kids fun b hb => by have := kids_gt hI hm b hb; omega]
    by_cases e : j = k
    · subst e
      rw [ek] at hm
      cases hm
      simp only [if_true]
      exact ⟨good, hts, r, r1, rfl, fun j b hb => by obtain ⟨a, c, c1, c2, _⟩ := r3 j b hb; exact ⟨a, c, c1, c2⟩⟩
    · simp only [if_neg e]
      exact hg j m (by omega) hm
  have ix := ndsD_ix ek
  have i2 := nd_d2 n
  have i3 := nd_d3 n
  have i4 := nd_d4 n
  refine seq_nx (env1 := [some (.d (encWd w)), some (.d (ndsD ns)), some (.l ((tsAt ns.length i tf).map Ow.d)), x3, some (.d (.int (k : Nat))), some (.d (rowD n.row)), x6, none, none]) (by
    generalize rowD n.row = RR at i2
    generalize ndD n = NN at ix i2
    generalize ndsD ns = ND at ix
    generalize encWd w = W
    generalize (tsAt ns.length i tf).map Ow.d = TO
    simp [ix, i2]) ?_
  refine seq_nx rst ?_
  have sh : shD (.l ((tsAt ns.length i tf).map Ow.d)) = .ok (.list (tsAt ns.length i tf)) := shD_l _
  have lk : bdKids [some (.d (encWd w)), some (.d (ndsD ns)), some (.l ((tsAt ns.length i tf).map Ow.d)), x3, some (.d (.int (k : Nat))), some (.d (encRw r)), y6, none, none] = .ok (.l (ts.map fun t => .d (encT t))) := by
    show eLc _ _ _ _ _ _ = _
    rw [hts, List.map_map]
    refine eLc_of (ds := n.kids.map fun j : Nat => PyData.int (j : Nat)) (by
      have it : itD (.list (n.kids.map fun j : Nat => .int (j : Nat))) = .ok (n.kids.map fun j : Nat => .int (j : Nat)) := rfl
      generalize PyData.list (n.kids.map fun j : Nat => .int (j : Nat)) = KL at i4 it
      generalize ndD n = NN at ix i4
      generalize ndsD ns = ND at ix
      generalize encWd w = W
      generalize (tsAt ns.length i tf).map Ow.d = TO
      generalize encRw r = ER
      simp [ix, i4, it]) (by
      rw [List.length_map, sizeLine_eq, r2]
      obtain ⟨p, hp, hpk⟩ := List.mem_map.mp q.kind
      have rp : rowsOf w n.kind = p.2 := by rw [← hpk]; exact rowsOf_kind hw.kinds hp
      rw [rp] at r1
      have := (hw.rok p hp r r1).2.1
      omega) (lcR_map _ _ n.kids fun b hb => ?_)
    obtain ⟨j, hj⟩ := List.getElem?_of_mem hb
    obtain ⟨kb, c, c1, _, _⟩ := r3 j b hj
    have bl := (List.getElem?_eq_some_iff.mp c1).1
    have tix : gIx (.list (tsAt ns.length i tf)) (.int (b : Nat)) = some (encT (tf b)) := by
      unfold tsAt
      rw [rng_ix _ bl, if_pos (by omega)]
    refine ⟨[some (.d (encWd w)), some (.d (ndsD ns)), some (.l ((tsAt ns.length i tf).map Ow.d)), x3, some (.d (.int (k : Nat))), some (.d (encRw r)), y6, none, some (.d (.int (b : Nat)))], by
      generalize ndsD ns = ND
      generalize encWd w = W
      generalize (tsAt ns.length i tf).map Ow.d = TO
      generalize encRw r = ER
      simp [wipeE], rfl, ?_⟩
    show _ = R.ok (Ow.d (encT (tf b)))
    generalize encT (tf b) = ET at tix
    generalize PyData.list (tsAt ns.length i tf) = TL at sh tix
    generalize Ow.l ((tsAt ns.length i tf).map Ow.d) = TO at sh
    generalize ndsD ns = ND
    generalize encWd w = W
    generalize encRw r = ER
    simp [sh, tix]
  have sk : shD (.l (ts.map fun t => .d (encT t))) = .ok (.list (ts.map encT)) := unDs_of encT ts
  have gt : gTuple [.list (ts.map encT)] = some (.d (.tuple (ts.map encT))) := rfl
  have r0 := rw_ix0 r
  have ev : (eM (eTup (aCons (eBin gIx (eVar 5) (eC (.int 0))) (aCons (eBin gIx (eBin gIx (eVar 1) (eVar 4)) (eC (.int 3))) (aCons (eM (eCa gTuple (aCons (eB bdKids shD) aNil)) viewD) aNil)))) Ow.d) [some (.d (encWd w)), some (.d (ndsD ns)), some (.l ((tsAt ns.length i tf).map Ow.d)), x3, some (.d (.int (k : Nat))), some (.d (encRw r)), y6, none, none] = .ok (.d (encT (.mk r.nm n.mark ts))) := by
    have kv : (eM (eCa gTuple (aCons (eB bdKids shD) aNil)) viewD) [some (.d (encWd w)), some (.d (ndsD ns)), some (.l ((tsAt ns.length i tf).map Ow.d)), x3, some (.d (.int (k : Nat))), some (.d (encRw r)), y6, none, none] = .ok (.tuple (ts.map encT)) := by
      rw [eM_eq, eCa_eq, aCons_eq, eB_eq, lk, R.bind_ok, sk, R.bind_ok, aNil_eq, R.map_ok, R.bind_ok, gt]
      rfl
    rw [encT_mk, eM_eq, eTup_eq, aCons_eq, aCons_eq, aCons_eq, kv]
    generalize PyData.tuple (ts.map encT) = TT
    generalize ndD n = NN at ix i3
    generalize ndsD ns = ND at ix
    generalize encWd w = W
    generalize (tsAt ns.length i tf).map Ow.d = TO
    generalize encRw r = ER at r0
    simp [ix, i3, r0, sizeLine_eq]
  rw [sPut_eq, ev, R.st_ok]
  show ownL 2 _ _ = _
  rw [ownL_2]
  show R.st _ (eVar 4 _) _ = _
  rw [eVar_4, R.st_ok]
  have ixn : ixN ((tsAt ns.length i tf).map Ow.d).length ((k : Nat) : Int) = some k := ixN_nat (by rw [List.length_map, tsAt_len]; exact kl)
  show (match ixN ((tsAt ns.length i tf).map Ow.d).length ((k : Nat) : Int) with
    | some j => SR.nx _
    | none => SR.no) = _
  rw [ixn]
  have st : ((tsAt ns.length i tf).map Ow.d).set k (.d (encT (.mk r.nm n.mark ts))) = (tsAt ns.length (i + 1) (fun j => if j = k then .mk r.nm n.mark ts else tf j)).map Ow.d := by
    rw [← List.map_set]
    congr 1
    unfold tsAt
    refine List.ext_getElem (by rw [List.length_set, List.length_map, List.length_map]) fun j h1 h2 => ?_
    rw [List.length_map, List.length_range] at h2
    rw [List.getElem_set, List.getElem_map, List.getElem_map, List.getElem_range]
    by_cases e : k = j
    · subst e
      have ff : (fun j => if j = k then Tr.mk r.nm n.mark ts else tf j) k = .mk r.nm n.mark ts := if_pos rfl
      rw [if_pos rfl, if_pos (by omega), ff]
    · have ff : (fun j => if j = k then Tr.mk r.nm n.mark ts else tf j) j = tf j := if_neg (fun z => e z.symm)
      rw [if_neg e, ff]
      by_cases c : ns.length - i ≤ j
      · rw [if_pos c, if_pos (by omega)]
      · rw [if_neg c, if_neg (by omega)]
  simp only
  rw [st]
  rfl
theorem built_fin : ∃ tf : Nat → Tr, (∀ (k : Nat) (n : Nd), ns[k]? = some n → GoodK w top ns tf k n) ∧ finR (bBuilt f13 (envOf 7 [encWd w, ndsD ns])) = .ok (.l ((List.range ns.length).map fun k => .d (encT (tf k)))) := by
  have he : envOf 7 [encWd w, ndsD ns] = [some (.d (encWd w)), some (.d (ndsD ns)), none, none, none, none, none, none, none] := rfl
  rw [he]
  have i1 : itD (ndsD ns) = .ok (ns.map ndD) := rfl
  have lc : eLc (eB (eVar 1) itD) (gtName 3) cYes (eM (eC .none) Ow.d) (List.map (·.2) ([("_law_node", 3)] : List (Str × Nat))) [some (.d (encWd w)), some (.d (ndsD ns)), none, none, none, none, none, none, none] = .ok (.l ((tsAt ns.length 0 (fun _ => noTr)).map Ow.d)) := by
    have e : (tsAt ns.length 0 (fun _ => noTr)).map Ow.d = ns.map fun _ => Ow.d .none := by
      unfold tsAt
      rw [List.map_map]
      refine List.ext_getElem (by rw [List.length_map, List.length_map, List.length_range]) fun j h1 h2 => ?_
      rw [List.length_map] at h2
      rw [List.getElem_map, List.getElem_map, List.getElem_range]
      show Ow.d (if ns.length - 0 ≤ j then encT noTr else .none) = Ow.d .none
      rw [if_neg (by omega)]
    rw [e]
    refine eLc_of (ds := ns.map ndD) (by generalize ndsD ns = ND at i1; generalize encWd w = W; simp [i1]) (by rw [List.length_map, sizeLine_eq]; omega) (lcR_map ndD _ ns fun n _ => ⟨[some (.d (encWd w)), some (.d (ndsD ns)), none, some (.d (ndD n)), none, none, none, none, none], by generalize ndsD ns = ND; generalize encWd w = W; simp [wipeE], rfl, rfl⟩)
  obtain ⟨env', e1, tf, x4, x5, x6, e2, hg⟩ := forL_map (g := gtName 4) (f := bdBody f13) (fun i : Nat => PyData.int ((ns.length - 1 - i : Nat) : Int)) (List.range ns.length)
    (fun i env => ∃ (tf : Nat → Tr) (x4 x5 x6 : Option Ow), env = [some (.d (encWd w)), some (.d (ndsD ns)), some (.l ((tsAt ns.length i tf).map Ow.d)), none, x4, x5, x6, none, none] ∧ ∀ (k : Nat) (n : Nd), ns.length - i ≤ k → ns[k]? = some n → GoodK w top ns tf k n) (fun i j env hj ⟨tf, x4, x5, x6, e, hg⟩ => by
      subst e
      obtain ⟨q1, q2⟩ := List.getElem?_eq_some_iff.mp hj
      rw [List.length_range] at q1
      rw [List.getElem_range] at q2
      subst q2
      obtain ⟨tf', y5, y6, g, st⟩ := bd_step hw hI hl h13 i q1 tf hg none x4 x5 x6
      exact ⟨_, rfl, _, .inl st, tf', _, y5, y6, rfl, g⟩) [some (.d (encWd w)), some (.d (ndsD ns)), some (.l ((tsAt ns.length 0 (fun _ => noTr)).map Ow.d)), none, none, none, none, none, none] ⟨_, none, none, none, rfl, fun k n h hn => by
        have := (List.getElem?_eq_some_iff.mp hn).1
        omega⟩
  subst e2
  rw [List.length_range] at e1 hg
  refine ⟨tf, fun k n hn => hg k n (by omega) hn, ?_⟩
  refine fin_step (env1 := [some (.d (encWd w)), some (.d (ndsD ns)), some (.l ((tsAt ns.length 0 (fun _ => noTr)).map Ow.d)), none, none, none, none, none, none]) (by
    rw [sSet_eq, lc, R.st_ok]
    rfl) ?_
  refine fin_step (env1 := [some (.d (encWd w)), some (.d (ndsD ns)), some (.l ((tsAt ns.length ns.length tf).map Ow.d)), none, x4, x5, x6, none, none]) (by
    have ln := ndsD_len ns
    have it : (eB (eM (eCa gLen (aCons (eVar 1) aNil)) viewD) rgRev) [some (.d (encWd w)), some (.d (ndsD ns)), some (.l ((tsAt ns.length 0 (fun _ => noTr)).map Ow.d)), none, none, none, none, none, none] = .ok ((List.range ns.length).map fun i : Nat => PyData.int ((ns.length - 1 - i : Nat) : Int)) := by
      have rg := rgRev_nat ns.length (by omega)
      generalize ndsD ns = ND at ln
      generalize encWd w = W
      generalize (tsAt ns.length 0 (fun _ => noTr)).map Ow.d = TO
      simp only [eB_eq, eM_eq, eCa_eq, aCons_eq, eVar_1, aNil_eq, R.bind_ok, R.map_ok, ln, R.of_some, viewD_d]
      exact rg
    rw [sFor_eq, it, R.st_ok, e1]) ?_
  have e : (tsAt ns.length ns.length tf).map Ow.d = (List.range ns.length).map fun k => Ow.d (encT (tf k)) := by
    unfold tsAt
    rw [List.map_map]
    refine List.map_congr_left fun k hk => ?_
    show Ow.d (if ns.length - ns.length ≤ k then encT (tf k) else .none) = _
    rw [if_pos (by omega)]
  rw [← e]
  rfl
end
end
end Mir
set_option Elab.async false
set_option linter.all false
set_option maxRecDepth 100000
set_option maxHeartbeats 4000000
namespace Mir
open PySem PySem.Spec L2
noncomputable section
abbrev lrStep : Ev → SR := (sIf (eB (eBin gEq (eBin gIx (eVar 5) (eC (.int 0))) (eVar 2)) asB)
    (sRet (eM (eVar 6) Ow.d))
    sSkip)
abbrev bLawRule : Ev → SR := (sSeq (sAsg (gtTup 2 (gtCons (gtName 3) (gtCons (gtName 4) gtNil))) (eBin gIx (eBin gIx (eVar 0) (eC (.int 2))) (eVar 1)))
    (sSeq (sFor (eB (aCons (eDictIx (eBin gIx (eVar 0) (eC (.int 0))) (eVar 3)) (aCons (eVar 4) aNil)) zpArg) (gtTup 2 (gtCons (gtName 5) (gtCons (gtName 6) gtNil)))
    lrStep)
    (sRet (eM (eC .none) Ow.d))))
theorem rule_find (nm : Str) (f : Trm → Ow) : ∀ (rs : List Rw) (ts : List Trm) (k : Nat), rs.length = ts.length → ((rs.zip ts).findSome? fun q => if q.1.nm == nm then some (f q.2) else none) = (numOf rs nm k).bind fun i => (ts[i - k]?).map f
  | [], ts, k, _ => rfl
  | r :: rs, [], k, h => by simp at h
  | r :: rs, t :: ts, k, h => by
    rw [List.zip_cons_cons, List.findSome?_cons, numOf]
    cases c : r.nm == nm with
    | true => simp
    | false =>
      simp only [Bool.false_eq_true, if_false]
      rw [rule_find nm f rs ts (k + 1) (by simpa using h)]
      cases hn : numOf rs nm (k + 1) with
      | none => rfl
      | some i =>
        have := (numOf_lt hn).1
        show (ts[i - (k + 1)]?).map f = ((t :: ts)[i - k]?).map f
        rw [show i - k = (i - (k + 1)) + 1 from by omega, List.getElem?_cons_succ]
theorem lawRule_fin {t : Trn} (hd : (t.wood.map (·.1)).Nodup) {k : Nat} {p : Str × List Trm} (hk : t.modes[k]? = some p) (hp : p.1 ∈ t.wood.map (·.1)) (nm : Str) (hl : p.2.length = (rowsOf t.wood p.1).length) : finR (bLawRule (envOf 4 [encTn t, .int (k : Nat), .str nm])) = .ok (.d (ruleOf t.wood p nm)) := by
  have he : envOf 4 [encTn t, .int (k : Nat), .str nm] = [some (.d (encTn t)), some (.d (.int (k : Nat))), some (.d (.str nm)), none, none, none, none] := rfl
  rw [he]
  have i0 := w_ix0 t
  have i2 : gIx (encTn t) (.int 2) = some (moD t.modes) := w_ix2 t
  have ik := mo_ix hk
  refine fin_step (env1 := [some (.d (encTn t)), some (.d (.int (k : Nat))), some (.d (.str nm)), some (.d (.str p.1)), some (.d (trsD p.2)), none, none]) (by
    rw [encMo_tup] at ik
    generalize trsD p.2 = T at ik ⊢
    generalize moD t.modes = M at i2 ik
    generalize encTn t = TT at i2
    simp [i2, ik]) ?_
  obtain ⟨env', ⟨x5, x6, rfl⟩, lp⟩ := forL_first (g := gtTup 2 (gtCons (gtName 5) (gtCons (gtName 6) gtNil))) (f := lrStep) encRT (fun q : Rw × Trm => if q.1.nm == nm then some (Ow.d (encM q.2)) else none) (fun env => ∃ x5 x6, env = [some (.d (encTn t)), some (.d (.int (k : Nat))), some (.d (.str nm)), some (.d (.str p.1)), some (.d (trsD p.2)), x5, x6]) ((rowsOf t.wood p.1).zip p.2) (fun q _ env ⟨x5, x6, e⟩ => by
      subst e
      refine ⟨[some (.d (encTn t)), some (.d (.int (k : Nat))), some (.d (.str nm)), some (.d (.str p.1)), some (.d (trsD p.2)), some (.d (encRw q.1)), some (.d (encM q.2))], rfl, [some (.d (encTn t)), some (.d (.int (k : Nat))), some (.d (.str nm)), some (.d (.str p.1)), some (.d (trsD p.2)), some (.d (encRw q.1)), some (.d (encM q.2))], ⟨_, _, rfl⟩, ?_⟩
      have r0 := rw_ix0 q.1
      generalize encM q.2 = A
      generalize encRw q.1 = B at r0
      generalize trsD p.2 = T
      generalize encTn t = TT
      cases c : q.1.nm == nm <;> simp [gEq_str, r0, c, orRt]) [some (.d (encTn t)), some (.d (.int (k : Nat))), some (.d (.str nm)), some (.d (.str p.1)), some (.d (trsD p.2)), none, none] ⟨none, none, rfl⟩
  rw [rule_find nm (fun T => Ow.d (encM T)) _ _ 0 hl.symm] at lp
  have ap := asPairs_wd t.wood
  have lp0 := lastP_wd (k := p.1) hd
  have an : (t.wood.any fun q => q.1 == p.1) = true := by
    obtain ⟨q, hq, e⟩ := List.mem_map.mp hp
    rw [List.any_eq_true]
    exact ⟨q, hq, by rw [e]; exact beq_self_eq_true _⟩
  rw [an, if_pos rfl] at lp0
  have z := zip_rt (rowsOf t.wood p.1) p.2
  have e3 : (eB (aCons (eDictIx (eBin gIx (eVar 0) (eC (.int 0))) (eVar 3)) (aCons (eVar 4) aNil)) zpArg) [some (.d (encTn t)), some (.d (.int (k : Nat))), some (.d (.str nm)), some (.d (.str p.1)), some (.d (trsD p.2)), none, none] = .ok (((rowsOf t.wood p.1).zip p.2).map encRT) := by
    rw [← z]
    generalize encTn t = TT at i0
    generalize encWd t.wood = W at i0 ap
    generalize trsD p.2 = T
    generalize rwsD (rowsOf t.wood p.1) = RS at lp0
    generalize prsOf t.wood = PW at ap lp0
    simp [i0, ap, lp0]
  show finR (sSeq _ _ _) = _
  rw [sSeq_eq, sFor_eq, e3, R.st_ok, lp]
  unfold ruleOf
  cases hn : numOf (rowsOf t.wood p.1) nm 0 with
  | none => simp [orRt]
  | some i =>
    have hi := (numOf_lt hn).2
    have hlt : i < p.2.length := by omega
    have e : p.2[i]? = some p.2[i] := List.getElem?_eq_getElem hlt
    rw [Option.bind_some, Nat.sub_zero, e]
    simp only [e]
    simp [orRt]
end
end Mir
set_option Elab.async false
set_option linter.all false
set_option maxRecDepth 100000
set_option maxHeartbeats 4000000
namespace Mir
open PySem PySem.Spec L2
noncomputable section
section
variable {t : Trn} {ns : List Nd} {TS BL : D} {f28 f30 : List D → R Ow} {u : Tr} {k : Nat} {n : Nd}
end
section
variable {t : Trn} {B top : Nat} (hw : WoodOk t.wood) (ok : SndT t B) {ns : List Nd} {tf : Nat → Tr} (hl : ns.length ≤ 200) (hg : ∀ (k : Nat) (n : Nd), ns[k]? = some n → GoodK t.wood top ns tf k n) (hkl : ∀ (k : Nat) (n : Nd), ns[k]? = some n → n.kids.length ≤ 1000)
  {f28 f30 : List D → R Ow} (h28 : ∀ (c : Nat) (p : Str × List Trm), t.modes[c]? = some p → ∀ nm, f28 [encTn t, .int (c : Nat), .str nm] = .ok (.d (ruleOf t.wood p nm)))
  (h30 : ∀ (u : Tr) (T : Trm) (bl : List D), levM T ≤ B → (∀ c ∈ callsM T, ∃ ps, atI bl c.2 = some (.dict ps) ∧ getP ps (.int c.1) = some (mesD (madT t u (.call c.1 c.2)))) → f30 [encM T, .list bl] = .ok (.d (mesD (madT t u T))))
include hw ok hg
include hl hkl h28 h30
end
end
end Mir
set_option Elab.async false
set_option linter.all false
set_option maxRecDepth 100000
set_option maxHeartbeats 4000000
namespace Mir
open PySem PySem.Spec L2
noncomputable section
theorem cutL_both {α : Type} (xs : List α) (a b : Nat) : cutL xs (some (a : Int)) (some (b : Int)) = (xs.take b).drop a := by
  unfold cutL
  rw [HT.sIx_nat, HT.sIx_nat, List.drop_take]
  by_cases c : b ≤ xs.length
  · by_cases c2 : a ≤ xs.length
    · rw [show min b xs.length = b from by omega, show min a xs.length = a from by omega]
    · rw [List.drop_of_length_le (by omega), List.drop_of_length_le (i := a) (by omega)]
      simp
  · by_cases c2 : a ≤ xs.length
    · rw [show min a xs.length = a from by omega, List.take_of_length_le (by rw [List.length_drop]; omega), List.take_of_length_le (by rw [List.length_drop]; omega)]
    · rw [List.drop_of_length_le (by omega), List.drop_of_length_le (i := a) (by omega)]
      simp
end
end Mir
set_option Elab.async false
set_option linter.all false
set_option maxRecDepth 100000
set_option maxHeartbeats 4000000
namespace Mir
open PySem PySem.Spec L2
noncomputable section
abbrev bLawLabel : Ev → SR := (sRet (eM (eTup (aCons (eBin gIx (eVar 0) (eC (.int 1))) (aCons (eM (eBinO gAdd (eBin gIx (eVar 0) (eC (.int 3))) (eBin gMul (eBin gIx (eVar 1) (eC (.int 1))) (eM (eCa gInt (aCons (eBin gIx (eVar 0) (eC (.int 2))) aNil)) viewD))) viewD) (aCons (eM (eCa gLen (aCons (eBin gIx (eVar 0) (eC (.int 4))) aNil)) viewD) aNil)))) Ow.d))
theorem lab_put (t : Trn) (nm : Str) (kp : Bool) (ad : Int) (ps : List Trm) (n2 : Str) (mk : Int) (bs : List Tr) : labD (some (madT t (.mk n2 mk bs) (.put nm kp ad ps))) = .tuple [.str nm, .int (mkOf kp ad mk), .int (ps.length : Nat)] := by
  rw [madT_put]
  unfold labD
  simp only
  rw [List.length_map]
theorem lawLabel_fin (t : Trn) (nm : Str) (kp : Bool) (ad : Int) (ps : List Trm) (u : Tr) : finR (bLawLabel (envOf 0 [encM (.put nm kp ad ps), encT u])) = .ok (.d (labD (some (madT t u (.put nm kp ad ps))))) := by
  obtain ⟨n2, mk, bs⟩ := u
  have he : envOf 0 [encM (.put nm kp ad ps), encT (.mk n2 mk bs)] = [some (.d (encM (.put nm kp ad ps))), some (.d (encT (.mk n2 mk bs)))] := rfl
  rw [he, lab_put, ← mk_eq]
  have m1 := m_ix1 nm kp ad ps
  have m2 := m_ix2 nm kp ad ps
  have m3 := m_ix3 nm kp ad ps
  have m4 := m_ix4 nm kp ad ps
  have l4 := tup_len (ps.map encM)
  rw [List.length_map] at l4
  have j1 := t_ix1 n2 mk bs
  have g0 : gMul (.int mk) (.int 0) = some (.int (mk * 0)) := gMul_by (by decide) (by decide)
  have g1 : gMul (.int mk) (.int 1) = some (.int (mk * 1)) := gMul_by (by decide) (by decide)
  generalize PyData.tuple (ps.map encM) = TP at m4 l4
  generalize encM (.put nm kp ad ps) = E at m1 m2 m3 m4
  generalize encT (.mk n2 mk bs) = U at j1
  cases kp <;> simp [m1, m2, m3, m4, l4, j1, g0, g1, sizeLine_eq]
theorem atT_app : ∀ (p : List Int) (t : Tr) (q : List Int), atT t (p ++ q) = (atT t p).bind fun o => atT o q
  | [], t, q => by rw [List.nil_append, atT]; rfl
  | b :: p, .mk nm mk bs, q => by
    rw [List.cons_append, atT, atT]
    split
    · split
      · exact atT_app p _ q
      · rfl
    · rfl
/-- a place of what is made, the put that stands there and what it reads -/
structure AtP (t : Trn) (B L : Nat) (o : Tr) (p : List Int) (nm : Str) (kp : Bool) (ad : Int) (ps : List Trm) (u : Tr) (ks : List Str) : Prop where
  at_ : atT o p = some (madT t u (.put nm kp ad ps))
  fit : FitT t ks (.put nm kp ad ps)
  good : GoodM B (.put nm kp ad ps)
  kids : KidsOk t.wood ks u
  lev : levT u ≤ L
theorem AtP.step {t : Trn} {B L : Nat} {o : Tr} {p : List Int} {nm : Str} {kp : Bool} {ad : Int} {ps : List Trm} {u : Tr} {ks : List Str} (h : AtP t B L o p nm kp ad ps u ks) {f : List D → R Ow} (hs : Settles t B L f) {i : Nat} {T : Trm} (hi : ps[i]? = some T) :
    ∃ nm' kp' ad' ps' u' ks', AtP t B L o (p ++ [(i : Int)]) nm' kp' ad' ps' u' ks' ∧ f [encTn t, encM T, encT u] = .ok (.d (.tuple [encM (.put nm' kp' ad' ps'), encT u'])) := by
  have hm := List.mem_of_getElem? hi
  have okp : okM T := by have := h.good.ok; rw [okM, okMs_iff] at this; exact this.2.2 _ hm
  have lvp : levM T ≤ B := by have := h.good.lev; rw [levM] at this; exact levMs_le (by omega) _ hm
  have szp : sizeM T ≤ 1000 := by have := h.good.few; rw [sizeM] at this; have := sizeMs_memM hm; omega
  obtain ⟨nm2, kp2, ad2, ps2, u2, ks2, s1, s2, s3, s4, s5, s6⟩ := hs u T ks h.lev (fit_put h.fit _ hm) ⟨okp, lvp, szp⟩ h.kids
  refine ⟨nm2, kp2, ad2, ps2, u2, ks2, ⟨?_, s2, s3, s4, by have := h.lev; omega⟩, s6⟩
  rw [atT_app, h.at_]
  obtain ⟨n2, mk, bs⟩ := u
  show atT (madT t (.mk n2 mk bs) (.put nm kp ad ps)) [(i : Int)] = _
  rw [madT_put, atT, if_pos (by omega), Int.toNat_natCast, List.getElem?_map, hi]
  show atT (madT t (.mk n2 mk bs) T) [] = _
  rw [s1]
  generalize madT t u2 (.put nm2 kp2 ad2 ps2) = z
  rw [atT]
theorem AtP.start {t : Trn} {B L : Nat} {f : List D → R Ow} (hs : Settles t B L f) {u : Tr} {T : Trm} {ks : List Str} (hu : levT u ≤ L) (hf : FitT t ks T) (hg : GoodM B T) (hk : KidsOk t.wood ks u) :
    ∃ nm' kp' ad' ps' u' ks', AtP t B L (madT t u T) [] nm' kp' ad' ps' u' ks' ∧ f [encTn t, encM T, encT u] = .ok (.d (.tuple [encM (.put nm' kp' ad' ps'), encT u'])) := by
  obtain ⟨nm2, kp2, ad2, ps2, u2, ks2, s1, s2, s3, s4, s5, s6⟩ := hs u T ks hu hf hg hk
  refine ⟨nm2, kp2, ad2, ps2, u2, ks2, ⟨?_, s2, s3, s4, by omega⟩, s6⟩
  rw [← s1]
  generalize madT t u T = z
  rw [atT]
def PreOk (t : Trn) (B L : Nat) (o : Tr) (p : List Int) : Prop := ∀ i, i ≤ p.length → ∃ nm kp ad ps u ks, AtP t B L o (p.take i) nm kp ad ps u ks
theorem PreOk.nil {t : Trn} {B L : Nat} {o : Tr} {nm : Str} {kp : Bool} {ad : Int} {ps : List Trm} {u : Tr} {ks : List Str} (h : AtP t B L o [] nm kp ad ps u ks) : PreOk t B L o [] := fun i _ => ⟨nm, kp, ad, ps, u, ks, by rw [List.take_nil]; exact h⟩
theorem PreOk.snoc {t : Trn} {B L : Nat} {o : Tr} {p : List Int} {b : Int} {nm : Str} {kp : Bool} {ad : Int} {ps : List Trm} {u : Tr} {ks : List Str} (h0 : PreOk t B L o p) (h : AtP t B L o (p ++ [b]) nm kp ad ps u ks) : PreOk t B L o (p ++ [b]) := fun i hi => by
  by_cases c : i ≤ p.length
  · rw [List.take_append_of_le_length c]
    exact h0 i c
  · rw [List.length_append, List.length_singleton] at hi
    rw [List.take_of_length_le (by rw [List.length_append, List.length_singleton]; omega)]
    exact ⟨nm, kp, ad, ps, u, ks, h⟩
def marksL (o : Tr) (p : List Int) : List D := (List.range (p.length + 1)).map fun i => labD (atT o (p.take i))
theorem marksL_nil (o : Tr) : marksL o [] = [labD (some o)] := by
  unfold marksL
  show [labD (atT o [])] = _
  rw [atT]
theorem marksL_s (o : Tr) (p : List Int) (b : Int) : marksL o (p ++ [b]) = marksL o p ++ [labD (atT o (p ++ [b]))] := by
  unfold marksL
  rw [List.length_append, List.length_singleton, List.range_succ, List.map_append]
  congr 1
  · refine List.map_congr_left fun i hi => ?_
    rw [List.mem_range] at hi
    rw [List.take_append_of_le_length (by omega)]
  · rw [List.map_singleton, List.take_of_length_le (by rw [List.length_append, List.length_singleton]; exact Nat.le_refl _)]
theorem marksL_len (o : Tr) (p : List Int) : (marksL o p).length = p.length + 1 := by unfold marksL; rw [List.length_map, List.length_range]
theorem marksL_at {o : Tr} {p : List Int} {i : Nat} (h : i ≤ p.length) : (marksL o p)[i]? = some (labD (atT o (p.take i))) := by
  unfold marksL
  rw [List.getElem?_map, List.getElem?_range (by omega)]
  rfl
def wyD (o : Tr) (p : List Int) : D := .tuple [.list (p.map PyData.int), .list (marksL o p)]
abbrev wyReset (f24 f25 : List D → R Ow) : Ev → SR := (sSeq (sSet 4 (eM (eM (eLst aNil) viewD) Ow.d))
    (sSeq (sAsg (gtTup 2 (gtCons (gtName 5) (gtCons (gtName 6) gtNil))) (eM (eB (aCons (eVar 0) (aCons (eBin gIx (eVar 0) (eC (.int 1))) (aCons (eTup (aCons (eC (.str "")) (aCons (eC (.int 0)) (aCons (eTup (aCons (eVar 1) aNil)) aNil)))) aNil))) f24) viewD))
    (sSet 7 (eM (eM (eLst (aCons (eM (eB (aCons (eVar 5) (aCons (eVar 6) aNil)) f25) viewD) aNil)) viewD) Ow.d))))
abbrev wyStep (f24 f25 : List D → R Ow) : Ev → SR := (sSeq (sSet 4 (eM (eM (eBinO gAdd (eVar 4) (eB (eLst (aCons (eBin gMod (eVar 9) (eM (eCa gLen (aCons (eBin gIx (eVar 5) (eC (.int 4))) aNil)) viewD)) aNil)) shD)) viewD) Ow.d))
    (sSeq (sAsg (gtTup 2 (gtCons (gtName 5) (gtCons (gtName 6) gtNil))) (eM (eB (aCons (eVar 0) (aCons (eBin gIx (eBin gIx (eVar 5) (eC (.int 4))) (eBin gIx (eVar 4) (eB (eC (.int 1)) gNeg))) (aCons (eVar 6) aNil))) f24) viewD))
    (sSet 7 (eM (eM (eBinO gAdd (eVar 7) (eB (eLst (aCons (eM (eB (aCons (eVar 5) (aCons (eVar 6) aNil)) f25) viewD) aNil)) shD)) viewD) Ow.d))))
abbrev wyBody (f13 f24 f25 : List D → R Ow) : Ev → SR := (sSeq (sSet 9 (eM (eM (eB (aCons (eVar 8) (aCons (eC (.int 11)) aNil)) f13) viewD) Ow.d))
    (sSeq (sIf (eB (eBin gEq (eBin gIx (eVar 5) (eC (.int 4))) (eTup aNil)) asB)
    (sSeq (sApp 3 (eM (eTup (aCons (eVar 4) (aCons (eVar 7) aNil))) Ow.d))
    (wyReset f24 f25))
    sSkip)
    (sIf (eB (eBin gNe (eBin gIx (eVar 5) (eC (.int 4))) (eTup aNil)) asB)
    (wyStep f24 f25)
    sSkip)))
abbrev bWays (f13 f24 f25 : List D → R Ow) : Ev → SR := (sSeq (sSet 3 (eLst aNil))
    (sSeq (sSet 4 (eM (eM (eLst aNil) viewD) Ow.d))
    (sSeq (sAsg (gtTup 2 (gtCons (gtName 5) (gtCons (gtName 6) gtNil))) (eM (eB (aCons (eVar 0) (aCons (eBin gIx (eVar 0) (eC (.int 1))) (aCons (eTup (aCons (eC (.str "")) (aCons (eC (.int 0)) (aCons (eTup (aCons (eVar 1) aNil)) aNil)))) aNil))) f24) viewD))
    (sSeq (sSet 7 (eM (eM (eLst (aCons (eM (eB (aCons (eVar 5) (aCons (eVar 6) aNil)) f25) viewD) aNil)) viewD) Ow.d))
    (sSeq (sFor (eB (eVar 2) itD) (gtName 8)
    (wyBody f13 f24 f25))
    (sSeq (sApp 3 (eM (eTup (aCons (eVar 4) (aCons (eVar 7) aNil))) Ow.d))
    (sRetV 3)))))))
section
variable {t : Trn} {B L : Nat} {f13 f24 f25 : List D → R Ow} (h13 : ∀ (c : Int) (j : Nat), j ≤ 1000 → f13 [.int c, .int (j : Nat)] = .ok (.d (.int (mixI c (j : Nat))))) (hs : Settles t B L f24) (hB : B ≤ 20)
  (h25 : ∀ nm kp ad ps u, f25 [encM (.put nm kp ad ps), encT u] = .ok (.d (labD (some (madT t u (.put nm kp ad ps)))))) {u0 : Tr} {ks0 : List Str} (hu : levT (aboveT u0) ≤ L) (hf : FitT t ks0 t.start) (hg : GoodM B t.start) (hk : KidsOk t.wood ks0 (aboveT u0))
include h13 hs h25 hu hf hg hk hB
theorem wyReset_ok (CE : D) (WS : Option Ow) (x4 x5 x6 x7 x8 x9 : Option Ow) : ∃ nm kp ad ps u ks, AtP t B L (madT t (aboveT u0) t.start) [] nm kp ad ps u ks ∧
    wyReset f24 f25 [some (.d (encTn t)), some (.d (encT u0)), some (.d CE), WS, x4, x5, x6, x7, x8, x9] = .nx [some (.d (encTn t)), some (.d (encT u0)), some (.d CE), WS, some (.d (.list [])), some (.d (encM (.put nm kp ad ps))), some (.d (encT u)), some (.d (.list (marksL (madT t (aboveT u0) t.start) []))), x8, x9] := by
  obtain ⟨nm, kp, ad, ps, u, ks, ha, he⟩ := AtP.start hs hu hf hg hk
  refine ⟨nm, kp, ad, ps, u, ks, ha, ?_⟩
  have i1 := w_ix1 t
  have ab : encT (aboveT u0) = .tuple [.str "", .int 0, .tuple [encT u0]] := by unfold aboveT; rw [encT_mk]; rfl
  rw [ab] at he
  have l := h25 nm kp ad ps u
  have eq : madT t u (.put nm kp ad ps) = madT t (aboveT u0) t.start := by
    have := ha.at_
    generalize madT t (aboveT u0) t.start = z at this ⊢
    rw [atT] at this
    exact (Option.some.inj this).symm
  rw [eq] at l
  rw [marksL_nil]
  generalize labD (some (madT t (aboveT u0) t.start)) = LB at l ⊢
  generalize encM (.put nm kp ad ps) = E at he l
  generalize encT u = U at he l
  generalize encT u0 = U0 at he
  generalize encM t.start = ST at i1 he
  generalize encTn t = TN at i1 he
  simp [i1, he, l, sizeLine_eq]
theorem wyStep_ok (CE : D) (WS : Option Ow) (x8 : Option Ow) (z : Int) {p : List Int} {nm : Str} {kp : Bool} {ad : Int} {ps : List Trm} {u : Tr} {ks : List Str} (ha : AtP t B L (madT t (aboveT u0) t.start) p nm kp ad ps u ks) (hp : p.length ≤ 900) (hne : ps ≠ []) : ∃ b nm' kp' ad' ps' u' ks', AtP t B L (madT t (aboveT u0) t.start) (p ++ [b]) nm' kp' ad' ps' u' ks' ∧
    wyStep f24 f25 [some (.d (encTn t)), some (.d (encT u0)), some (.d CE), WS, some (.d (.list (p.map PyData.int))), some (.d (encM (.put nm kp ad ps))), some (.d (encT u)), some (.d (.list (marksL (madT t (aboveT u0) t.start) p))), x8, some (.d (.int z))] = .nx [some (.d (encTn t)), some (.d (encT u0)), some (.d CE), WS, some (.d (.list ((p ++ [b]).map PyData.int))), some (.d (encM (.put nm' kp' ad' ps'))), some (.d (encT u')), some (.d (.list (marksL (madT t (aboveT u0) t.start) (p ++ [b])))), x8, some (.d (.int z))] := by
  have lp : 0 < ps.length := List.length_pos_iff.mpr hne
  obtain ⟨i, hi, il⟩ := emod_nat (c := z) (n := ps.length) lp
  have gm : gMod (.int z) (.int (ps.length : Nat)) = some (.int (i : Nat)) := by rw [gMod_int (by omega), hi]
  have hp' := List.getElem?_eq_getElem il
  obtain ⟨nm', kp', ad', ps', u', ks', hb, he⟩ := ha.step hs hp'
  refine ⟨(i : Int), nm', kp', ad', ps', u', ks', hb, ?_⟩
  have m4 := m_ix4 nm kp ad ps
  have l4 := tup_len (ps.map encM)
  rw [List.length_map] at l4
  have ip : gIx (.tuple (ps.map encM)) (.int (i : Nat)) = some (encM ps[i]) := by
    show atI (ps.map encM) _ = _
    exact atI_natD (by rw [List.getElem?_map, hp']; rfl)
  have l := h25 nm' kp' ad' ps' u'
  rw [← hb.at_] at l
  have g1 : gAdd (.list (p.map PyData.int)) (.list [.int (i : Nat)]) = some (.l (((p ++ [(i : Int)]).map PyData.int).map Ow.d)) := add_ls PyData.int p [(i : Int)] (by simp; omega)
  have v1 : viewD (.l (((p ++ [(i : Int)]).map PyData.int).map Ow.d)) = .list ((p ++ [(i : Int)]).map PyData.int) := vw_ls _
  have last : gIx (.list ((p ++ [(i : Int)]).map PyData.int)) (.int (-1)) = some (.int (i : Nat)) := by
    rw [List.map_append]
    exact atI_last
  have g2 : gAdd (.list (marksL (madT t (aboveT u0) t.start) p)) (.list [labD (atT (madT t (aboveT u0) t.start) (p ++ [(i : Int)]))]) = some (.l ((marksL (madT t (aboveT u0) t.start) (p ++ [(i : Int)])).map Ow.d)) := by
    rw [gAdd_lst (by rw [marksL_len, sizeLine_eq]; simp; omega), marksL_s]
  have v2 : viewD (.l ((marksL (madT t (aboveT u0) t.start) (p ++ [(i : Int)])).map Ow.d)) = .list (marksL (madT t (aboveT u0) t.start) (p ++ [(i : Int)])) := vw_ls _
  have s1 := shl1 (.int (i : Nat))
  have s2 := shl1 (labD (atT (madT t (aboveT u0) t.start) (p ++ [(i : Int)])))
  generalize labD (atT (madT t (aboveT u0) t.start) (p ++ [(i : Int)])) = LB at l g2 s2
  generalize PyData.list (marksL (madT t (aboveT u0) t.start) p) = M0 at g2
  generalize PyData.list (marksL (madT t (aboveT u0) t.start) (p ++ [(i : Int)])) = M1 at v2 ⊢
  generalize (marksL (madT t (aboveT u0) t.start) (p ++ [(i : Int)])).map Ow.d = M2 at g2 v2
  generalize PyData.list (p.map PyData.int) = P0 at g1
  generalize PyData.list ((p ++ [(i : Int)]).map PyData.int) = P1 at v1 last ⊢
  generalize ((p ++ [(i : Int)]).map PyData.int).map Ow.d = P2 at g1 v1
  generalize PyData.tuple (ps.map encM) = TP at m4 l4 ip
  generalize encM ps[i] = EP at ip he
  generalize encM (.put nm kp ad ps) = E at m4
  generalize encM (.put nm' kp' ad' ps') = E' at he l
  generalize encT u' = U' at he l
  generalize encT u = U at he
  generalize encT u0 = U0
  generalize encTn t = TN at he
  simp [m4, l4, gm, g1, v1, last, ip, he, l, g2, v2, s1, s2, sizeLine_eq]
theorem wyBody_ok (CE : D) (ws : List (List Int)) (hws : ws.length < 1000) (c : Int) (x9 : Option Ow) {p : List Int} {nm : Str} {kp : Bool} {ad : Int} {ps : List Trm} {u : Tr} {ks : List Str} (ha : AtP t B L (madT t (aboveT u0) t.start) p nm kp ad ps u ks) (hq : PreOk t B L (madT t (aboveT u0) t.start) p) (hp : p.length ≤ 900) :
    ∃ ws' p' nm' kp' ad' ps' u' ks' y9, (AtP t B L (madT t (aboveT u0) t.start) p' nm' kp' ad' ps' u' ks' ∧ PreOk t B L (madT t (aboveT u0) t.start) p') ∧ p'.length ≤ p.length + 1 ∧ (ws' = ws ∨ ws' = ws ++ [p]) ∧
    wyBody f13 f24 f25 [some (.d (encTn t)), some (.d (encT u0)), some (.d CE), some (.l (ws.map fun q => .d (wyD (madT t (aboveT u0) t.start) q))), some (.d (.list (p.map PyData.int))), some (.d (encM (.put nm kp ad ps))), some (.d (encT u)), some (.d (.list (marksL (madT t (aboveT u0) t.start) p))), some (.d (.int c)), x9] = .nx [some (.d (encTn t)), some (.d (encT u0)), some (.d CE), some (.l (ws'.map fun q => .d (wyD (madT t (aboveT u0) t.start) q))), some (.d (.list (p'.map PyData.int))), some (.d (encM (.put nm' kp' ad' ps'))), some (.d (encT u')), some (.d (.list (marksL (madT t (aboveT u0) t.start) p'))), some (.d (.int c)), y9] := by
  have m11 : f13 [.int c, .int 11] = .ok (.d (.int (mixI c 11))) := h13 c 11 (by decide)
  have nice : ∀ {nm kp ad ps}, GoodM B (.put nm kp ad ps) → Nice (.tuple (ps.map encM)) := fun {nm kp ad ps} h => by
    have okp := h.ok
    rw [okM, okMs_iff] at okp
    have lv := h.lev
    rw [levM] at lv
    exact nice_tuple (n := 2 * B) (fun d hd => by
      obtain ⟨T, hT, rfl⟩ := List.mem_map.mp hd
      have := depth_encM T
      have := levMs_le (Nat.le_refl _) T hT
      exact ⟨can_encM T (okp.2.2 T hT), by omega⟩) (by omega)
  have first : ∀ x : Ev → SR, sSeq (sSet 9 (eM (eM (eB (aCons (eVar 8) (aCons (eC (.int 11)) aNil)) f13) viewD) Ow.d)) x [some (.d (encTn t)), some (.d (encT u0)), some (.d CE), some (.l (ws.map fun q => .d (wyD (madT t (aboveT u0) t.start) q))), some (.d (.list (p.map PyData.int))), some (.d (encM (.put nm kp ad ps))), some (.d (encT u)), some (.d (.list (marksL (madT t (aboveT u0) t.start) p))), some (.d (.int c)), x9] = x [some (.d (encTn t)), some (.d (encT u0)), some (.d CE), some (.l (ws.map fun q => .d (wyD (madT t (aboveT u0) t.start) q))), some (.d (.list (p.map PyData.int))), some (.d (encM (.put nm kp ad ps))), some (.d (encT u)), some (.d (.list (marksL (madT t (aboveT u0) t.start) p))), some (.d (.int c)), some (.d (.int (mixI c 11)))] := fun x => by
    refine seq_nx ?_ rfl
    generalize (ws.map fun q => Ow.d (wyD (madT t (aboveT u0) t.start) q)) = WL
    generalize PyData.list (marksL (madT t (aboveT u0) t.start) p) = M0
    generalize PyData.list (p.map PyData.int) = P0
    generalize encM (.put nm kp ad ps) = E
    generalize encT u = U
    generalize encT u0 = U0
    generalize encTn t = TN
    simp [m11]
  have ctE : ∀ {nm kp ad ps} (x3 x4 x6 x7 x8 x9 : Option Ow), GoodM B (.put nm kp ad ps) → (eB (eBin gEq (eBin gIx (eVar 5) (eC (.int 4))) (eTup aNil)) asB) [some (.d (encTn t)), some (.d (encT u0)), some (.d CE), x3, x4, some (.d (encM (.put nm kp ad ps))), x6, x7, x8, x9] = .ok ps.isEmpty ∧ (eB (eBin gNe (eBin gIx (eVar 5) (eC (.int 4))) (eTup aNil)) asB) [some (.d (encTn t)), some (.d (encT u0)), some (.d CE), x3, x4, some (.d (encM (.put nm kp ad ps))), x6, x7, x8, x9] = .ok (!ps.isEmpty) := fun {nm kp ad ps} x3 x4 x6 x7 x8 x9 h => by
    have m4 := m_ix4 nm kp ad ps
    have e1 := eq_tnil (nice h)
    have e2 := ne_tnil (nice h)
    rw [List.isEmpty_map] at e1 e2
    generalize PyData.tuple (ps.map encM) = TP at m4 e1 e2
    generalize encM (.put nm kp ad ps) = E at m4
    generalize encT u0 = U0
    generalize encTn t = TN
    constructor
    · simp [m4, e1, sizeLine_eq]
    · simp [m4, e2, sizeLine_eq]
  show ∃ ws' p' nm' kp' ad' ps' u' ks' y9, _ ∧ _ ∧ _ ∧ sSeq _ _ _ = _
  rw [first]
  have ct1 := (ctE (some (.l (ws.map fun q => .d (wyD (madT t (aboveT u0) t.start) q)))) (some (.d (.list (p.map PyData.int)))) (some (.d (encT u))) (some (.d (.list (marksL (madT t (aboveT u0) t.start) p)))) (some (.d (.int c))) (some (.d (.int (mixI c 11)))) ha.good).1
  by_cases hE : ps = []
  · have hE' : ps.isEmpty = true := by rw [hE]; rfl
    rw [hE'] at ct1
    obtain ⟨nm1, kp1, ad1, ps1, u1, ks1, ha1, r1⟩ := wyReset_ok h13 hs hB h25 hu hf hg hk CE (some (.l ((ws ++ [p]).map fun q => .d (wyD (madT t (aboveT u0) t.start) q)))) (some (.d (.list (p.map PyData.int)))) (some (.d (encM (.put nm kp ad ps)))) (some (.d (encT u))) (some (.d (.list (marksL (madT t (aboveT u0) t.start) p)))) (some (.d (.int c))) (some (.d (.int (mixI c 11))))
    have ct2 := (ctE (some (.l ((ws ++ [p]).map fun q => .d (wyD (madT t (aboveT u0) t.start) q)))) (some (.d (.list []))) (some (.d (encT u1))) (some (.d (.list (marksL (madT t (aboveT u0) t.start) [])))) (some (.d (.int c))) (some (.d (.int (mixI c 11)))) ha1.good).2
    have push : (sApp 3 (eM (eTup (aCons (eVar 4) (aCons (eVar 7) aNil))) Ow.d)) [some (.d (encTn t)), some (.d (encT u0)), some (.d CE), some (.l (ws.map fun q => .d (wyD (madT t (aboveT u0) t.start) q))), some (.d (.list (p.map PyData.int))), some (.d (encM (.put nm kp ad ps))), some (.d (encT u)), some (.d (.list (marksL (madT t (aboveT u0) t.start) p))), some (.d (.int c)), some (.d (.int (mixI c 11)))] = .nx [some (.d (encTn t)), some (.d (encT u0)), some (.d CE), some (.l ((ws ++ [p]).map fun q => .d (wyD (madT t (aboveT u0) t.start) q))), some (.d (.list (p.map PyData.int))), some (.d (encM (.put nm kp ad ps))), some (.d (encT u)), some (.d (.list (marksL (madT t (aboveT u0) t.start) p))), some (.d (.int c)), some (.d (.int (mixI c 11)))] := by
      have wl : (ws.map fun q => Ow.d (wyD (madT t (aboveT u0) t.start) q)).length < 16777216 := by rw [List.length_map]; omega
      rw [List.map_append]
      show _ = SR.nx [_, _, _, some (.l ((ws.map fun q => Ow.d (wyD (madT t (aboveT u0) t.start) q)) ++ [.d (.tuple [.list (p.map PyData.int), .list (marksL (madT t (aboveT u0) t.start) p)])])), _, _, _, _, _, _]
      generalize (ws.map fun q => Ow.d (wyD (madT t (aboveT u0) t.start) q)) = WL at wl
      generalize PyData.list (marksL (madT t (aboveT u0) t.start) p) = M0
      generalize PyData.list (p.map PyData.int) = P0
      generalize encM (.put nm kp ad ps) = E
      generalize encT u = U
      generalize encT u0 = U0
      generalize encTn t = TN
      simp [sizeLine_eq, wl]
    by_cases hE1 : ps1 = []
    · refine ⟨ws ++ [p], [], nm1, kp1, ad1, ps1, u1, ks1, some (.d (.int (mixI c 11))), ⟨ha1, .nil ha1⟩, by simp, .inr rfl, ?_⟩
      refine seq_nx (by rw [sIf_eq, ct1, R.st_ok, if_pos rfl]; exact seq_nx push r1) ?_
      rw [sIf_eq, ct2, R.st_ok, hE1]
      rfl
    · obtain ⟨b, nm2, kp2, ad2, ps2, u2, ks2, ha2, r2⟩ := wyStep_ok h13 hs hB h25 hu hf hg hk CE (some (.l ((ws ++ [p]).map fun q => .d (wyD (madT t (aboveT u0) t.start) q)))) (some (.d (.int c))) (mixI c 11) ha1 (by simp) hE1
      refine ⟨ws ++ [p], [] ++ [b], nm2, kp2, ad2, ps2, u2, ks2, some (.d (.int (mixI c 11))), ⟨ha2, .snoc (.nil ha1) ha2⟩, by simp, .inr rfl, ?_⟩
      refine seq_nx (by rw [sIf_eq, ct1, R.st_ok, if_pos rfl]; exact seq_nx push r1) ?_
      have : ps1.isEmpty = false := by cases ps1 with
        | nil => exact absurd rfl hE1
        | cons => rfl
      rw [sIf_eq, ct2, R.st_ok, this]
      exact r2
  · have hE' : ps.isEmpty = false := by cases ps with
      | nil => exact absurd rfl hE
      | cons => rfl
    rw [hE'] at ct1
    have ct2 := (ctE (some (.l (ws.map fun q => .d (wyD (madT t (aboveT u0) t.start) q)))) (some (.d (.list (p.map PyData.int)))) (some (.d (encT u))) (some (.d (.list (marksL (madT t (aboveT u0) t.start) p)))) (some (.d (.int c))) (some (.d (.int (mixI c 11)))) ha.good).2
    obtain ⟨b, nm2, kp2, ad2, ps2, u2, ks2, ha2, r2⟩ := wyStep_ok h13 hs hB h25 hu hf hg hk CE (some (.l (ws.map fun q => .d (wyD (madT t (aboveT u0) t.start) q)))) (some (.d (.int c))) (mixI c 11) ha hp hE
    refine ⟨ws, p ++ [b], nm2, kp2, ad2, ps2, u2, ks2, some (.d (.int (mixI c 11))), ⟨ha2, .snoc hq ha2⟩, by simp, .inl rfl, ?_⟩
    refine seq_nx (by rw [sIf_eq, ct1, R.st_ok]; rfl) ?_
    rw [sIf_eq, ct2, R.st_ok, hE']
    exact r2
/-- a way that is told -/
def WayOk (t : Trn) (B L : Nat) (o : Tr) (p : List Int) : Prop := p.length ≤ 100 ∧ PreOk t B L o p
theorem ways_fin (cs : List Int) (hc : cs.length ≤ 63) : ∃ ws : List (List Int), (∀ p ∈ ws, WayOk t B L (madT t (aboveT u0) t.start) p) ∧ ws.length ≤ 100 ∧ finR (bWays f13 f24 f25 (envOf 7 [encTn t, encT u0, .list (cs.map PyData.int)])) = .ok (.l (ws.map fun q => .d (wyD (madT t (aboveT u0) t.start) q))) := by
  obtain ⟨CE, hCE⟩ : ∃ CE, CE = PyData.list (cs.map PyData.int) := ⟨_, rfl⟩
  have it : itD CE = .ok (cs.map PyData.int) := by rw [hCE]; rfl
  rw [← hCE]
  clear hCE
  have he : envOf 7 [encTn t, encT u0, CE] = [some (.d (encTn t)), some (.d (encT u0)), some (.d CE), none, none, none, none, none, none, none] := rfl
  rw [he]
  obtain ⟨nm, kp, ad, ps, u, ks, ha, r⟩ := wyReset_ok h13 hs hB h25 hu hf hg hk CE (some (.l [])) none none none none none none
  obtain ⟨env', e1, ws, p, nm', kp', ad', ps', u', ks', x8, x9, e2, a1, a2, a3, a4⟩ := forL_map (g := gtName 8) (f := wyBody f13 f24 f25) PyData.int cs
    (fun i env => ∃ (ws : List (List Int)) (p : List Int) (nm : Str) (kp : Bool) (ad : Int) (ps : List Trm) (u : Tr) (ks : List Str) (x8 x9 : Option Ow), env = [some (.d (encTn t)), some (.d (encT u0)), some (.d CE), some (.l (ws.map fun q => .d (wyD (madT t (aboveT u0) t.start) q))), some (.d (.list (p.map PyData.int))), some (.d (encM (.put nm kp ad ps))), some (.d (encT u)), some (.d (.list (marksL (madT t (aboveT u0) t.start) p))), x8, x9] ∧ (AtP t B L (madT t (aboveT u0) t.start) p nm kp ad ps u ks ∧ PreOk t B L (madT t (aboveT u0) t.start) p) ∧ p.length ≤ i ∧ ws.length ≤ i ∧ ∀ p ∈ ws, WayOk t B L (madT t (aboveT u0) t.start) p) (fun i c env hc' ⟨ws, p, nm, kp, ad, ps, u, ks, x8, x9, e, a1, a2, a3, a4⟩ => by
      subst e
      have il := (List.getElem?_eq_some_iff.mp hc').1
      obtain ⟨ws', p', nm', kp', ad', ps', u', ks', y9, b1, b2, b3, b4⟩ := wyBody_ok h13 hs hB h25 hu hf hg hk CE ws (by omega) c x9 a1.1 a1.2 (by omega)
      refine ⟨_, rfl, _, .inl b4, ws', p', nm', kp', ad', ps', u', ks', _, _, rfl, b1, by omega, ?_, fun q hq => ?_⟩
      · rcases b3 with rfl | rfl
        · omega
        · rw [List.length_append, List.length_singleton]; omega
      · rcases b3 with rfl | rfl
        · exact a4 q hq
        · rcases List.mem_append.mp hq with hq | hq
          · exact a4 q hq
          · rw [List.mem_singleton.mp hq]
            exact ⟨by omega, a1.2⟩) _ ⟨[], [], nm, kp, ad, ps, u, ks, none, none, rfl, ⟨ha, .nil ha⟩, by simp, by simp, fun q hq => by cases hq⟩
  subst e2
  refine ⟨ws ++ [p], fun q hq => ?_, by rw [List.length_append, List.length_singleton]; omega, ?_⟩
  · rcases List.mem_append.mp hq with hq | hq
    · exact a4 q hq
    · rw [List.mem_singleton.mp hq]
      exact ⟨by omega, a1.2⟩
  refine fin_step (env1 := [some (.d (encTn t)), some (.d (encT u0)), some (.d CE), some (.l []), none, none, none, none, none, none]) (by generalize encTn t = TN; generalize encT u0 = U0; simp [sizeLine_eq]) ?_
  have assoc : ∀ (f g h k : Ev → SR) (env : Ev), finR (sSeq f (sSeq g (sSeq h k)) env) = finR (sSeq (sSeq f (sSeq g h)) k env) := fun f g h k env => by
    simp only [sSeq_eq]
    cases f env <;> simp [SR.andThen]
    rename_i e
    cases g e <;> simp [SR.andThen]
  rw [assoc]
  refine fin_step r ?_
  refine fin_step (env1 := [some (.d (encTn t)), some (.d (encT u0)), some (.d CE), some (.l (ws.map fun q => .d (wyD (madT t (aboveT u0) t.start) q))), some (.d (.list (p.map PyData.int))), some (.d (encM (.put nm' kp' ad' ps'))), some (.d (encT u')), some (.d (.list (marksL (madT t (aboveT u0) t.start) p))), x8, x9]) (by
    rw [sFor_eq]
    have it2 : (eB (eVar 2) itD) [some (.d (encTn t)), some (.d (encT u0)), some (.d CE), some (.l []), some (.d (.list [])), some (.d (encM (.put nm kp ad ps))), some (.d (encT u)), some (.d (.list (marksL (madT t (aboveT u0) t.start) []))), none, none] = .ok (cs.map PyData.int) := by
      generalize encM (.put nm kp ad ps) = E
      generalize encT u = U
      generalize encT u0 = U0
      generalize encTn t = TN
      simp [it]
    rw [it2, R.st_ok]
    exact e1) ?_
  have wl : (ws.map fun q => Ow.d (wyD (madT t (aboveT u0) t.start) q)).length < 16777216 := by rw [List.length_map]; omega
  rw [List.map_append]
  show _ = R.ok (Ow.l ((ws.map fun q => Ow.d (wyD (madT t (aboveT u0) t.start) q)) ++ [.d (.tuple [.list (p.map PyData.int), .list (marksL (madT t (aboveT u0) t.start) p)])]))
  generalize (ws.map fun q => Ow.d (wyD (madT t (aboveT u0) t.start) q)) = WL at wl
  generalize PyData.list (marksL (madT t (aboveT u0) t.start) p) = M0
  generalize PyData.list (p.map PyData.int) = P0
  generalize encM (.put nm' kp' ad' ps') = E
  generalize encT u' = U
  generalize encT u0 = U0
  generalize encTn t = TN
  refine fin_step (env1 := [some (.d TN), some (.d U0), some (.d CE), some (.l (WL ++ [.d (.tuple [P0, M0])])), some (.d P0), some (.d E), some (.d U), some (.d M0), x8, x9]) (by simp [sizeLine_eq, wl]) ?_
  rfl
end
end
end Mir
set_option Elab.async false
set_option linter.all false
set_option maxRecDepth 100000
set_option maxHeartbeats 4000000
namespace Mir
open PySem PySem.Spec L2
noncomputable section
abbrev bLawLabels (f27 : List D → R Ow) : Ev → SR := (sSeq (sIf (eB (eBin gIsN (eVar 1) (eC .none)) asB)
    (sRet (eM (eBin gIsN (eVar 0) (eC .none)) Ow.d))
    sSkip)
    (sSeq (sIf (tOrE (tNotE (eB (eB (eVar 0) (gIsi "tuple")) asB)) (tOrE (eB (eBin gNe (eM (eCa gLen (aCons (eVar 0) aNil)) viewD) (eC (.int 3))) asB) (tNotE (eB (eB (eBin gIx (eVar 0) (eC (.int 0))) (gIsi "str")) asB))))
    (sRet (eM (eC (.bool false)) Ow.d))
    sSkip)
    (sRet (eM (eAnd (eM (eB (aCons (eBin gIx (eVar 0) (eC (.int 1))) aNil) f27) viewD) (eAnd (eM (eB (aCons (eBin gIx (eVar 0) (eC (.int 2))) aNil) f27) viewD) (eBin gEq (eVar 0) (eVar 1)))) Ow.d))))
theorem nice_lab' {z : Str} (h : PyData.strOk z = true) (a b : Int) : Nice (.tuple [.str z, .int a, .int b]) := by
  refine ⟨?_, ?_⟩
  · rw [PyData.canLay0, PyData.canLayAll0, PyData.canLayAll0, PyData.canLayAll0, can_s h]
    rfl
  · simp [PyData.depth, PyData.depthAll]
theorem lawLabels_some {f27 : List D → R Ow} (z : Str) (h : PyData.strOk z = true) (a b : Int) (h27 : ∀ x : Int, f27 [.int x] = .ok (.d (.bool true))) : finR (bLawLabels f27 (envOf 0 [.tuple [.str z, .int a, .int b], .tuple [.str z, .int a, .int b]])) = .ok (.d (.bool true)) := by
  have q := gEq_self (nice_lab' h a b)
  have w1 := h27 a
  have w2 := h27 b
  have n1 : isNone (.tuple [.str z, .int a, .int b]) = false := rfl
  have is : gIsi "tuple" (.tuple [.str z, .int a, .int b]) = .ok (.bool true) := gIsi_tup_tup _
  have is0 : gIsi "str" (.str z) = .ok (.bool true) := by rfl
  have l3 : gLen [.tuple [.str z, .int a, .int b]] = some (.d (.int 3)) := rfl
  have j0 : gIx (.tuple [.str z, .int a, .int b]) (.int 0) = some (.str z) := by simp
  have j1 : gIx (.tuple [.str z, .int a, .int b]) (.int 1) = some (.int a) := by simp
  have j2 : gIx (.tuple [.str z, .int a, .int b]) (.int 2) = some (.int b) := by simp
  generalize PyData.tuple [.str z, .int a, .int b] = L at q n1 is l3 j0 j1 j2 ⊢
  have he : envOf 0 [L, L] = [some (.d L), some (.d L)] := rfl
  rw [he]
  simp [n1, is, l3, j0, j1, j2, is0, w1, w2, q]
theorem lawLabels_none {f27 : List D → R Ow} : finR (bLawLabels f27 (envOf 0 [.none, .none])) = .ok (.d (.bool true)) := by
  have he : envOf 0 [PyData.none, PyData.none] = [some (.d .none), some (.d .none)] := rfl
  have n1 : isNone PyData.none = true := rfl
  rw [he]
  simp [n1]
/-- labels alike, as they are told -/
def LabsOk (f26 : List D → R Ow) : Prop := (∀ z, PyData.strOk z = true → ∀ a b : Int, f26 [.tuple [.str z, .int a, .int b], .tuple [.str z, .int a, .int b]] = .ok (.d (.bool true))) ∧ f26 [.none, .none] = .ok (.d (.bool true))
theorem AtP.lab {t : Trn} {B L : Nat} {o : Tr} {p : List Int} {nm : Str} {kp : Bool} {ad : Int} {ps : List Trm} {u : Tr} {ks : List Str} (h : AtP t B L o p nm kp ad ps u ks) {f26 : List D → R Ow} (hl : LabsOk f26) : f26 [labD (atT o p), labD (atT o p)] = .ok (.d (.bool true)) := by
  rw [h.at_]
  obtain ⟨n2, mk, bs⟩ := u
  rw [lab_put]
  have := h.good.ok
  rw [okM] at this
  exact hl.1 nm this.1 _ _
/-- a number that leads nowhere at a place -/
theorem at_bad {t : Trn} {B L : Nat} {o : Tr} {p : List Int} {nm : Str} {kp : Bool} {ad : Int} {ps : List Trm} {u : Tr} {ks : List Str} (h : AtP t B L o p nm kp ad ps u ks) {b : Int} (hb : b < 0 ∨ (ps.length : Int) ≤ b) (q : List Int) : atT o (p ++ b :: q) = none := by
  rw [atT_app, h.at_]
  obtain ⟨n2, mk, bs⟩ := u
  show atT (madT t (.mk n2 mk bs) (.put nm kp ad ps)) (b :: q) = none
  rw [madT_put, atT]
  by_cases c : 0 ≤ b
  · have hb : (ps.length : Int) ≤ b := by omega
    rw [if_pos c, List.getElem?_eq_none (by rw [List.length_map]; omega)]
  · rw [if_neg c]
abbrev asBad : Ev → SR := (sSet 7 (eM (eM (eBinO gAdd (eBin gIx (eBin gIx (eVar 3) (eVar 6)) (eC (.int 2))) (eBin gIx (eB (eLst (aCons (eC (.int 0)) (aCons (eC (.int 1)) (aCons (eBin gMod (eVar 4) (eBin gPow (eC (.int 10)) (eC (.int 59)))) aNil)))) shD) (eBin gMod (eBin gDiv (eVar 5) (eC (.int 64))) (eC (.int 3))))) viewD) Ow.d))
abbrev asNeg : Ev → SR := (sIf (eB (eBin gEq (eBin gMod (eBin gDiv (eVar 5) (eC (.int 256))) (eC (.int 2))) (eC (.int 1))) asB)
    (sSet 7 (eM (eBin gIx (eB (eLst (aCons (eB (eC (.int 1)) gNeg) (aCons (eBin gSub (eB (eC (.int 1)) gNeg) (eBin gMod (eVar 4) (eBin gPow (eC (.int 10)) (eC (.int 59))))) (aCons (eBin gSub (eC (.int 0)) (eM (eCa gLen (aCons (eVar 3) aNil)) viewD)) aNil)))) shD) (eBin gMod (eBin gDiv (eVar 5) (eC (.int 64))) (eC (.int 3)))) Ow.d))
    sSkip)
abbrev bAstray (f10 f13 : List D → R Ow) : Ev → SR := (sSeq (sSet 5 (eM (eM (eB (aCons (eVar 4) (aCons (eC (.int 13)) aNil)) f13) viewD) Ow.d))
    (sSeq (sSet 6 (eM (eBin gMod (eVar 5) (eM (eCa gLen (aCons (eVar 3) aNil)) viewD)) Ow.d))
    (sSeq asBad
    (sSeq asNeg
    (sRet (eM (eBin gIsN (eM (eB (aCons (eVar 0) (aCons (eVar 1) (aCons (eM (eCa gTuple (aCons (eB (eBinO gAdd (eB (eBinO gAdd (eB (eSl (eVar 2) oNone (eB (eVar 6) asI)) shD) (eB (eLst (aCons (eVar 7) aNil)) shD)) shD) (eB (eSl (eVar 2) (eB (eM (eBinO gAdd (eVar 6) (eC (.int 1))) viewD) asI) oNone) shD)) shD) aNil)) viewD) aNil))) f10) viewD) (eC .none)) Ow.d))))))
theorem pick3D (a b c : D) (z : Int) : ∃ x, gIx (.list [a, b, c]) (.int (z % 3)) = some x ∧ (x = a ∨ x = b ∨ x = c) := by
  obtain ⟨i, hi, il⟩ := emod_nat (c := z) (n := 3) (by decide)
  change z % 3 = _ at hi
  rw [hi]
  match i, il with
  | 0, _ => exact ⟨a, by simp, .inl rfl⟩
  | 1, _ => exact ⟨b, by show atI _ _ = _; exact atI_natD (k := 1) rfl, .inr (.inl rfl)⟩
  | 2, _ => exact ⟨c, by show atI _ _ = _; exact atI_natD (k := 2) rfl, .inr (.inr rfl)⟩
  | _ + 3, h => omega
theorem astray_fin {t : Trn} {B L : Nat} {o : Tr} {p : List Int} (hp : WayOk t B L o p) {f10 f13 : List D → R Ow} (TN TR : D) (c : Int) (h13 : ∀ (c : Int) (j : Nat), j ≤ 1000 → f13 [.int c, .int (j : Nat)] = .ok (.d (.int (mixI c (j : Nat)))))
    (h10 : ∀ q : List Int, f10 [TN, TR, .tuple (q.map PyData.int)] = .ok (.d (labD (atT o q)))) : finR (bAstray f10 f13 (envOf 3 [TN, TR, .list (p.map PyData.int), .list (marksL o p), .int c])) = .ok (.d (.bool true)) := by
  have he : envOf 3 [TN, TR, .list (p.map PyData.int), .list (marksL o p), .int c] = [some (.d TN), some (.d TR), some (.d (.list (p.map PyData.int))), some (.d (.list (marksL o p))), some (.d (.int c)), none, none, none] := rfl
  rw [he]
  have m13 : f13 [.int c, .int 13] = .ok (.d (.int (mixI c 13))) := h13 c 13 (by decide)
  generalize mixI c 13 = z at m13
  have ml : gLen [.list (marksL o p)] = some (.d (.int (p.length + 1 : Nat))) := by rw [gLen_list, marksL_len]
  obtain ⟨s, hs, sl⟩ := emod_nat (c := z) (n := p.length + 1) (by omega)
  have gm : gMod (.int z) (.int (p.length + 1 : Nat)) = some (.int (s : Nat)) := by rw [gMod_int (by omega), hs]
  have sp : s ≤ p.length := by omega
  obtain ⟨nm, kp, ad, ps, u, ks, ha⟩ := hp.2 s sp
  obtain ⟨lb, hlb⟩ : ∃ x : Int, labD (atT o (p.take s)) = .tuple [.str nm, .int x, .int (ps.length : Nat)] := by
    rw [ha.at_]
    obtain ⟨n2, mk, bs⟩ := u
    rw [lab_put]
    exact ⟨_, rfl⟩
  have mx : gIx (.list (marksL o p)) (.int (s : Nat)) = some (.tuple [.str nm, .int lb, .int (ps.length : Nat)]) := by
    show atI (marksL o p) _ = _
    exact atI_natD (by rw [marksL_at sp, hlb])
  have T0 : (0 : Int) < T59 := T59_pos
  have gT : gMod (.int c) (.int T59) = some (.int (c % T59)) := gMod_int T0
  have cT0 := Int.emod_nonneg c (show T59 ≠ 0 by omega)
  have d64 : gDiv (.int z) (.int 64) = some (.int (z / 64)) := gDiv_small (by decide) (by decide)
  have m3 : gMod (.int (z / 64)) (.int 3) = some (.int (z / 64 % 3)) := gMod_int (by decide)
  have d256 : gDiv (.int z) (.int 256) = some (.int (z / 256)) := gDiv_small (by decide) (by decide)
  have m2 : gMod (.int (z / 256)) (.int 2) = some (.int (z / 256 % 2)) := gMod_int (by decide)
  have tenp := p59
  generalize T59 = TT at tenp gT cT0
  generalize c % TT = cT at gT cT0
  refine fin_step (env1 := [some (.d TN), some (.d TR), some (.d (.list (p.map PyData.int))), some (.d (.list (marksL o p))), some (.d (.int c)), some (.d (.int z)), none, none]) (by
    generalize PyData.list (marksL o p) = M
    generalize PyData.list (p.map PyData.int) = P
    simp [m13]) ?_
  refine fin_step (env1 := [some (.d TN), some (.d TR), some (.d (.list (p.map PyData.int))), some (.d (.list (marksL o p))), some (.d (.int c)), some (.d (.int z)), some (.d (.int (s : Nat))), none]) (by
    generalize PyData.list (marksL o p) = M at ml
    generalize PyData.list (p.map PyData.int) = P
    generalize ((p.length + 1 : Nat) : Int) = PL at ml gm
    simp [ml, gm]) ?_
  obtain ⟨x1, px1, hx1⟩ := pick3D (.int 0) (.int 1) (.int cT) (z / 64)
  obtain ⟨b1, rfl, hb1⟩ : ∃ b : Int, x1 = .int b ∧ 0 ≤ b := by
    rcases hx1 with rfl | rfl | rfl
    · exact ⟨0, rfl, Int.le_refl _⟩
    · exact ⟨1, rfl, by decide⟩
    · exact ⟨cT, rfl, cT0⟩
  refine fin_step (env1 := [some (.d TN), some (.d TR), some (.d (.list (p.map PyData.int))), some (.d (.list (marksL o p))), some (.d (.int c)), some (.d (.int z)), some (.d (.int (s : Nat))), some (.d (.int (ps.length + b1)))]) (by
    have j2 : gIx (.tuple [.str nm, .int lb, .int (ps.length : Nat)]) (.int 2) = some (.int (ps.length : Nat)) := by simp
    have sh : shD (.l [.d (.int 0), .d (.int 1), .d (.int cT)]) = .ok (.list [.int 0, .int 1, .int cT]) := shD_l [.int 0, .int 1, .int cT]
    generalize PyData.list [.int 0, .int 1, .int cT] = PK at px1 sh
    generalize PyData.tuple [.str nm, .int lb, .int (ps.length : Nat)] = LB at mx j2
    generalize PyData.list (marksL o p) = M at mx
    generalize PyData.list (p.map PyData.int) = P
    generalize z / 64 = z64 at d64 m3 px1
    generalize z64 % 3 = z3 at m3 px1
    simp [mx, j2, tenp, gT, d64, m3, sh, px1, sizeLine_eq]) ?_
  obtain ⟨x2, px2, hx2⟩ := pick3D (.int (-1)) (.int (-1 - cT)) (.int (0 - (p.length + 1 : Nat))) (z / 64)
  obtain ⟨b2, rfl, hb2⟩ : ∃ b : Int, x2 = .int b ∧ b < 0 := by
    rcases hx2 with rfl | rfl | rfl
    · exact ⟨-1, rfl, by decide⟩
    · exact ⟨_, rfl, by omega⟩
    · exact ⟨_, rfl, by omega⟩
  obtain ⟨b, hb, st⟩ : ∃ b : Int, (b < 0 ∨ (ps.length : Int) ≤ b) ∧ asNeg [some (.d TN), some (.d TR), some (.d (.list (p.map PyData.int))), some (.d (.list (marksL o p))), some (.d (.int c)), some (.d (.int z)), some (.d (.int (s : Nat))), some (.d (.int (ps.length + b1)))] = .nx [some (.d TN), some (.d TR), some (.d (.list (p.map PyData.int))), some (.d (.list (marksL o p))), some (.d (.int c)), some (.d (.int z)), some (.d (.int (s : Nat))), some (.d (.int b))] := by
    have sh : shD (.l [.d (.int (-1)), .d (.int (-1 - cT)), .d (.int (0 - (p.length + 1 : Nat)))]) = .ok (.list [.int (-1), .int (-1 - cT), .int (0 - (p.length + 1 : Nat))]) := shD_l [.int (-1), .int (-1 - cT), .int (0 - (p.length + 1 : Nat))]
    by_cases q : z / 256 % 2 = 1
    · refine ⟨b2, .inl hb2, ?_⟩
      have ct : (eB (eBin gEq (eBin gMod (eBin gDiv (eVar 5) (eC (.int 256))) (eC (.int 2))) (eC (.int 1))) asB) [some (.d TN), some (.d TR), some (.d (.list (p.map PyData.int))), some (.d (.list (marksL o p))), some (.d (.int c)), some (.d (.int z)), some (.d (.int (s : Nat))), some (.d (.int (ps.length + b1)))] = .ok true := by
        generalize PyData.list (marksL o p) = M
        generalize PyData.list (p.map PyData.int) = P
        simp [d256, m2, q]
      show sIf _ _ _ _ = _
      rw [sIf_eq, ct, R.st_ok, if_pos rfl]
      have e0 : (0 : Int) - ((p.length + 1 : Nat) : Int) = 0 - ((p.length + 1 : Nat) : Int) := rfl
      generalize ((p.length + 1 : Nat) : Int) = pl at ml sh px2
      have sg : gSub (.int 0) (.int pl) = some (.int (0 - pl)) := gSub_int _ _
      have s1 : gSub (.int (-1)) (.int cT) = some (.int (-1 - cT)) := gSub_int _ _
      generalize (0 : Int) - pl = npl at sg sh px2
      generalize (-1 : Int) - cT = ncT at s1 sh px2
      generalize PyData.list [.int (-1), .int ncT, .int npl] = PK at px2 sh
      generalize PyData.list (marksL o p) = M at ml
      generalize PyData.list (p.map PyData.int) = P
      generalize z / 64 = z64 at d64 m3 px2
      generalize z64 % 3 = z3 at m3 px2
      simp only [sSet_eq, eM_eq, eBin_eq, eB_eq, eLst_eq, aCons_eq, aNil_eq, eC_eq, R.bind_ok, R.map_ok, gNeg_int, eVar_3, eVar_4, eVar_5, tenp, gT, R.of_some, s1, eCa_eq, ml, viewD_d, sg, List.length_cons, List.length_nil, List.map_cons, List.map_nil, d64, m3]
      rw [guard_pos (by rw [sizeLine_eq]; decide), R.bind_ok, sh, R.bind_ok, px2]
      rfl
    · refine ⟨ps.length + b1, .inr (by omega), ?_⟩
      have ct : (eB (eBin gEq (eBin gMod (eBin gDiv (eVar 5) (eC (.int 256))) (eC (.int 2))) (eC (.int 1))) asB) [some (.d TN), some (.d TR), some (.d (.list (p.map PyData.int))), some (.d (.list (marksL o p))), some (.d (.int c)), some (.d (.int z)), some (.d (.int (s : Nat))), some (.d (.int (ps.length + b1)))] = .ok false := by
        generalize PyData.list (marksL o p) = M
        generalize PyData.list (p.map PyData.int) = P
        simp [d256, m2, q]
      show sIf _ _ _ _ = _
      rw [sIf_eq, ct, R.st_ok]
      rfl
  refine fin_step st ?_
  have bad := at_bad ha hb (p.drop (s + 1))
  have h := h10 (p.take s ++ b :: p.drop (s + 1))
  rw [bad] at h
  have sl1 : gSl (.list (p.map PyData.int)) none (some (s : Int)) = some (.l (((p.take s).map PyData.int).map Ow.d)) := by
    rw [gSl_list, cutL_take, ← List.map_take]
  have sl2 : gSl (.list (p.map PyData.int)) (some ((s : Int) + 1)) none = some (.l (((p.drop (s + 1)).map PyData.int).map Ow.d)) := by
    have := cutL_drop (p.map PyData.int) (s + 1)
    rw [show ((s + 1 : Nat) : Int) = (s : Int) + 1 from by omega] at this
    rw [gSl_list, this, ← List.map_drop]
  have lp := hp.1
  have sh1 := shD_l ((p.take s).map PyData.int)
  have sh2 := shD_l ((p.drop (s + 1)).map PyData.int)
  have shb := shl1 (.int b)
  have a1 : gAdd (.list ((p.take s).map PyData.int)) (.list [.int b]) = some (.l (((p.take s ++ [b]).map PyData.int).map Ow.d)) := add_ls PyData.int (p.take s) [b] (by rw [List.length_take]; simp; omega)
  have sh3 := shD_l ((p.take s ++ [b]).map PyData.int)
  have a2 : gAdd (.list ((p.take s ++ [b]).map PyData.int)) (.list ((p.drop (s + 1)).map PyData.int)) = some (.l (((p.take s ++ [b] ++ p.drop (s + 1)).map PyData.int).map Ow.d)) := add_ls PyData.int (p.take s ++ [b]) (p.drop (s + 1)) (by rw [List.length_append, List.length_take, List.length_drop]; simp; omega)
  have sh4 := shD_l ((p.take s ++ [b] ++ p.drop (s + 1)).map PyData.int)
  have gt : gTuple [.list ((p.take s ++ [b] ++ p.drop (s + 1)).map PyData.int)] = some (.d (.tuple ((p.take s ++ b :: p.drop (s + 1)).map PyData.int))) := by
    rw [List.append_assoc, List.singleton_append]
    rfl
  have nn : isNone (labD none) = true := rfl
  generalize PyData.tuple ((p.take s ++ b :: p.drop (s + 1)).map PyData.int) = Q at h gt
  generalize labD none = LN at h nn
  generalize PyData.list ((p.take s ++ [b] ++ p.drop (s + 1)).map PyData.int) = L4 at sh4 gt
  generalize ((p.take s ++ [b] ++ p.drop (s + 1)).map PyData.int).map Ow.d = O4 at a2 sh4
  generalize PyData.list ((p.take s ++ [b]).map PyData.int) = L3 at sh3 a2
  generalize ((p.take s ++ [b]).map PyData.int).map Ow.d = O3 at a1 sh3
  generalize PyData.list ((p.drop (s + 1)).map PyData.int) = L2' at sh2 a2
  generalize ((p.drop (s + 1)).map PyData.int).map Ow.d = O2 at sl2 sh2
  generalize PyData.list ((p.take s).map PyData.int) = L1 at sh1 a1
  generalize ((p.take s).map PyData.int).map Ow.d = O1 at sl1 sh1
  generalize PyData.list (marksL o p) = M
  generalize PyData.list (p.map PyData.int) = P at sl1 sl2
  simp [sl1, sl2, sh1, sh2, shb, a1, sh3, a2, sh4, gt, h, nn, sizeLine_eq]
end
end Mir
set_option Elab.async false
set_option linter.all false
set_option maxRecDepth 100000
set_option maxHeartbeats 4000000
namespace Mir
open PySem PySem.Spec L2
noncomputable section
abbrev imC : Ev → R Bool := (eB (eBin gEq (eBin gIx (eBin gIx (eBin gIx (eVar 0) (eC (.int 2))) (eVar 6)) (eC (.int 0))) (eBin gIx (eBin gIx (eVar 1) (eVar 5)) (eC (.int 0)))) asB)
abbrev imIn (f11 f24 f25 f26 : List D → R Ow) : Ev → SR := (sSeq (sAsg (gtTup 2 (gtCons (gtName 7) (gtCons (gtName 8) gtNil))) (eM (eB (aCons (eVar 0) (aCons (eTup (aCons (eC (.str "call")) (aCons (eVar 6) (aCons (eC (.int 0)) aNil)))) (aCons (eTup (aCons (eC (.str "")) (aCons (eC (.int 0)) (aCons (eTup (aCons (eBin gIx (eVar 2) (eVar 5)) aNil)) aNil)))) aNil))) f24) viewD))
    (sSeq (sIf (tNotE (eB (eM (eB (aCons (eM (eB (aCons (eVar 0) (aCons (eVar 6) (aCons (eBin gIx (eVar 2) (eVar 5)) (aCons (eTup aNil) aNil)))) f11) viewD) (aCons (eM (eB (aCons (eVar 7) (aCons (eVar 8) aNil)) f25) viewD) aNil)) f26) viewD) asB))
    (sRet (eM (eC (.bool false)) Ow.d))
    sSkip)
    (sSeq (sSet 9 (eM (eC .none) Ow.d))
    (sSeq (sSet 10 (eM (eBin gMod (eBin gDiv (eVar 4) (eC (.int 128))) (eC (.int 3))) Ow.d))
    (sSeq (sIf (eB (eBin gLt (eVar 10) (eM (eCa gLen (aCons (eBin gIx (eVar 7) (eC (.int 4))) aNil)) viewD)) asB)
    (sSeq (sAsg (gtTup 2 (gtCons (gtName 11) (gtCons (gtName 12) gtNil))) (eM (eB (aCons (eVar 0) (aCons (eBin gIx (eBin gIx (eVar 7) (eC (.int 4))) (eVar 10)) (aCons (eVar 8) aNil))) f24) viewD))
    (sSet 9 (eM (eM (eB (aCons (eVar 11) (aCons (eVar 12) aNil)) f25) viewD) Ow.d)))
    sSkip)
    (sIf (tNotE (eB (eM (eB (aCons (eM (eB (aCons (eVar 0) (aCons (eVar 6) (aCons (eBin gIx (eVar 2) (eVar 5)) (aCons (eTup (aCons (eVar 10) aNil)) aNil)))) f11) viewD) (aCons (eVar 9) aNil)) f26) viewD) asB))
    (sRet (eM (eC (.bool false)) Ow.d))
    sSkip))))))
abbrev bInMode (f11 f13 f24 f25 f26 : List D → R Ow) : Ev → SR := (sSeq (sSet 4 (eM (eM (eB (aCons (eVar 3) (aCons (eC (.int 17)) aNil)) f13) viewD) Ow.d))
    (sSeq (sSet 5 (eM (eBin gMod (eVar 4) (eM (eCa gLen (aCons (eVar 1) aNil)) viewD)) Ow.d))
    (sSeq (sFor (eB (aCons (eM (eCa gLen (aCons (eBin gIx (eVar 0) (eC (.int 2))) aNil)) viewD) aNil) rg1) (gtName 6)
    (sIf imC
    (imIn f11 f24 f25 f26)
    sSkip))
    (sRet (eM (eC (.bool true)) Ow.d)))))
theorem imIn_ok {t : Trn} {B L : Nat} {f11 f24 f25 f26 : List D → R Ow} (hs : Settles t B L f24) (h25 : ∀ nm kp ad ps u, f25 [encM (.put nm kp ad ps), encT u] = .ok (.d (labD (some (madT t u (.put nm kp ad ps)))))) (hl : LabsOk f26) (hB : 1 ≤ B)
    {u : Tr} {i s : Nat} {p : Str × List Trm} (hp : t.modes[i]? = some p) (hu : levT (aboveT u) ≤ L) (hk : isOf t.wood u p.1 = true) {TS ND : D} (hts : gIx TS (.int (s : Nat)) = some (encT u))
    (h11 : ∀ q : List Int, f11 [encTn t, .int (i : Nat), encT u, .tuple (q.map PyData.int)] = .ok (.d (labD (atT (madT t (aboveT u) (.call (i : Nat) 0)) q)))) (C : Option Ow) (z : Int) (x7 x8 x9 x10 x11 x12 : Option Ow) :
    ∃ y7 y8 y9 y10 y11 y12, imIn f11 f24 f25 f26 [some (.d (encTn t)), some (.d ND), some (.d TS), C, some (.d (.int z)), some (.d (.int (s : Nat))), some (.d (.int (i : Nat))), x7, x8, x9, x10, x11, x12] = .nx [some (.d (encTn t)), some (.d ND), some (.d TS), C, some (.d (.int z)), some (.d (.int (s : Nat))), some (.d (.int (i : Nat))), y7, y8, y9, y10, y11, y12] := by
  have fit : FitT t [p.1] (.call (i : Nat) 0) := fun c hc => by
    rw [callsM] at hc
    rw [List.mem_singleton.mp hc]
    exact ⟨by show (0 : Int) ≤ (i : Nat); omega, Int.le_refl _, p, by rw [Int.toNat_natCast]; exact hp, rfl⟩
  have good : GoodM B (.call (i : Nat) 0) := ⟨call_okM _ _, by rw [levM]; exact hB, by rw [sizeM]; omega⟩
  have kids : KidsOk t.wood [p.1] (aboveT u) := ⟨rfl, by
    show isOfs t.wood [u] [p.1] = true
    rw [isOfs, hk, isOfs]; rfl⟩
  obtain ⟨nm, kp, ad, ps, u1, ks, ha, he⟩ := AtP.start hs hu fit good kids
  have ec : encM (.call (i : Nat) 0) = .tuple [.str "call", .int (i : Nat), .int 0] := by rw [encM]
  have ab : encT (aboveT u) = .tuple [.str "", .int 0, .tuple [encT u]] := by unfold aboveT; rw [encT_mk]; rfl
  rw [ec, ab] at he
  have l0 := h25 nm kp ad ps u1
  rw [← ha.at_] at l0
  have s0 := h11 []
  change f11 [encTn t, .int (i : Nat), encT u, .tuple []] = _ at s0
  have b0 := ha.lab hl
  obtain ⟨j, hj, jl⟩ := emod_nat (c := z / 128) (n := 3) (by decide)
  change z / 128 % 3 = _ at hj
  have gd : gDiv (.int z) (.int 128) = some (.int (z / 128)) := gDiv_small (by decide) (by decide)
  have gm : gMod (.int (z / 128)) (.int 3) = some (.int (j : Nat)) := by rw [gMod_int (by decide), hj]
  have s1 := h11 [(j : Int)]
  change f11 [encTn t, .int (i : Nat), encT u, .tuple [.int (j : Nat)]] = _ at s1
  have m4 := m_ix4 nm kp ad ps
  have l4 := tup_len (ps.map encM)
  rw [List.length_map] at l4
  by_cases c : j < ps.length
  · have hpj := List.getElem?_eq_getElem c
    obtain ⟨nm2, kp2, ad2, ps2, u2, ks2, ha2, he2⟩ := ha.step hs hpj
    rw [List.nil_append] at ha2
    have l1 := h25 nm2 kp2 ad2 ps2 u2
    rw [← ha2.at_] at l1
    have b1 := ha2.lab hl
    have ip : gIx (.tuple (ps.map encM)) (.int (j : Nat)) = some (encM ps[j]) := by
      show atI (ps.map encM) _ = _
      exact atI_natD (by rw [List.getElem?_map, hpj]; rfl)
    refine ⟨some (.d (encM (.put nm kp ad ps))), some (.d (encT u1)), some (.d (labD (atT (madT t (aboveT u) (.call (i : Nat) 0)) [(j : Int)]))), some (.d (.int (j : Nat))), some (.d (encM (.put nm2 kp2 ad2 ps2))), some (.d (encT u2)), ?_⟩
    generalize labD (atT (madT t (aboveT u) (.call (i : Nat) 0)) []) = LB0 at l0 s0 b0
    generalize labD (atT (madT t (aboveT u) (.call (i : Nat) 0)) [(j : Int)]) = LB1 at l1 s1 b1 ⊢
    generalize PyData.tuple (ps.map encM) = TP at m4 l4 ip
    generalize encM ps[j] = EP at ip he2
    generalize encM (.put nm kp ad ps) = E at m4 he l0 ⊢
    generalize encM (.put nm2 kp2 ad2 ps2) = E2 at he2 l1 ⊢
    generalize encT u = U at he s0 s1 hts
    generalize encT u1 = U1 at he he2 l0 ⊢
    generalize encT u2 = U2 at he2 l1 ⊢
    generalize encTn t = TN at he he2 s0 s1 ⊢
    generalize z / 128 = z2 at gd gm
    have lt : ((j : Nat) : Int) < ((ps.length : Nat) : Int) := by omega
    simp [hts, he, s0, l0, b0, gd, gm, m4, l4, lt, ip, he2, l1, s1, b1, sizeLine_eq]
  · have none1 : atT (madT t (aboveT u) (.call (i : Nat) 0)) [(j : Int)] = none := by
      have := at_bad (q := []) ha (b := (j : Int)) (.inr (by omega))
      rwa [List.nil_append] at this
    rw [none1] at s1
    have b1 := hl.2
    refine ⟨some (.d (encM (.put nm kp ad ps))), some (.d (encT u1)), some (.d .none), some (.d (.int (j : Nat))), x11, x12, ?_⟩
    have nn : labD none = .none := rfl
    rw [nn] at s1
    generalize labD (atT (madT t (aboveT u) (.call (i : Nat) 0)) []) = LB0 at l0 s0 b0
    generalize PyData.tuple (ps.map encM) = TP at m4 l4
    generalize encM (.put nm kp ad ps) = E at m4 he l0 ⊢
    generalize encT u = U at he s0 s1 hts
    generalize encT u1 = U1 at he l0 ⊢
    generalize encTn t = TN at he s0 s1 ⊢
    generalize z / 128 = z2 at gd gm
    have lt : ¬ ((j : Nat) : Int) < ((ps.length : Nat) : Int) := by omega
    simp [hts, he, s0, l0, b0, gd, gm, m4, l4, lt, s1, b1, sizeLine_eq]
theorem inMode_fin {t : Trn} {B L : Nat} {f11 f13 f24 f25 f26 : List D → R Ow} (hs : Settles t B L f24) (h25 : ∀ nm kp ad ps u, f25 [encM (.put nm kp ad ps), encT u] = .ok (.d (labD (some (madT t u (.put nm kp ad ps)))))) (hl : LabsOk f26) (hB : 1 ≤ B)
    (h13 : ∀ (c : Int) (j : Nat), j ≤ 1000 → f13 [.int c, .int (j : Nat)] = .ok (.d (.int (mixI c (j : Nat))))) (hm : t.modes.length ≤ 1000) {ns : List Nd} {tf : Nat → Tr} (hn : 0 < ns.length) (hg : ∀ (k : Nat) (n : Nd), ns[k]? = some n → isOf t.wood (tf k) n.kind = true ∧ levT (aboveT (tf k)) ≤ L)
    (h11 : ∀ (i k : Nat) (n : Nd) (p : Str × List Trm), ns[k]? = some n → t.modes[i]? = some p → p.1 = n.kind → ∀ q : List Int, f11 [encTn t, .int (i : Nat), encT (tf k), .tuple (q.map PyData.int)] = .ok (.d (labD (atT (madT t (aboveT (tf k)) (.call (i : Nat) 0)) q)))) (c : Int) :
    finR (bInMode f11 f13 f24 f25 f26 (envOf 9 [encTn t, ndsD ns, .list ((List.range ns.length).map fun k => encT (tf k)), .int c])) = .ok (.d (.bool true)) := by
  obtain ⟨TS, hTS⟩ : ∃ TS, TS = PyData.list ((List.range ns.length).map fun k => encT (tf k)) := ⟨_, rfl⟩
  have hts : ∀ k, k < ns.length → gIx TS (.int (k : Nat)) = some (encT (tf k)) := fun k hk => by rw [hTS]; exact rng_ix _ hk
  rw [← hTS]
  clear hTS
  have he : envOf 9 [encTn t, ndsD ns, TS, .int c] = [some (.d (encTn t)), some (.d (ndsD ns)), some (.d TS), some (.d (.int c)), none, none, none, none, none, none, none, none, none] := rfl
  rw [he]
  have m17 : f13 [.int c, .int 17] = .ok (.d (.int (mixI c 17))) := h13 c 17 (by decide)
  generalize mixI c 17 = z at m17
  obtain ⟨s, hs', sl⟩ := emod_nat (c := z) (n := ns.length) hn
  have gm : gMod (.int z) (.int (ns.length : Nat)) = some (.int (s : Nat)) := by rw [gMod_int (by omega), hs']
  have ln := ndsD_len ns
  have es := List.getElem?_eq_getElem sl
  obtain ⟨nd, hnd⟩ : ∃ nd, ns[s] = nd := ⟨_, rfl⟩
  rw [hnd] at es
  refine fin_step (env1 := [some (.d (encTn t)), some (.d (ndsD ns)), some (.d TS), some (.d (.int c)), some (.d (.int z)), none, none, none, none, none, none, none, none]) (by generalize ndsD ns = ND; generalize encTn t = TN; simp [m17]) ?_
  refine fin_step (env1 := [some (.d (encTn t)), some (.d (ndsD ns)), some (.d TS), some (.d (.int c)), some (.d (.int z)), some (.d (.int (s : Nat))), none, none, none, none, none, none, none]) (by generalize ndsD ns = ND at ln; generalize encTn t = TN; simp [ln, gm]) ?_
  obtain ⟨env', e1, y6, y7, y8, y9, y10, y11, y12, e2⟩ := forL_map (g := gtName 6) (f := sIf imC (imIn f11 f24 f25 f26) sSkip) (fun c : Nat => PyData.int (c : Nat)) (List.range t.modes.length)
    (fun i env => ∃ y6 y7 y8 y9 y10 y11 y12, env = [some (.d (encTn t)), some (.d (ndsD ns)), some (.d TS), some (.d (.int c)), some (.d (.int z)), some (.d (.int (s : Nat))), y6, y7, y8, y9, y10, y11, y12]) (fun i c' env hc ⟨y6, y7, y8, y9, y10, y11, y12, e⟩ => by
      subst e
      obtain ⟨q1, q2⟩ := List.getElem?_eq_some_iff.mp hc
      rw [List.length_range] at q1
      rw [List.getElem_range] at q2
      subst q2
      have em := List.getElem?_eq_getElem q1
      obtain ⟨p, hp⟩ : ∃ p, t.modes[i] = p := ⟨_, rfl⟩
      rw [hp] at em
      have i2 : gIx (encTn t) (.int 2) = some (moD t.modes) := w_ix2 t
      have im := mo_ix em
      have ip := mo_ix0 p
      have ix := ndsD_ix es
      have i0 := nd_d0 nd
      have ct : imC [some (.d (encTn t)), some (.d (ndsD ns)), some (.d TS), some (.d (.int c)), some (.d (.int z)), some (.d (.int (s : Nat))), some (.d (.int (i : Nat))), y7, y8, y9, y10, y11, y12] = .ok (p.1 == nd.kind) := by
        generalize encMo p = P at im ip
        generalize moD t.modes = M at i2 im
        generalize ndD nd = NN at ix i0
        generalize ndsD ns = ND at ix
        generalize encTn t = TN at i2
        simp [i2, im, ip, ix, i0, gEq_str]
      cases cc : p.1 == nd.kind with
      | false =>
        refine ⟨_, rfl, [some (.d (encTn t)), some (.d (ndsD ns)), some (.d TS), some (.d (.int c)), some (.d (.int z)), some (.d (.int (s : Nat))), some (.d (.int (i : Nat))), y7, y8, y9, y10, y11, y12], .inl ?_, _, _, _, _, _, _, _, rfl⟩
        show sIf _ _ _ [some (.d (encTn t)), some (.d (ndsD ns)), some (.d TS), some (.d (.int c)), some (.d (.int z)), some (.d (.int (s : Nat))), some (.d (.int (i : Nat))), y7, y8, y9, y10, y11, y12] = _
        rw [sIf_eq, ct, R.st_ok, cc]
        rfl
      | true =>
        have ek : p.1 = nd.kind := by simpa using cc
        obtain ⟨g1, g2⟩ := hg s nd es
        obtain ⟨w7, w8, w9, w10, w11, w12, st⟩ := imIn_ok hs h25 hl hB em g2 (by rw [ek]; exact g1) (hts s sl) (h11 i s nd p es em ek) (ND := ndsD ns) (some (.d (.int c))) z y7 y8 y9 y10 y11 y12
        refine ⟨_, rfl, [some (.d (encTn t)), some (.d (ndsD ns)), some (.d TS), some (.d (.int c)), some (.d (.int z)), some (.d (.int (s : Nat))), some (.d (.int (i : Nat))), w7, w8, w9, w10, w11, w12], .inl ?_, _, _, _, _, _, _, _, rfl⟩
        show sIf _ _ _ [some (.d (encTn t)), some (.d (ndsD ns)), some (.d TS), some (.d (.int c)), some (.d (.int z)), some (.d (.int (s : Nat))), some (.d (.int (i : Nat))), y7, y8, y9, y10, y11, y12] = _
        rw [sIf_eq, ct, R.st_ok, cc, if_pos rfl]
        exact st) [some (.d (encTn t)), some (.d (ndsD ns)), some (.d TS), some (.d (.int c)), some (.d (.int z)), some (.d (.int (s : Nat))), none, none, none, none, none, none, none] ⟨_, _, _, _, _, _, _, rfl⟩
  subst e2
  refine fin_step (env1 := [some (.d (encTn t)), some (.d (ndsD ns)), some (.d TS), some (.d (.int c)), some (.d (.int z)), some (.d (.int (s : Nat))), y6, y7, y8, y9, y10, y11, y12]) (by
    have i2 : gIx (encTn t) (.int 2) = some (moD t.modes) := w_ix2 t
    have ml := mo_len t.modes
    have rg := rg1_nat t.modes.length (by omega)
    rw [rangeD_map] at rg
    have it : (eB (aCons (eM (eCa gLen (aCons (eBin gIx (eVar 0) (eC (.int 2))) aNil)) viewD) aNil) rg1) [some (.d (encTn t)), some (.d (ndsD ns)), some (.d TS), some (.d (.int c)), some (.d (.int z)), some (.d (.int (s : Nat))), none, none, none, none, none, none, none] = .ok ((List.range t.modes.length).map fun c : Nat => PyData.int (c : Nat)) := by
      generalize moD t.modes = M at i2 ml
      generalize ndsD ns = ND
      generalize encTn t = TN at i2
      simp [i2, ml, rg]
    rw [sFor_eq, it, R.st_ok]
    exact e1) ?_
  rfl
end
end Mir
set_option Elab.async false
set_option linter.all false
set_option maxRecDepth 100000
set_option maxHeartbeats 4000000
namespace G
open PySem PySem.Spec L2 Mir
def top (i : Nat) : Stmt := PySem.Challenge.pw_turnery_k24_places_seen.main.body.getD i (.Pass ⟨0, 0, 0, 0⟩)
abbrev s_rows_of : Stmt := top 4
abbrev s_row_of : Stmt := top 5
abbrev s_is_of : Stmt := top 6
abbrev s_row_number : Stmt := top 8
abbrev s_rule_of : Stmt := top 9
abbrev s_look : Stmt := top 11
abbrev s_above : Stmt := top 12
abbrev s_mark_of : Stmt := top 13
abbrev s_settled : Stmt := top 14
abbrev s_seen_from : Stmt := top 15
abbrev s_seen : Stmt := top 16
abbrev s_seen_in : Stmt := top 17
abbrev s__law_cell_at : Stmt := top 19
abbrev s__law_mixed : Stmt := top 20
abbrev s__law_names : Stmt := top 21
abbrev s__law_great : Stmt := top 22
abbrev s__law_wood : Stmt := top 23
abbrev s__law_term : Stmt := top 24
abbrev s__law_calls : Stmt := top 25
abbrev s__law_turning : Stmt := top 26
abbrev s__law_mark : Stmt := top 27
abbrev s__law_grown : Stmt := top 28
abbrev s__law_built : Stmt := top 29
abbrev s__law_rule : Stmt := top 30
abbrev s__law_come : Stmt := top 31
abbrev s__law_label : Stmt := top 32
abbrev s__law_labels : Stmt := top 33
abbrev s__law_whole : Stmt := top 34
abbrev s__law_copy : Stmt := top 35
abbrev s__law_ways : Stmt := top 36
abbrev s__law_astray : Stmt := top 37
abbrev s__law_in_mode : Stmt := top 38
abbrev s_law : Stmt := top 39
/-- rows_of: 0 wood, 1 kind, 2 told, 3 rows -/
noncomputable def b_rows_of (m : Nat → List PyData → R Ow) : Ev → SR :=
    (sSeq (sFor (eB (eVar 0) itD) (gtTup 2 (gtCons (gtName 2) (gtCons (gtName 3) gtNil)))
    (sIf (eB (eBin gEq (eVar 2) (eVar 1)) asB)
    (sRet (eM (eVar 3) Ow.d))
    sSkip))
    (sRet (eLst aNil)))
/-- row_of: 0 wood, 1 kind, 2 name, 3 told, 4 branches -/
noncomputable def b_row_of (m : Nat → List PyData → R Ow) : Ev → SR :=
    (sSeq (sFor (eB (eM (eB (aCons (eVar 0) (aCons (eVar 1) aNil)) (m 0)) viewD) itD) (gtTup 2 (gtCons (gtName 3) (gtCons (gtName 4) gtNil)))
    (sIf (eB (eBin gEq (eVar 3) (eVar 2)) asB)
    (sRet (eM (eVar 4) Ow.d))
    sSkip))
    (sRet (eM (eC .none) Ow.d)))
/-- is_of: 0 wood, 1 kind, 2 tree, 3 branches, 4 wanted, 5 branch -/
noncomputable def b_is_of (m : Nat → List PyData → R Ow) : Ev → SR :=
    (sSeq (sSet 3 (eM (eM (eB (aCons (eVar 0) (aCons (eVar 1) (aCons (eBin gIx (eVar 2) (eC (.int 0))) aNil))) (m 1)) viewD) Ow.d))
    (sSeq (sIf (tOrE (eB (eBin gIsN (eVar 3) (eC .none)) asB) (eB (eBin gNe (eM (eCa gLen (aCons (eVar 3) aNil)) viewD) (eM (eCa gLen (aCons (eBin gIx (eVar 2) (eC (.int 2))) aNil)) viewD)) asB))
    (sRet (eM (eC (.bool false)) Ow.d))
    sSkip)
    (sSeq (sFor (eB (aCons (eVar 3) (aCons (eBin gIx (eVar 2) (eC (.int 2))) aNil)) zpArg) (gtTup 2 (gtCons (gtName 4) (gtCons (gtName 5) gtNil)))
    (sIf (tNotE (eB (eM (eB (aCons (eVar 0) (aCons (eVar 4) (aCons (eVar 5) aNil))) (m 2)) viewD) asB))
    (sRet (eM (eC (.bool false)) Ow.d))
    sSkip))
    (sRet (eM (eC (.bool true)) Ow.d)))))
/-- row_number: 0 wood, 1 kind, 2 name, 3 k, 4 row -/
noncomputable def b_row_number (m : Nat → List PyData → R Ow) : Ev → SR :=
    (sSeq (sFor (eB (aCons (eM (eB (aCons (eVar 0) (aCons (eVar 1) aNil)) (m 0)) viewD) aNil) enArg) (gtTup 2 (gtCons (gtName 3) (gtCons (gtName 4) gtNil)))
    (sIf (eB (eBin gEq (eBin gIx (eVar 4) (eC (.int 0))) (eVar 2)) asB)
    (sRet (eM (eVar 3) Ow.d))
    sSkip))
    (sRet (eM (eC .none) Ow.d)))
/-- rule_of: 0 turning, 1 mode, 2 name, 3 kind, 4 rules, 5 k -/
noncomputable def b_rule_of (m : Nat → List PyData → R Ow) : Ev → SR :=
    (sSeq (sAsg (gtTup 2 (gtCons (gtName 3) (gtCons (gtName 4) gtNil))) (eBin gIx (eBin gIx (eVar 0) (eC (.int 2))) (eVar 1)))
    (sSeq (sSet 5 (eM (eM (eB (aCons (eBin gIx (eVar 0) (eC (.int 0))) (aCons (eVar 3) (aCons (eVar 2) aNil))) (m 3)) viewD) Ow.d))
    (sSeq (sIf (eB (eBin gIsN (eVar 5) (eC .none)) asB)
    (sRet (eM (eC .none) Ow.d))
    sSkip)
    (sRet (eM (eBin gIx (eVar 4) (eVar 5)) Ow.d)))))
/-- look: 0 turning, 1 kind, 2 tree -/
noncomputable def b_look (m : Nat → List PyData → R Ow) : Ev → SR :=
    (sIf (tNotE (eB (eM (eB (aCons (eBin gIx (eVar 0) (eC (.int 0))) (aCons (eVar 1) (aCons (eVar 2) aNil))) (m 2)) viewD) asB))
    (sRaise "NoTree")
    sSkip)
/-- above: 0 tree -/
noncomputable def b_above (m : Nat → List PyData → R Ow) : Ev → SR :=
    (sRet (eM (eTup (aCons (eC (.str "")) (aCons (eC (.int 0)) (aCons (eTup (aCons (eVar 0) aNil)) aNil)))) Ow.d))
/-- mark_of: 0 put, 1 read -/
noncomputable def b_mark_of (m : Nat → List PyData → R Ow) : Ev → SR :=
    (sSeq (sIf (eB (eBin gIx (eVar 0) (eC (.int 2))) asB)
    (sRet (eBinO gAdd (eBin gIx (eVar 0) (eC (.int 3))) (eBin gIx (eVar 1) (eC (.int 1)))))
    sSkip)
    (sRet (eM (eBin gIx (eVar 0) (eC (.int 3))) Ow.d)))
/-- settled: 0 turning, 1 term, 2 read -/
noncomputable def b_settled (m : Nat → List PyData → R Ow) : Ev → SR :=
    (sSeq (whileN (eB (eBin gEq (eBin gIx (eVar 1) (eC (.int 0))) (eC (.str "call"))) asB)
    (sSeq (sSet 2 (eM (eBin gIx (eBin gIx (eVar 2) (eC (.int 2))) (eBin gIx (eVar 1) (eC (.int 2)))) Ow.d))
    (sSet 1 (eM (eM (eB (aCons (eVar 0) (aCons (eBin gIx (eVar 1) (eC (.int 1))) (aCons (eBin gIx (eVar 2) (eC (.int 0))) aNil))) (m 4)) viewD) Ow.d))) 1000000)
    (sRet (eM (eTup (aCons (eVar 1) (aCons (eVar 2) aNil))) Ow.d)))
/-- seen_from: 0 turning, 1 term, 2 read, 3 place, 4 here, 5 branch -/
noncomputable def b_seen_from (m : Nat → List PyData → R Ow) : Ev → SR :=
    (sSeq (sAsg (gtTup 2 (gtCons (gtName 4) (gtCons (gtName 2) gtNil))) (eM (eB (aCons (eVar 0) (aCons (eVar 1) (aCons (eVar 2) aNil))) (m 8)) viewD))
    (sSeq (sFor (eB (eVar 3) itD) (gtName 5)
    (sSeq (sIf (tOrE (eB (eBin gLt (eVar 5) (eC (.int 0))) asB) (eB (eBin gGe (eVar 5) (eM (eCa gLen (aCons (eBin gIx (eVar 4) (eC (.int 4))) aNil)) viewD)) asB))
    (sRet (eM (eC .none) Ow.d))
    sSkip)
    (sAsg (gtTup 2 (gtCons (gtName 4) (gtCons (gtName 2) gtNil))) (eM (eB (aCons (eVar 0) (aCons (eBin gIx (eBin gIx (eVar 4) (eC (.int 4))) (eVar 5)) (aCons (eVar 2) aNil))) (m 8)) viewD))))
    (sRet (eM (eTup (aCons (eBin gIx (eVar 4) (eC (.int 1))) (aCons (eM (eB (aCons (eVar 4) (aCons (eVar 2) aNil)) (m 7)) viewD) (aCons (eM (eCa gLen (aCons (eBin gIx (eVar 4) (eC (.int 4))) aNil)) viewD) aNil)))) Ow.d))))
/-- seen: 0 turning, 1 tree, 2 place -/
noncomputable def b_seen (m : Nat → List PyData → R Ow) : Ev → SR :=
    (sSeq (sDrop (eM (eB (aCons (eVar 0) (aCons (eBin gIx (eBin gIx (eBin gIx (eVar 0) (eC (.int 0))) (eC (.int 0))) (eC (.int 0))) (aCons (eVar 1) aNil))) (m 5)) viewD))
    (sRet (eB (aCons (eVar 0) (aCons (eBin gIx (eVar 0) (eC (.int 1))) (aCons (eM (eB (aCons (eVar 1) aNil) (m 6)) viewD) (aCons (eVar 2) aNil)))) (m 9))))
/-- seen_in: 0 turning, 1 mode, 2 tree, 3 place -/
noncomputable def b_seen_in (m : Nat → List PyData → R Ow) : Ev → SR :=
    (sSeq (sDrop (eM (eB (aCons (eVar 0) (aCons (eBin gIx (eBin gIx (eBin gIx (eVar 0) (eC (.int 2))) (eVar 1)) (eC (.int 0))) (aCons (eVar 2) aNil))) (m 5)) viewD))
    (sRet (eB (aCons (eVar 0) (aCons (eTup (aCons (eC (.str "call")) (aCons (eVar 1) (aCons (eC (.int 0)) aNil)))) (aCons (eM (eB (aCons (eVar 2) aNil) (m 6)) viewD) (aCons (eVar 3) aNil)))) (m 9))))
/-- _law_cell_at: 0 _law_script, 1 _law_k -/
noncomputable def b__law_cell_at (m : Nat → List PyData → R Ow) : Ev → SR :=
    (sSeq (sIf (eB (eBin gLt (eVar 1) (eM (eCa gLen (aCons (eVar 0) aNil)) viewD)) asB)
    (sRet (eM (eBin gIx (eVar 0) (eVar 1)) Ow.d))
    sSkip)
    (sRet (eM (eC (.int 0)) Ow.d)))
/-- _law_mixed: 0 _law_cell, 1 _law_k, 2 _law_number -/
noncomputable def b__law_mixed (m : Nat → List PyData → R Ow) : Ev → SR :=
    (sSeq (sSet 2 (eM (eM (eBinO gAdd (eBin gMod (eVar 0) (eC (.int 2147483647))) (eBin gMul (eC (.int 48271)) (eM (eBinO gAdd (eVar 1) (eC (.int 1))) viewD))) viewD) Ow.d))
    (sSeq (sSet 2 (eM (eBin gMod (eM (eBinO gAdd (eBin gMul (eVar 2) (eVar 2)) (eBin gMul (eC (.int 69621)) (eVar 1))) viewD) (eC (.int 2147483647))) Ow.d))
    (sRet (eM (eBin gMod (eM (eBinO gAdd (eB (eBinO gAdd (eBin gMul (eVar 2) (eVar 2)) (eBin gMul (eC (.int 16807)) (eVar 1))) shD) (eC (.int 1))) viewD) (eC (.int 2147483647))) Ow.d))))
/-- _law_names: 0 _law_cell, 1 _law_letters, 2 _law_base, 3 _law_j, 4 _law_k, 5 _law_width, 6 _law_spot, 7 _law_names_here, 8 _law_moved -/
noncomputable def b__law_names (m : Nat → List PyData → R Ow) : Ev → SR :=
    (sSeq (sSet 1 (eM (eC (.str "abcdefghijklmnopqrstuvwxyz")) Ow.d))
    (sSeq (sSet 2 (eM (eM (eLc (eB (aCons (eC (.int 8)) aNil) rg1) (gtName 3) cYes (eM (eBin gMod (eM (eB (aCons (eVar 0) (aCons (eVar 3) aNil)) (m 13)) viewD) (eC (.int 26))) Ow.d) (List.map (·.2) ([("_law_j", 3)] : List (Str × Nat)))) viewD) Ow.d))
    (sSeq (sIf (eB (eBin gEq (eBin gMod (eBin gDiv (eVar 0) (eC (.int 64))) (eC (.int 4))) (eC (.int 1))) asB)
    (sRet (eLc (eB (aCons (eC (.int 8)) aNil) rg1) (gtName 4) cYes (eM (eJoin (eC (.str "")) (eB (eLc (eB (eM (eSl (eVar 2) oNone (eB (eM (eBinO gAdd (eVar 4) (eC (.int 1))) viewD) asI)) viewD) itD) (gtName 3) cYes (eM (eBin gIx (eVar 1) (eVar 3)) Ow.d) (List.map (·.2) ([("_law_j", 3)] : List (Str × Nat)))) shD)) Ow.d) (List.map (·.2) ([("_law_k", 4)] : List (Str × Nat)))))
    sSkip)
    (sSeq (sSet 5 (eM (eM (eBinO gAdd (eC (.int 1)) (eBin gMod (eVar 0) (eC (.int 8)))) viewD) Ow.d))
    (sSeq (sSet 6 (eM (eBin gMod (eBin gDiv (eVar 0) (eC (.int 8))) (eVar 5)) Ow.d))
    (sSeq (sSet 7 (eLst aNil))
    (sSeq (sFor (eB (aCons (eC (.int 8)) aNil) rg1) (gtName 4)
    (sSeq (sSet 8 (eSl (eVar 2) oNone (eB (eVar 5) asI)))
    (sSeq (sPut 8 (eM (eBin gMod (eM (eBinO gAdd (eBin gIx (eB (eVarO 8) shD) (eVar 6)) (eVar 4)) viewD) (eC (.int 26))) Ow.d) (eVar 6))
    (sFrz 8 (sApp 7 (eM (eJoin (eC (.str "")) (eB (eLc (eB (eVar 8) itD) (gtName 3) cYes (eM (eBin gIx (eVar 1) (eVar 3)) Ow.d) (List.map (·.2) ([("_law_j", 3)] : List (Str × Nat)))) shD)) Ow.d))))))
    (sRetV 7))))))))
/-- _law_great: 0 _law_cell -/
noncomputable def b__law_great (m : Nat → List PyData → R Ow) : Ev → SR :=
    (sRet (eM (eBin gSub (eBin gMod (eVar 0) (eM (eBinO gAdd (eBin gMul (eC (.int 2)) (eBin gPow (eC (.int 10)) (eC (.int 59)))) (eC (.int 1))) viewD)) (eBin gPow (eC (.int 10)) (eC (.int 59)))) Ow.d))
/-- _law_wood: 0 _law_cell, 1 _law_names_here, 2 _law_kinds, 3 _law_wood_here, 4 _law_i, 5 _law_first, 6 _law_rows, 7 _law_r, 8 _law_number, 9 _law_wide, 10 _law_branches, 11 _law_j -/
noncomputable def b__law_wood (m : Nat → List PyData → R Ow) : Ev → SR :=
    (sSeq (sSet 2 (eM (eM (eSl (eVar 1) oNone (eB (eM (eBinO gAdd (eC (.int 1)) (eBin gMod (eVar 0) (eC (.int 3)))) viewD) asI)) viewD) Ow.d))
    (sSeq (sSet 3 (eLst aNil))
    (sSeq (sFor (eB (aCons (eM (eCa gLen (aCons (eVar 2) aNil)) viewD) aNil) rg1) (gtName 4)
    (sSeq (sSet 5 (eM (eM (eB (aCons (eVar 0) (aCons (eVar 4) aNil)) (m 13)) viewD) Ow.d))
    (sSeq (sSet 6 (eLst aNil))
    (sSeq (sFor (eB (aCons (eBin gSub (eM (eBinO gAdd (eC (.int 2)) (eBin gMod (eVar 5) (eC (.int 2)))) viewD) (eM (eCa gInt (aCons (eAnd (eBin gGt (eVar 4) (eC (.int 0))) (eBin gEq (eBin gMod (eBin gDiv (eVar 5) (eC (.int 2))) (eC (.int 3))) (eC (.int 0)))) aNil)) viewD)) aNil) rg1) (gtName 7)
    (sSeq (sSet 8 (eM (eM (eB (aCons (eVar 0) (aCons (eM (eBinO gAdd (eB (eBinO gAdd (eC (.int 8)) (eBin gMul (eC (.int 4)) (eVar 4))) shD) (eVar 7)) viewD) aNil)) (m 13)) viewD) Ow.d))
    (sSeq (sSet 9 (eM (eBin gIx (eB (eLst (aCons (eC (.int 0)) (aCons (eM (eBinO gAdd (eC (.int 1)) (eBin gMod (eVar 8) (eC (.int 2)))) viewD) (aCons (eBin gMod (eVar 8) (eC (.int 4))) aNil)))) shD) (eVar 7)) Ow.d))
    (sSeq (sSet 10 (eM (eM (eLc (eB (aCons (eVar 9) aNil) rg1) (gtName 11) cYes (eM (eBin gIx (eVar 2) (eBin gMod (eM (eB (aCons (eVar 8) (aCons (eVar 11) aNil)) (m 13)) viewD) (eM (eCa gLen (aCons (eVar 2) aNil)) viewD))) Ow.d) (List.map (·.2) ([("_law_j", 11)] : List (Str × Nat)))) viewD) Ow.d))
    (sApp 6 (eM (eTup (aCons (eBin gIx (eVar 1) (eBin gMod (eM (eBinO gAdd (eBin gDiv (eVar 5) (eC (.int 16))) (eVar 7)) viewD) (eC (.int 8)))) (aCons (eM (eCa gTuple (aCons (eVar 10) aNil)) viewD) aNil))) Ow.d))))))
    (sApp 3 (eM (eTup (aCons (eBin gIx (eVar 2) (eVar 4)) (aCons (eM (eCa gSorted (aCons (eB (eVarO 6) shD) aNil)) viewD) aNil))) Ow.d))))))
    (sRetV 3))))
/-- _law_term: 0 _law_cell, 1 _law_k, 2 _law_deep, 3 _law_calls_here, 4 _law_names_here, 5 _law_keep, 6 _law_number, 7 _law_wide, 8 _law_parts, 9 _law_j, 10 _law_kept, 11 _law_add -/
noncomputable def b__law_term (m : Nat → List PyData → R Ow) : Ev → SR :=
    (sSeq (sSet 6 (eM (eM (eB (aCons (eVar 0) (aCons (eVar 1) aNil)) (m 13)) viewD) Ow.d))
    (sSeq (sIf (tAndE (eB (eBin gNe (eVar 3) (eM (eLst aNil) viewD)) asB) (eB (eBin gLt (eBin gMod (eVar 6) (eC (.int 5))) (eC (.int 2))) asB))
    (sRet (eBinO gAdd (eTup (aCons (eC (.str "call")) aNil)) (eBin gIx (eVar 3) (eBin gMod (eBin gDiv (eVar 6) (eC (.int 5))) (eM (eCa gLen (aCons (eVar 3) aNil)) viewD)))))
    sSkip)
    (sSeq (sSet 7 (eM (eC (.int 0)) Ow.d))
    (sSeq (sIf (eB (eBin gGt (eVar 2) (eC (.int 0))) asB)
    (sSet 7 (eM (eM (eBinO gAdd (eBin gSub (eVar 2) (eC (.int 1))) (eBin gMod (eBin gDiv (eVar 6) (eC (.int 8))) (eBin gSub (eC (.int 4)) (eVar 2)))) viewD) Ow.d))
    sSkip)
    (sSeq (sSet 8 (eM (eM (eLc (eB (aCons (eVar 7) aNil) rg1) (gtName 9) cYes (eB (aCons (eVar 0) (aCons (eM (eBinO gAdd (eB (eBinO gAdd (eBin gMul (eC (.int 3)) (eVar 1)) (eVar 9)) shD) (eC (.int 1))) viewD) (aCons (eBin gSub (eVar 2) (eC (.int 1))) (aCons (eVar 3) (aCons (eVar 4) (aCons (eVar 5) aNil)))))) (m 17)) (List.map (·.2) ([("_law_j", 9)] : List (Str × Nat)))) viewD) Ow.d))
    (sSeq (sSet 10 (eM (eAnd (eVar 5) (eBin gEq (eBin gMod (eBin gDiv (eVar 6) (eC (.int 32))) (eC (.int 2))) (eC (.int 1)))) Ow.d))
    (sSeq (sSet 11 (eM (eBin gIx (eB (eLst (aCons (eC (.int 0)) (aCons (eBin gSub (eBin gMod (eBin gDiv (eVar 6) (eC (.int 512))) (eC (.int 19))) (eC (.int 9))) (aCons (eM (eB (aCons (eVar 0) aNil) (m 15)) viewD) aNil)))) shD) (eBin gMod (eBin gDiv (eVar 6) (eC (.int 64))) (eC (.int 3)))) Ow.d))
    (sRet (eM (eTup (aCons (eC (.str "put")) (aCons (eBin gIx (eVar 4) (eBin gMod (eBin gDiv (eVar 6) (eC (.int 16384))) (eC (.int 8)))) (aCons (eVar 10) (aCons (eVar 11) (aCons (eM (eCa gTuple (aCons (eVar 8) aNil)) viewD) aNil)))))) Ow.d)))))))))
/-- _law_calls: 0 _law_branches, 1 _law_owners, 2 _law_calls_here, 3 _law_branch, 4 _law_mode -/
noncomputable def b__law_calls (m : Nat → List PyData → R Ow) : Ev → SR :=
    (sSeq (sSet 2 (eLst aNil))
    (sSeq (sFor (eB (aCons (eM (eCa gLen (aCons (eVar 0) aNil)) viewD) aNil) rg1) (gtName 3)
    (sExt 2 (eB (eLc (eB (aCons (eM (eCa gLen (aCons (eVar 1) aNil)) viewD) aNil) rg1) (gtName 4) (eB (eBin gEq (eBin gIx (eVar 1) (eVar 4)) (eBin gIx (eVar 0) (eVar 3))) asB) (eM (eTup (aCons (eVar 4) (aCons (eVar 3) aNil))) Ow.d) (List.map (·.2) ([("_law_mode", 4)] : List (Str × Nat)))) shD)))
    (sRetV 2)))
/-- _law_turning: 0 _law_script, 1 _law_wood_here, 2 _law_names_here, 3 _law_kinds, 4 _law_kind, 5 _law_rows, 6 _law_number, 7 _law_owners, 8 _law_i, 9 _law_modes, 10 _law_used, 11 _law_rules, 12 _law_row, 13 _law_calls_here, 14 _law_start -/
noncomputable def b__law_turning (m : Nat → List PyData → R Ow) : Ev → SR :=
    (sSeq (sSet 3 (eM (eM (eLc (eB (eVar 1) itD) (gtTup 2 (gtCons (gtName 4) (gtCons (gtName 5) gtNil))) cYes (eM (eVar 4) Ow.d) (List.map (·.2) ([("_law_kind", 4), ("_law_rows", 5)] : List (Str × Nat)))) viewD) Ow.d))
    (sSeq (sSet 6 (eM (eM (eB (aCons (eVar 0) (aCons (eC (.int 3)) aNil)) (m 12)) viewD) Ow.d))
    (sSeq (sSet 7 (eM (eM (eBinO gAdd (eB (eLst (aCons (eBin gIx (eVar 3) (eC (.int 0))) aNil)) shD) (eB (eLc (eB (aCons (eBin gMod (eVar 6) (eC (.int 4))) aNil) rg1) (gtName 8) cYes (eM (eBin gIx (eVar 3) (eBin gMod (eM (eB (aCons (eVar 6) (aCons (eVar 8) aNil)) (m 13)) viewD) (eM (eCa gLen (aCons (eVar 3) aNil)) viewD))) Ow.d) (List.map (·.2) ([("_law_i", 8)] : List (Str × Nat)))) shD)) viewD) Ow.d))
    (sSeq (sSet 9 (eLst aNil))
    (sSeq (sSet 10 (eM (eC (.int 4)) Ow.d))
    (sSeq (sFor (eB (eVar 7) itD) (gtName 4)
    (sSeq (sSet 11 (eLst aNil))
    (sSeq (sFor (eB (eDictIx (eVar 1) (eVar 4)) itD) (gtName 12)
    (sSeq (sSet 13 (eM (eM (eB (aCons (eBin gIx (eVar 12) (eC (.int 1))) (aCons (eVar 7) aNil)) (m 18)) viewD) Ow.d))
    (sSeq (sApp 11 (eB (aCons (eM (eB (aCons (eVar 0) (aCons (eVar 10) aNil)) (m 12)) viewD) (aCons (eC (.int 0)) (aCons (eC (.int 2)) (aCons (eVar 13) (aCons (eVar 2) (aCons (eC (.bool true)) aNil)))))) (m 17)))
    (sSet 10 (eM (eM (eBinO gAdd (eVar 10) (eC (.int 1))) viewD) Ow.d)))))
    (sFrz 11 (sApp 9 (eM (eTup (aCons (eVar 4) (aCons (eVar 11) aNil))) Ow.d))))))
    (sSeq (sSet 14 (eM (eM (eB (aCons (eM (eB (aCons (eVar 0) (aCons (eC (.int 2)) aNil)) (m 12)) viewD) (aCons (eC (.int 0)) (aCons (eC (.int 2)) (aCons (eM (eB (aCons (eM (eLst (aCons (eBin gIx (eVar 3) (eC (.int 0))) aNil)) viewD) (aCons (eVar 7) aNil)) (m 18)) viewD) (aCons (eVar 2) (aCons (eC (.bool false)) aNil)))))) (m 17)) viewD) Ow.d))
    (sFrz 9 (sRet (eM (eTup (aCons (eVar 1) (aCons (eVar 14) (aCons (eVar 9) aNil)))) Ow.d))))))))))
/-- _law_mark: 0 _law_cell, 1 _law_number -/
noncomputable def b__law_mark (m : Nat → List PyData → R Ow) : Ev → SR :=
    (sRet (eM (eBin gIx (eB (eLst (aCons (eC (.int 0)) (aCons (eBin gSub (eBin gMod (eBin gDiv (eVar 1) (eC (.int 2048))) (eC (.int 19))) (eC (.int 9))) (aCons (eM (eB (aCons (eVar 0) aNil) (m 15)) viewD) aNil)))) shD) (eBin gMod (eBin gDiv (eVar 1) (eC (.int 64))) (eC (.int 3)))) Ow.d))
/-- _law_grown: 0 _law_wood_here, 1 _law_cells, 2 _law_top, 3 _law_rows, 4 _law_nodes, 5 _law_bare, 6 _law_cell, 7 _law_number, 8 _law_spot, 9 _law_full, 10 _law_row, 11 _law_kind -/
noncomputable def b__law_grown (m : Nat → List PyData → R Ow) : Ev → SR :=
    (sSeq (sSet 3 (eDictOf (eVar 0)))
    (sSeq (sSet 4 (eLstO (oCons (eLstO (oCons (eM (eBin gIx (eBin gIx (eVar 0) (eC (.int 0))) (eC (.int 0))) Ow.d) (oCons (eM (eC (.int 1)) Ow.d) (oCons (eM (eC .none) Ow.d) (oCons (eM (eC (.int 0)) Ow.d) (oCons (eLst aNil) oNil)))))) oNil)))
    (sSeq (sSet 5 (eLst (aCons (eC (.int 0)) aNil)))
    (sSeq (sFor (eB (eVar 1) itD) (gtName 6)
    (sSeq (sSet 7 (eM (eM (eB (aCons (eVar 6) (aCons (eC (.int 5)) aNil)) (m 13)) viewD) Ow.d))
    (sSeq (sSet 8 (eM (eBin gMod (eVar 7) (eLenO (eVarO 4))) Ow.d))
    (sSeq (sSet 9 (eM (eM (eLst aNil) viewD) Ow.d))
    (sSeq (sIf (eB (eBin gNe (eM (eVarO 5) viewD) (eM (eLst aNil) viewD)) asB)
    (sSeq (sXSet 8 (xPopAt 5 (eBin gIx (eB (eLst (aCons (eBin gMod (eBin gDiv (eVar 7) (eC (.int 4))) (eM (eCa gLen (aCons (eB (eVarO 5) shD) aNil)) viewD)) (aCons (eBin gSub (eM (eCa gLen (aCons (eB (eVarO 5) shD) aNil)) viewD) (eC (.int 1))) aNil))) shD) (eBin gMod (eVar 7) (eC (.int 2))))))
    (sSet 9 (eM (eM (eLc (eB (eGetM 3 (eM (eIxO (eIxO (eVarO 4) (eVar 8)) (eC (.int 0))) viewD)) itD) (gtName 10) (tAndE (eB (eBin gNe (eBin gIx (eVar 10) (eC (.int 1))) (eTup aNil)) asB) (eB (eBin gLt (eM (eIxO (eIxO (eVarO 4) (eVar 8)) (eC (.int 1))) viewD) (eVar 2)) asB)) (eM (eVar 10) Ow.d) (List.map (·.2) ([("_law_row", 10)] : List (Str × Nat)))) viewD) Ow.d)))
    sSkip)
    (sSeq (sIf (eB (eBin gNe (eVar 9) (eM (eLst aNil) viewD)) asB)
    (sSeq (sPut1 4 (eVar 8) (eC (.int 2)) (eM (eBin gIx (eVar 9) (eBin gMod (eBin gDiv (eVar 7) (eC (.int 1024))) (eM (eCa gLen (aCons (eVar 9) aNil)) viewD))) Ow.d))
    (sFor (eB (eBin gIx (eB (eIxO (eIxO (eVarO 4) (eVar 8)) (eC (.int 2))) shD) (eC (.int 1))) itD) (gtName 11)
    (sSeq (sApp2 4 (eVar 8) (eC (.int 4)) (eM (eLenO (eVarO 4)) Ow.d))
    (sSeq (sApp 5 (eM (eLenO (eVarO 4)) Ow.d))
    (sApp 4 (eLstO (oCons (eM (eVar 11) Ow.d) (oCons (eBinO gAdd (eB (eIxO (eIxO (eVarO 4) (eVar 8)) (eC (.int 1))) shD) (eC (.int 1))) (oCons (eM (eC .none) Ow.d) (oCons (eM (eBin gSub (eBin gMod (eBin gDiv (eVar 7) (eM (eBinO gAdd (eC (.int 3)) (eLenO (eVarO 4))) viewD)) (eC (.int 5))) (eC (.int 2))) Ow.d) (oCons (eLst aNil) oNil)))))))))))
    sSkip)
    (sPut1 4 (eVar 8) (eC (.int 3)) (eB (aCons (eVar 6) (aCons (eVar 7) aNil)) (m 20)))))))))
    (sRetV 4)))))
/-- _law_built: 0 _law_wood_here, 1 _law_nodes, 2 _law_trees, 3 _law_node, 4 _law_k, 5 _law_row, 6 _law_ends, 7 _law_end, 8 _law_j -/
noncomputable def b__law_built (m : Nat → List PyData → R Ow) : Ev → SR :=
    (sSeq (sSet 2 (eLc (eB (eVar 1) itD) (gtName 3) cYes (eM (eC .none) Ow.d) (List.map (·.2) ([("_law_node", 3)] : List (Str × Nat)))))
    (sSeq (sFor (eB (eM (eCa gLen (aCons (eVar 1) aNil)) viewD) rgRev) (gtName 4)
    (sSeq (sSet 5 (eM (eBin gIx (eBin gIx (eVar 1) (eVar 4)) (eC (.int 2))) Ow.d))
    (sSeq (sIf (eB (eBin gIsN (eVar 5) (eC .none)) asB)
    (sSeq (sSet 6 (eM (eM (eLc (eB (eDictIx (eVar 0) (eBin gIx (eBin gIx (eVar 1) (eVar 4)) (eC (.int 0)))) itD) (gtName 7) (eB (eBin gEq (eBin gIx (eVar 7) (eC (.int 1))) (eTup aNil)) asB) (eM (eVar 7) Ow.d) (List.map (·.2) ([("_law_end", 7)] : List (Str × Nat)))) viewD) Ow.d))
    (sSet 5 (eM (eBin gIx (eVar 6) (eBin gMod (eM (eB (aCons (eBin gIx (eBin gIx (eVar 1) (eVar 4)) (eC (.int 3))) (aCons (eVar 4) aNil)) (m 13)) viewD) (eM (eCa gLen (aCons (eVar 6) aNil)) viewD))) Ow.d)))
    sSkip)
    (sPut 2 (eM (eTup (aCons (eBin gIx (eVar 5) (eC (.int 0))) (aCons (eBin gIx (eBin gIx (eVar 1) (eVar 4)) (eC (.int 3))) (aCons (eM (eCa gTuple (aCons (eB (eLc (eB (eBin gIx (eBin gIx (eVar 1) (eVar 4)) (eC (.int 4))) itD) (gtName 8) cYes (eM (eBin gIx (eB (eVarO 2) shD) (eVar 8)) Ow.d) (List.map (·.2) ([("_law_j", 8)] : List (Str × Nat)))) shD) aNil)) viewD) aNil)))) Ow.d) (eVar 4)))))
    (sRetV 2)))
/-- _law_rule: 0 _law_turning_here, 1 _law_mode, 2 _law_name, 3 _law_kind, 4 _law_rules, 5 _law_row, 6 _law_rule_here -/
noncomputable def b__law_rule (m : Nat → List PyData → R Ow) : Ev → SR :=
    (sSeq (sAsg (gtTup 2 (gtCons (gtName 3) (gtCons (gtName 4) gtNil))) (eBin gIx (eBin gIx (eVar 0) (eC (.int 2))) (eVar 1)))
    (sSeq (sFor (eB (aCons (eDictIx (eBin gIx (eVar 0) (eC (.int 0))) (eVar 3)) (aCons (eVar 4) aNil)) zpArg) (gtTup 2 (gtCons (gtName 5) (gtCons (gtName 6) gtNil)))
    (sIf (eB (eBin gEq (eBin gIx (eVar 5) (eC (.int 0))) (eVar 2)) asB)
    (sRet (eM (eVar 6) Ow.d))
    sSkip))
    (sRet (eM (eC .none) Ow.d))))
/-- _law_come: 0 _law_turning_here, 1 _law_term_here, 2 _law_read -/
noncomputable def b__law_come (m : Nat → List PyData → R Ow) : Ev → SR :=
    (sSeq (whileN (eB (eBin gEq (eBin gIx (eVar 1) (eC (.int 0))) (eC (.str "call"))) asB)
    (sSeq (sSet 2 (eM (eBin gIx (eBin gIx (eVar 2) (eC (.int 2))) (eBin gIx (eVar 1) (eC (.int 2)))) Ow.d))
    (sSet 1 (eM (eM (eB (aCons (eVar 0) (aCons (eBin gIx (eVar 1) (eC (.int 1))) (aCons (eBin gIx (eVar 2) (eC (.int 0))) aNil))) (m 23)) viewD) Ow.d))) 1000000)
    (sRet (eM (eTup (aCons (eVar 1) (aCons (eVar 2) aNil))) Ow.d)))
/-- _law_label: 0 _law_term_here, 1 _law_read -/
noncomputable def b__law_label (m : Nat → List PyData → R Ow) : Ev → SR :=
    (sRet (eM (eTup (aCons (eBin gIx (eVar 0) (eC (.int 1))) (aCons (eM (eBinO gAdd (eBin gIx (eVar 0) (eC (.int 3))) (eBin gMul (eBin gIx (eVar 1) (eC (.int 1))) (eM (eCa gInt (aCons (eBin gIx (eVar 0) (eC (.int 2))) aNil)) viewD))) viewD) (aCons (eM (eCa gLen (aCons (eBin gIx (eVar 0) (eC (.int 4))) aNil)) viewD) aNil)))) Ow.d))
/-- _law_labels: 0 _law_found, 1 _law_due -/
noncomputable def b__law_labels (m : Nat → List PyData → R Ow) : Ev → SR :=
    (sSeq (sIf (eB (eBin gIsN (eVar 1) (eC .none)) asB)
    (sRet (eM (eBin gIsN (eVar 0) (eC .none)) Ow.d))
    sSkip)
    (sSeq (sIf (tOrE (tNotE (eB (eB (eVar 0) (gIsi "tuple")) asB)) (tOrE (eB (eBin gNe (eM (eCa gLen (aCons (eVar 0) aNil)) viewD) (eC (.int 3))) asB) (tNotE (eB (eB (eBin gIx (eVar 0) (eC (.int 0))) (gIsi "str")) asB))))
    (sRet (eM (eC (.bool false)) Ow.d))
    sSkip)
    (sRet (eM (eAnd (eM (eB (aCons (eBin gIx (eVar 0) (eC (.int 1))) aNil) (m 27)) viewD) (eAnd (eM (eB (aCons (eBin gIx (eVar 0) (eC (.int 2))) aNil) (m 27)) viewD) (eBin gEq (eVar 0) (eVar 1)))) Ow.d))))
/-- _law_whole: 0 _law_found -/
noncomputable def b__law_whole (m : Nat → List PyData → R Ow) : Ev → SR :=
    (sRet (eM (eAnd (eB (eVar 0) (gIsi "int")) (eNot (eB (eVar 0) (gIsi "bool")))) Ow.d))
/-- _law_copy: 0 _law_turning_here, 1 _law_wood_here, 2 _law_kind, 3 _law_rows, 4 _law_rules -/
noncomputable def b__law_copy (m : Nat → List PyData → R Ow) : Ev → SR :=
    (sSeq (sSet 1 (eM (eM (eLc (eB (eBin gIx (eVar 0) (eC (.int 0))) itD) (gtTup 2 (gtCons (gtName 2) (gtCons (gtName 3) gtNil))) cYes (eM (eTup (aCons (eVar 2) (aCons (eM (eCa gList (aCons (eVar 3) aNil)) viewD) aNil))) Ow.d) (List.map (·.2) ([("_law_kind", 2), ("_law_rows", 3)] : List (Str × Nat)))) viewD) Ow.d))
    (sRet (eM (eTup (aCons (eVar 1) (aCons (eBin gIx (eVar 0) (eC (.int 1))) (aCons (eM (eLc (eB (eBin gIx (eVar 0) (eC (.int 2))) itD) (gtTup 2 (gtCons (gtName 2) (gtCons (gtName 4) gtNil))) cYes (eM (eTup (aCons (eVar 2) (aCons (eM (eCa gList (aCons (eVar 4) aNil)) viewD) aNil))) Ow.d) (List.map (·.2) ([("_law_kind", 2), ("_law_rules", 4)] : List (Str × Nat)))) viewD) aNil)))) Ow.d)))
/-- _law_ways: 0 _law_turning_here, 1 _law_tree, 2 _law_cells, 3 _law_ways_here, 4 _law_way, 5 _law_term_here, 6 _law_read, 7 _law_marks, 8 _law_cell, 9 _law_number -/
noncomputable def b__law_ways (m : Nat → List PyData → R Ow) : Ev → SR :=
    (sSeq (sSet 3 (eLst aNil))
    (sSeq (sSet 4 (eM (eM (eLst aNil) viewD) Ow.d))
    (sSeq (sAsg (gtTup 2 (gtCons (gtName 5) (gtCons (gtName 6) gtNil))) (eM (eB (aCons (eVar 0) (aCons (eBin gIx (eVar 0) (eC (.int 1))) (aCons (eTup (aCons (eC (.str "")) (aCons (eC (.int 0)) (aCons (eTup (aCons (eVar 1) aNil)) aNil)))) aNil))) (m 24)) viewD))
    (sSeq (sSet 7 (eM (eM (eLst (aCons (eM (eB (aCons (eVar 5) (aCons (eVar 6) aNil)) (m 25)) viewD) aNil)) viewD) Ow.d))
    (sSeq (sFor (eB (eVar 2) itD) (gtName 8)
    (sSeq (sSet 9 (eM (eM (eB (aCons (eVar 8) (aCons (eC (.int 11)) aNil)) (m 13)) viewD) Ow.d))
    (sSeq (sIf (eB (eBin gEq (eBin gIx (eVar 5) (eC (.int 4))) (eTup aNil)) asB)
    (sSeq (sApp 3 (eM (eTup (aCons (eVar 4) (aCons (eVar 7) aNil))) Ow.d))
    (sSeq (sSet 4 (eM (eM (eLst aNil) viewD) Ow.d))
    (sSeq (sAsg (gtTup 2 (gtCons (gtName 5) (gtCons (gtName 6) gtNil))) (eM (eB (aCons (eVar 0) (aCons (eBin gIx (eVar 0) (eC (.int 1))) (aCons (eTup (aCons (eC (.str "")) (aCons (eC (.int 0)) (aCons (eTup (aCons (eVar 1) aNil)) aNil)))) aNil))) (m 24)) viewD))
    (sSet 7 (eM (eM (eLst (aCons (eM (eB (aCons (eVar 5) (aCons (eVar 6) aNil)) (m 25)) viewD) aNil)) viewD) Ow.d)))))
    sSkip)
    (sIf (eB (eBin gNe (eBin gIx (eVar 5) (eC (.int 4))) (eTup aNil)) asB)
    (sSeq (sSet 4 (eM (eM (eBinO gAdd (eVar 4) (eB (eLst (aCons (eBin gMod (eVar 9) (eM (eCa gLen (aCons (eBin gIx (eVar 5) (eC (.int 4))) aNil)) viewD)) aNil)) shD)) viewD) Ow.d))
    (sSeq (sAsg (gtTup 2 (gtCons (gtName 5) (gtCons (gtName 6) gtNil))) (eM (eB (aCons (eVar 0) (aCons (eBin gIx (eBin gIx (eVar 5) (eC (.int 4))) (eBin gIx (eVar 4) (eB (eC (.int 1)) gNeg))) (aCons (eVar 6) aNil))) (m 24)) viewD))
    (sSet 7 (eM (eM (eBinO gAdd (eVar 7) (eB (eLst (aCons (eM (eB (aCons (eVar 5) (aCons (eVar 6) aNil)) (m 25)) viewD) aNil)) shD)) viewD) Ow.d))))
    sSkip))))
    (sSeq (sApp 3 (eM (eTup (aCons (eVar 4) (aCons (eVar 7) aNil))) Ow.d))
    (sRetV 3)))))))
/-- _law_astray: 0 _law_turning_here, 1 _law_tree, 2 _law_way, 3 _law_marks, 4 _law_cell, 5 _law_number, 6 _law_spot, 7 _law_bad -/
noncomputable def b__law_astray (m : Nat → List PyData → R Ow) : Ev → SR :=
    (sSeq (sSet 5 (eM (eM (eB (aCons (eVar 4) (aCons (eC (.int 13)) aNil)) (m 13)) viewD) Ow.d))
    (sSeq (sSet 6 (eM (eBin gMod (eVar 5) (eM (eCa gLen (aCons (eVar 3) aNil)) viewD)) Ow.d))
    (sSeq (sSet 7 (eM (eM (eBinO gAdd (eBin gIx (eBin gIx (eVar 3) (eVar 6)) (eC (.int 2))) (eBin gIx (eB (eLst (aCons (eC (.int 0)) (aCons (eC (.int 1)) (aCons (eBin gMod (eVar 4) (eBin gPow (eC (.int 10)) (eC (.int 59)))) aNil)))) shD) (eBin gMod (eBin gDiv (eVar 5) (eC (.int 64))) (eC (.int 3))))) viewD) Ow.d))
    (sSeq (sIf (eB (eBin gEq (eBin gMod (eBin gDiv (eVar 5) (eC (.int 256))) (eC (.int 2))) (eC (.int 1))) asB)
    (sSet 7 (eM (eBin gIx (eB (eLst (aCons (eB (eC (.int 1)) gNeg) (aCons (eBin gSub (eB (eC (.int 1)) gNeg) (eBin gMod (eVar 4) (eBin gPow (eC (.int 10)) (eC (.int 59))))) (aCons (eBin gSub (eC (.int 0)) (eM (eCa gLen (aCons (eVar 3) aNil)) viewD)) aNil)))) shD) (eBin gMod (eBin gDiv (eVar 5) (eC (.int 64))) (eC (.int 3)))) Ow.d))
    sSkip)
    (sRet (eM (eBin gIsN (eM (eB (aCons (eVar 0) (aCons (eVar 1) (aCons (eM (eCa gTuple (aCons (eB (eBinO gAdd (eB (eBinO gAdd (eB (eSl (eVar 2) oNone (eB (eVar 6) asI)) shD) (eB (eLst (aCons (eVar 7) aNil)) shD)) shD) (eB (eSl (eVar 2) (eB (eM (eBinO gAdd (eVar 6) (eC (.int 1))) viewD) asI) oNone) shD)) shD) aNil)) viewD) aNil))) (m 10)) viewD) (eC .none)) Ow.d))))))
/-- _law_in_mode: 0 _law_turning_here, 1 _law_nodes, 2 _law_trees, 3 _law_cell, 4 _law_number, 5 _law_spot, 6 _law_mode, 7 _law_term_here, 8 _law_read, 9 _law_due, 10 _law_step, 11 _law_below, 12 _law_inner -/
noncomputable def b__law_in_mode (m : Nat → List PyData → R Ow) : Ev → SR :=
    (sSeq (sSet 4 (eM (eM (eB (aCons (eVar 3) (aCons (eC (.int 17)) aNil)) (m 13)) viewD) Ow.d))
    (sSeq (sSet 5 (eM (eBin gMod (eVar 4) (eM (eCa gLen (aCons (eVar 1) aNil)) viewD)) Ow.d))
    (sSeq (sFor (eB (aCons (eM (eCa gLen (aCons (eBin gIx (eVar 0) (eC (.int 2))) aNil)) viewD) aNil) rg1) (gtName 6)
    (sIf (eB (eBin gEq (eBin gIx (eBin gIx (eBin gIx (eVar 0) (eC (.int 2))) (eVar 6)) (eC (.int 0))) (eBin gIx (eBin gIx (eVar 1) (eVar 5)) (eC (.int 0)))) asB)
    (sSeq (sAsg (gtTup 2 (gtCons (gtName 7) (gtCons (gtName 8) gtNil))) (eM (eB (aCons (eVar 0) (aCons (eTup (aCons (eC (.str "call")) (aCons (eVar 6) (aCons (eC (.int 0)) aNil)))) (aCons (eTup (aCons (eC (.str "")) (aCons (eC (.int 0)) (aCons (eTup (aCons (eBin gIx (eVar 2) (eVar 5)) aNil)) aNil)))) aNil))) (m 24)) viewD))
    (sSeq (sIf (tNotE (eB (eM (eB (aCons (eM (eB (aCons (eVar 0) (aCons (eVar 6) (aCons (eBin gIx (eVar 2) (eVar 5)) (aCons (eTup aNil) aNil)))) (m 11)) viewD) (aCons (eM (eB (aCons (eVar 7) (aCons (eVar 8) aNil)) (m 25)) viewD) aNil)) (m 26)) viewD) asB))
    (sRet (eM (eC (.bool false)) Ow.d))
    sSkip)
    (sSeq (sSet 9 (eM (eC .none) Ow.d))
    (sSeq (sSet 10 (eM (eBin gMod (eBin gDiv (eVar 4) (eC (.int 128))) (eC (.int 3))) Ow.d))
    (sSeq (sIf (eB (eBin gLt (eVar 10) (eM (eCa gLen (aCons (eBin gIx (eVar 7) (eC (.int 4))) aNil)) viewD)) asB)
    (sSeq (sAsg (gtTup 2 (gtCons (gtName 11) (gtCons (gtName 12) gtNil))) (eM (eB (aCons (eVar 0) (aCons (eBin gIx (eBin gIx (eVar 7) (eC (.int 4))) (eVar 10)) (aCons (eVar 8) aNil))) (m 24)) viewD))
    (sSet 9 (eM (eM (eB (aCons (eVar 11) (aCons (eVar 12) aNil)) (m 25)) viewD) Ow.d)))
    sSkip)
    (sIf (tNotE (eB (eM (eB (aCons (eM (eB (aCons (eVar 0) (aCons (eVar 6) (aCons (eBin gIx (eVar 2) (eVar 5)) (aCons (eTup (aCons (eVar 10) aNil)) aNil)))) (m 11)) viewD) (aCons (eVar 9) aNil)) (m 26)) viewD) asB))
    (sRet (eM (eC (.bool false)) Ow.d))
    sSkip))))))
    sSkip))
    (sRet (eM (eC (.bool true)) Ow.d)))))
/-- law: 0 _law_script, 1 _law_names_here, 2 _law_wood_here, 3 _law_turning_here, 4 _law_nodes, 5 _law_trees, 6 _law_tree, 7 _law_handed, 8 _law_way, 9 _law_marks, 10 _law_spot -/
noncomputable def b_law (m : Nat → List PyData → R Ow) : Ev → SR :=
    (sSeq (sSet 1 (eM (eM (eB (aCons (eM (eB (aCons (eVar 0) (aCons (eC (.int 0)) aNil)) (m 12)) viewD) aNil) (m 14)) viewD) Ow.d))
    (sSeq (sSet 2 (eM (eM (eB (aCons (eM (eB (aCons (eVar 0) (aCons (eC (.int 1)) aNil)) (m 12)) viewD) (aCons (eVar 1) aNil)) (m 16)) viewD) Ow.d))
    (sSeq (sSet 3 (eM (eM (eB (aCons (eVar 0) (aCons (eVar 2) (aCons (eVar 1) aNil))) (m 19)) viewD) Ow.d))
    (sSeq (sSet 4 (eM (eM (eB (aCons (eVar 2) (aCons (eM (eSl (eVar 0) (eB (eC (.int 16)) asI) (eB (eC (.int 32)) asI)) viewD) (aCons (eC (.int 20)) aNil))) (m 21)) viewD) Ow.d))
    (sSeq (sSet 5 (eM (eM (eB (aCons (eVar 2) (aCons (eVar 4) aNil)) (m 22)) viewD) Ow.d))
    (sSeq (sSet 6 (eM (eBin gIx (eVar 5) (eC (.int 0))) Ow.d))
    (sSeq (sSet 7 (eM (eM (eB (aCons (eVar 3) aNil) (m 28)) viewD) Ow.d))
    (sSeq (sFor (eB (eM (eB (aCons (eVar 3) (aCons (eVar 6) (aCons (eM (eSl (eVar 0) (eB (eC (.int 32)) asI) (eB (eC (.int 76)) asI)) viewD) aNil))) (m 29)) viewD) itD) (gtTup 2 (gtCons (gtName 8) (gtCons (gtName 9) gtNil)))
    (sSeq (sSet 10 (eM (eBin gMod (eM (eB (aCons (eM (eB (aCons (eVar 0) (aCons (eC (.int 3)) aNil)) (m 12)) viewD) (aCons (eM (eCa gLen (aCons (eVar 8) aNil)) viewD) aNil)) (m 13)) viewD) (eM (eCa gLen (aCons (eVar 9) aNil)) viewD)) Ow.d))
    (sSeq (sIf (tNotE (eB (eM (eB (aCons (eM (eB (aCons (eVar 7) (aCons (eVar 6) (aCons (eM (eCa gTuple (aCons (eVar 8) aNil)) viewD) aNil))) (m 10)) viewD) (aCons (eBin gIx (eVar 9) (eB (eC (.int 1)) gNeg)) aNil)) (m 26)) viewD) asB))
    (sRet (eM (eC (.bool false)) Ow.d))
    sSkip)
    (sSeq (sIf (tNotE (eB (eM (eB (aCons (eM (eB (aCons (eVar 7) (aCons (eVar 6) (aCons (eM (eCa gTuple (aCons (eB (eSl (eVar 8) oNone (eB (eVar 10) asI)) shD) aNil)) viewD) aNil))) (m 10)) viewD) (aCons (eBin gIx (eVar 9) (eVar 10)) aNil)) (m 26)) viewD) asB))
    (sRet (eM (eC (.bool false)) Ow.d))
    sSkip)
    (sSeq (sIf (tAndE (eB (eBin gEq (eBin gIx (eBin gIx (eVar 9) (eB (eC (.int 1)) gNeg)) (eC (.int 2))) (eC (.int 0))) asB) (eB (eBin gNotN (eM (eB (aCons (eVar 7) (aCons (eVar 6) (aCons (eM (eCa gTuple (aCons (eB (eBinO gAdd (eVar 8) (eB (eLst (aCons (eC (.int 0)) aNil)) shD)) shD) aNil)) viewD) aNil))) (m 10)) viewD) (eC .none)) asB))
    (sRet (eM (eC (.bool false)) Ow.d))
    sSkip)
    (sIf (tNotE (eB (eM (eB (aCons (eVar 7) (aCons (eVar 6) (aCons (eVar 8) (aCons (eVar 9) (aCons (eM (eB (aCons (eVar 0) (aCons (eM (eBinO gAdd (eC (.int 3)) (eB (eCa gLen (aCons (eVar 8) aNil)) shD)) viewD) aNil)) (m 12)) viewD) aNil))))) (m 30)) viewD) asB))
    (sRet (eM (eC (.bool false)) Ow.d))
    sSkip))))))
    (sRet (eM (eAnd (eM (eB (aCons (eVar 7) (aCons (eVar 4) (aCons (eVar 5) (aCons (eM (eB (aCons (eVar 0) (aCons (eC (.int 3)) aNil)) (m 12)) viewD) aNil)))) (m 31)) viewD) (eBin gEq (eVar 7) (eVar 3))) Ow.d))))))))))
noncomputable def mir : Nat → Nat → List PyData → R Ow
  | 0, _ => fun _ => .no
  | n + 1, i => match i with
    | 0 => runB 2 (b_rows_of (mir n))
    | 1 => runB 2 (b_row_of (mir n))
    | 2 => runB 3 (b_is_of (mir n))
    | 3 => runB 2 (b_row_number (mir n))
    | 4 => runB 3 (b_rule_of (mir n))
    | 5 => runB 0 (b_look (mir n))
    | 6 => runB 0 (b_above (mir n))
    | 7 => runB 0 (b_mark_of (mir n))
    | 8 => runB 0 (b_settled (mir n))
    | 9 => runB 2 (b_seen_from (mir n))
    | 10 => runB 0 (b_seen (mir n))
    | 11 => runB 0 (b_seen_in (mir n))
    | 12 => runB 0 (b__law_cell_at (mir n))
    | 13 => runB 1 (b__law_mixed (mir n))
    | 14 => runB 8 (b__law_names (mir n))
    | 15 => runB 0 (b__law_great (mir n))
    | 16 => runB 10 (b__law_wood (mir n))
    | 17 => runB 6 (b__law_term (mir n))
    | 18 => runB 3 (b__law_calls (mir n))
    | 19 => runB 12 (b__law_turning (mir n))
    | 20 => runB 0 (b__law_mark (mir n))
    | 21 => runB 9 (b__law_grown (mir n))
    | 22 => runB 7 (b__law_built (mir n))
    | 23 => runB 4 (b__law_rule (mir n))
    | 24 => runB 0 (b__law_come (mir n))
    | 25 => runB 0 (b__law_label (mir n))
    | 26 => runB 0 (b__law_labels (mir n))
    | 27 => runB 0 (b__law_whole (mir n))
    | 28 => runB 4 (b__law_copy (mir n))
    | 29 => runB 7 (b__law_ways (mir n))
    | 30 => runB 3 (b__law_astray (mir n))
    | 31 => runB 9 (b__law_in_mode (mir n))
    | 32 => runB 10 (b_law (mir n))
    | _ => fun _ => .no
theorem mir_rows_of (n : Nat) (ds : List PyData) : mir (n + 1) 0 ds = runB 2 (b_rows_of (mir n)) ds := rfl
theorem mir_row_of (n : Nat) (ds : List PyData) : mir (n + 1) 1 ds = runB 2 (b_row_of (mir n)) ds := rfl
theorem mir_is_of (n : Nat) (ds : List PyData) : mir (n + 1) 2 ds = runB 3 (b_is_of (mir n)) ds := rfl
theorem mir_row_number (n : Nat) (ds : List PyData) : mir (n + 1) 3 ds = runB 2 (b_row_number (mir n)) ds := rfl
theorem mir_rule_of (n : Nat) (ds : List PyData) : mir (n + 1) 4 ds = runB 3 (b_rule_of (mir n)) ds := rfl
theorem mir_look (n : Nat) (ds : List PyData) : mir (n + 1) 5 ds = runB 0 (b_look (mir n)) ds := rfl
theorem mir_above (n : Nat) (ds : List PyData) : mir (n + 1) 6 ds = runB 0 (b_above (mir n)) ds := rfl
theorem mir_mark_of (n : Nat) (ds : List PyData) : mir (n + 1) 7 ds = runB 0 (b_mark_of (mir n)) ds := rfl
theorem mir_settled (n : Nat) (ds : List PyData) : mir (n + 1) 8 ds = runB 0 (b_settled (mir n)) ds := rfl
theorem mir_seen_from (n : Nat) (ds : List PyData) : mir (n + 1) 9 ds = runB 2 (b_seen_from (mir n)) ds := rfl
theorem mir_seen (n : Nat) (ds : List PyData) : mir (n + 1) 10 ds = runB 0 (b_seen (mir n)) ds := rfl
theorem mir_seen_in (n : Nat) (ds : List PyData) : mir (n + 1) 11 ds = runB 0 (b_seen_in (mir n)) ds := rfl
theorem mir__law_cell_at (n : Nat) (ds : List PyData) : mir (n + 1) 12 ds = runB 0 (b__law_cell_at (mir n)) ds := rfl
theorem mir__law_mixed (n : Nat) (ds : List PyData) : mir (n + 1) 13 ds = runB 1 (b__law_mixed (mir n)) ds := rfl
theorem mir__law_names (n : Nat) (ds : List PyData) : mir (n + 1) 14 ds = runB 8 (b__law_names (mir n)) ds := rfl
theorem mir__law_great (n : Nat) (ds : List PyData) : mir (n + 1) 15 ds = runB 0 (b__law_great (mir n)) ds := rfl
theorem mir__law_wood (n : Nat) (ds : List PyData) : mir (n + 1) 16 ds = runB 10 (b__law_wood (mir n)) ds := rfl
theorem mir__law_term (n : Nat) (ds : List PyData) : mir (n + 1) 17 ds = runB 6 (b__law_term (mir n)) ds := rfl
theorem mir__law_calls (n : Nat) (ds : List PyData) : mir (n + 1) 18 ds = runB 3 (b__law_calls (mir n)) ds := rfl
theorem mir__law_turning (n : Nat) (ds : List PyData) : mir (n + 1) 19 ds = runB 12 (b__law_turning (mir n)) ds := rfl
theorem mir__law_mark (n : Nat) (ds : List PyData) : mir (n + 1) 20 ds = runB 0 (b__law_mark (mir n)) ds := rfl
theorem mir__law_grown (n : Nat) (ds : List PyData) : mir (n + 1) 21 ds = runB 9 (b__law_grown (mir n)) ds := rfl
theorem mir__law_built (n : Nat) (ds : List PyData) : mir (n + 1) 22 ds = runB 7 (b__law_built (mir n)) ds := rfl
theorem mir__law_rule (n : Nat) (ds : List PyData) : mir (n + 1) 23 ds = runB 4 (b__law_rule (mir n)) ds := rfl
theorem mir__law_come (n : Nat) (ds : List PyData) : mir (n + 1) 24 ds = runB 0 (b__law_come (mir n)) ds := rfl
theorem mir__law_label (n : Nat) (ds : List PyData) : mir (n + 1) 25 ds = runB 0 (b__law_label (mir n)) ds := rfl
theorem mir__law_labels (n : Nat) (ds : List PyData) : mir (n + 1) 26 ds = runB 0 (b__law_labels (mir n)) ds := rfl
theorem mir__law_whole (n : Nat) (ds : List PyData) : mir (n + 1) 27 ds = runB 0 (b__law_whole (mir n)) ds := rfl
theorem mir__law_copy (n : Nat) (ds : List PyData) : mir (n + 1) 28 ds = runB 4 (b__law_copy (mir n)) ds := rfl
theorem mir__law_ways (n : Nat) (ds : List PyData) : mir (n + 1) 29 ds = runB 7 (b__law_ways (mir n)) ds := rfl
theorem mir__law_astray (n : Nat) (ds : List PyData) : mir (n + 1) 30 ds = runB 3 (b__law_astray (mir n)) ds := rfl
theorem mir__law_in_mode (n : Nat) (ds : List PyData) : mir (n + 1) 31 ds = runB 9 (b__law_in_mode (mir n)) ds := rfl
theorem mir_law (n : Nat) (ds : List PyData) : mir (n + 1) 32 ds = runB 10 (b_law (mir n)) ds := rfl
theorem run_rows_of (m : Nat → List PyData → R Ow) (ds : List PyData) : runB 2 (b_rows_of m) ds = finR (((sSeq (sFor (eB (eVar 0) itD) (gtTup 2 (gtCons (gtName 2) (gtCons (gtName 3) gtNil)))
    (sIf (eB (eBin gEq (eVar 2) (eVar 1)) asB)
    (sRet (eM (eVar 3) Ow.d))
    sSkip))
    (sRet (eLst aNil)))) (envOf 2 ds)) := runB_fin _ _ _
theorem run_row_of (m : Nat → List PyData → R Ow) (ds : List PyData) : runB 2 (b_row_of m) ds = finR (((sSeq (sFor (eB (eM (eB (aCons (eVar 0) (aCons (eVar 1) aNil)) (m 0)) viewD) itD) (gtTup 2 (gtCons (gtName 3) (gtCons (gtName 4) gtNil)))
    (sIf (eB (eBin gEq (eVar 3) (eVar 2)) asB)
    (sRet (eM (eVar 4) Ow.d))
    sSkip))
    (sRet (eM (eC .none) Ow.d)))) (envOf 2 ds)) := runB_fin _ _ _
theorem run_is_of (m : Nat → List PyData → R Ow) (ds : List PyData) : runB 3 (b_is_of m) ds = finR (((sSeq (sSet 3 (eM (eM (eB (aCons (eVar 0) (aCons (eVar 1) (aCons (eBin gIx (eVar 2) (eC (.int 0))) aNil))) (m 1)) viewD) Ow.d))
    (sSeq (sIf (tOrE (eB (eBin gIsN (eVar 3) (eC .none)) asB) (eB (eBin gNe (eM (eCa gLen (aCons (eVar 3) aNil)) viewD) (eM (eCa gLen (aCons (eBin gIx (eVar 2) (eC (.int 2))) aNil)) viewD)) asB))
    (sRet (eM (eC (.bool false)) Ow.d))
    sSkip)
    (sSeq (sFor (eB (aCons (eVar 3) (aCons (eBin gIx (eVar 2) (eC (.int 2))) aNil)) zpArg) (gtTup 2 (gtCons (gtName 4) (gtCons (gtName 5) gtNil)))
    (sIf (tNotE (eB (eM (eB (aCons (eVar 0) (aCons (eVar 4) (aCons (eVar 5) aNil))) (m 2)) viewD) asB))
    (sRet (eM (eC (.bool false)) Ow.d))
    sSkip))
    (sRet (eM (eC (.bool true)) Ow.d)))))) (envOf 3 ds)) := runB_fin _ _ _
theorem run_row_number (m : Nat → List PyData → R Ow) (ds : List PyData) : runB 2 (b_row_number m) ds = finR (((sSeq (sFor (eB (aCons (eM (eB (aCons (eVar 0) (aCons (eVar 1) aNil)) (m 0)) viewD) aNil) enArg) (gtTup 2 (gtCons (gtName 3) (gtCons (gtName 4) gtNil)))
    (sIf (eB (eBin gEq (eBin gIx (eVar 4) (eC (.int 0))) (eVar 2)) asB)
    (sRet (eM (eVar 3) Ow.d))
    sSkip))
    (sRet (eM (eC .none) Ow.d)))) (envOf 2 ds)) := runB_fin _ _ _
theorem run_rule_of (m : Nat → List PyData → R Ow) (ds : List PyData) : runB 3 (b_rule_of m) ds = finR (((sSeq (sAsg (gtTup 2 (gtCons (gtName 3) (gtCons (gtName 4) gtNil))) (eBin gIx (eBin gIx (eVar 0) (eC (.int 2))) (eVar 1)))
    (sSeq (sSet 5 (eM (eM (eB (aCons (eBin gIx (eVar 0) (eC (.int 0))) (aCons (eVar 3) (aCons (eVar 2) aNil))) (m 3)) viewD) Ow.d))
    (sSeq (sIf (eB (eBin gIsN (eVar 5) (eC .none)) asB)
    (sRet (eM (eC .none) Ow.d))
    sSkip)
    (sRet (eM (eBin gIx (eVar 4) (eVar 5)) Ow.d)))))) (envOf 3 ds)) := runB_fin _ _ _
theorem run_look (m : Nat → List PyData → R Ow) (ds : List PyData) : runB 0 (b_look m) ds = finR (((sIf (tNotE (eB (eM (eB (aCons (eBin gIx (eVar 0) (eC (.int 0))) (aCons (eVar 1) (aCons (eVar 2) aNil))) (m 2)) viewD) asB))
    (sRaise "NoTree")
    sSkip)) (envOf 0 ds)) := runB_fin _ _ _
theorem run_above (m : Nat → List PyData → R Ow) (ds : List PyData) : runB 0 (b_above m) ds = finR (((sRet (eM (eTup (aCons (eC (.str "")) (aCons (eC (.int 0)) (aCons (eTup (aCons (eVar 0) aNil)) aNil)))) Ow.d))) (envOf 0 ds)) := runB_fin _ _ _
theorem run_mark_of (m : Nat → List PyData → R Ow) (ds : List PyData) : runB 0 (b_mark_of m) ds = finR (((sSeq (sIf (eB (eBin gIx (eVar 0) (eC (.int 2))) asB)
    (sRet (eBinO gAdd (eBin gIx (eVar 0) (eC (.int 3))) (eBin gIx (eVar 1) (eC (.int 1)))))
    sSkip)
    (sRet (eM (eBin gIx (eVar 0) (eC (.int 3))) Ow.d)))) (envOf 0 ds)) := runB_fin _ _ _
theorem run_settled (m : Nat → List PyData → R Ow) (ds : List PyData) : runB 0 (b_settled m) ds = finR (((sSeq (whileN (eB (eBin gEq (eBin gIx (eVar 1) (eC (.int 0))) (eC (.str "call"))) asB)
    (sSeq (sSet 2 (eM (eBin gIx (eBin gIx (eVar 2) (eC (.int 2))) (eBin gIx (eVar 1) (eC (.int 2)))) Ow.d))
    (sSet 1 (eM (eM (eB (aCons (eVar 0) (aCons (eBin gIx (eVar 1) (eC (.int 1))) (aCons (eBin gIx (eVar 2) (eC (.int 0))) aNil))) (m 4)) viewD) Ow.d))) 1000000)
    (sRet (eM (eTup (aCons (eVar 1) (aCons (eVar 2) aNil))) Ow.d)))) (envOf 0 ds)) := runB_fin _ _ _
theorem run_seen_from (m : Nat → List PyData → R Ow) (ds : List PyData) : runB 2 (b_seen_from m) ds = finR (((sSeq (sAsg (gtTup 2 (gtCons (gtName 4) (gtCons (gtName 2) gtNil))) (eM (eB (aCons (eVar 0) (aCons (eVar 1) (aCons (eVar 2) aNil))) (m 8)) viewD))
    (sSeq (sFor (eB (eVar 3) itD) (gtName 5)
    (sSeq (sIf (tOrE (eB (eBin gLt (eVar 5) (eC (.int 0))) asB) (eB (eBin gGe (eVar 5) (eM (eCa gLen (aCons (eBin gIx (eVar 4) (eC (.int 4))) aNil)) viewD)) asB))
    (sRet (eM (eC .none) Ow.d))
    sSkip)
    (sAsg (gtTup 2 (gtCons (gtName 4) (gtCons (gtName 2) gtNil))) (eM (eB (aCons (eVar 0) (aCons (eBin gIx (eBin gIx (eVar 4) (eC (.int 4))) (eVar 5)) (aCons (eVar 2) aNil))) (m 8)) viewD))))
    (sRet (eM (eTup (aCons (eBin gIx (eVar 4) (eC (.int 1))) (aCons (eM (eB (aCons (eVar 4) (aCons (eVar 2) aNil)) (m 7)) viewD) (aCons (eM (eCa gLen (aCons (eBin gIx (eVar 4) (eC (.int 4))) aNil)) viewD) aNil)))) Ow.d))))) (envOf 2 ds)) := runB_fin _ _ _
theorem run_seen (m : Nat → List PyData → R Ow) (ds : List PyData) : runB 0 (b_seen m) ds = finR (((sSeq (sDrop (eM (eB (aCons (eVar 0) (aCons (eBin gIx (eBin gIx (eBin gIx (eVar 0) (eC (.int 0))) (eC (.int 0))) (eC (.int 0))) (aCons (eVar 1) aNil))) (m 5)) viewD))
    (sRet (eB (aCons (eVar 0) (aCons (eBin gIx (eVar 0) (eC (.int 1))) (aCons (eM (eB (aCons (eVar 1) aNil) (m 6)) viewD) (aCons (eVar 2) aNil)))) (m 9))))) (envOf 0 ds)) := runB_fin _ _ _
theorem run_seen_in (m : Nat → List PyData → R Ow) (ds : List PyData) : runB 0 (b_seen_in m) ds = finR (((sSeq (sDrop (eM (eB (aCons (eVar 0) (aCons (eBin gIx (eBin gIx (eBin gIx (eVar 0) (eC (.int 2))) (eVar 1)) (eC (.int 0))) (aCons (eVar 2) aNil))) (m 5)) viewD))
    (sRet (eB (aCons (eVar 0) (aCons (eTup (aCons (eC (.str "call")) (aCons (eVar 1) (aCons (eC (.int 0)) aNil)))) (aCons (eM (eB (aCons (eVar 2) aNil) (m 6)) viewD) (aCons (eVar 3) aNil)))) (m 9))))) (envOf 0 ds)) := runB_fin _ _ _
theorem run__law_cell_at (m : Nat → List PyData → R Ow) (ds : List PyData) : runB 0 (b__law_cell_at m) ds = finR (((sSeq (sIf (eB (eBin gLt (eVar 1) (eM (eCa gLen (aCons (eVar 0) aNil)) viewD)) asB)
    (sRet (eM (eBin gIx (eVar 0) (eVar 1)) Ow.d))
    sSkip)
    (sRet (eM (eC (.int 0)) Ow.d)))) (envOf 0 ds)) := runB_fin _ _ _
theorem run__law_mixed (m : Nat → List PyData → R Ow) (ds : List PyData) : runB 1 (b__law_mixed m) ds = finR (((sSeq (sSet 2 (eM (eM (eBinO gAdd (eBin gMod (eVar 0) (eC (.int 2147483647))) (eBin gMul (eC (.int 48271)) (eM (eBinO gAdd (eVar 1) (eC (.int 1))) viewD))) viewD) Ow.d))
    (sSeq (sSet 2 (eM (eBin gMod (eM (eBinO gAdd (eBin gMul (eVar 2) (eVar 2)) (eBin gMul (eC (.int 69621)) (eVar 1))) viewD) (eC (.int 2147483647))) Ow.d))
    (sRet (eM (eBin gMod (eM (eBinO gAdd (eB (eBinO gAdd (eBin gMul (eVar 2) (eVar 2)) (eBin gMul (eC (.int 16807)) (eVar 1))) shD) (eC (.int 1))) viewD) (eC (.int 2147483647))) Ow.d))))) (envOf 1 ds)) := runB_fin _ _ _
theorem run__law_names (m : Nat → List PyData → R Ow) (ds : List PyData) : runB 8 (b__law_names m) ds = finR (((sSeq (sSet 1 (eM (eC (.str "abcdefghijklmnopqrstuvwxyz")) Ow.d))
    (sSeq (sSet 2 (eM (eM (eLc (eB (aCons (eC (.int 8)) aNil) rg1) (gtName 3) cYes (eM (eBin gMod (eM (eB (aCons (eVar 0) (aCons (eVar 3) aNil)) (m 13)) viewD) (eC (.int 26))) Ow.d) (List.map (·.2) ([("_law_j", 3)] : List (Str × Nat)))) viewD) Ow.d))
    (sSeq (sIf (eB (eBin gEq (eBin gMod (eBin gDiv (eVar 0) (eC (.int 64))) (eC (.int 4))) (eC (.int 1))) asB)
    (sRet (eLc (eB (aCons (eC (.int 8)) aNil) rg1) (gtName 4) cYes (eM (eJoin (eC (.str "")) (eB (eLc (eB (eM (eSl (eVar 2) oNone (eB (eM (eBinO gAdd (eVar 4) (eC (.int 1))) viewD) asI)) viewD) itD) (gtName 3) cYes (eM (eBin gIx (eVar 1) (eVar 3)) Ow.d) (List.map (·.2) ([("_law_j", 3)] : List (Str × Nat)))) shD)) Ow.d) (List.map (·.2) ([("_law_k", 4)] : List (Str × Nat)))))
    sSkip)
    (sSeq (sSet 5 (eM (eM (eBinO gAdd (eC (.int 1)) (eBin gMod (eVar 0) (eC (.int 8)))) viewD) Ow.d))
    (sSeq (sSet 6 (eM (eBin gMod (eBin gDiv (eVar 0) (eC (.int 8))) (eVar 5)) Ow.d))
    (sSeq (sSet 7 (eLst aNil))
    (sSeq (sFor (eB (aCons (eC (.int 8)) aNil) rg1) (gtName 4)
    (sSeq (sSet 8 (eSl (eVar 2) oNone (eB (eVar 5) asI)))
    (sSeq (sPut 8 (eM (eBin gMod (eM (eBinO gAdd (eBin gIx (eB (eVarO 8) shD) (eVar 6)) (eVar 4)) viewD) (eC (.int 26))) Ow.d) (eVar 6))
    (sFrz 8 (sApp 7 (eM (eJoin (eC (.str "")) (eB (eLc (eB (eVar 8) itD) (gtName 3) cYes (eM (eBin gIx (eVar 1) (eVar 3)) Ow.d) (List.map (·.2) ([("_law_j", 3)] : List (Str × Nat)))) shD)) Ow.d))))))
    (sRetV 7))))))))) (envOf 8 ds)) := runB_fin _ _ _
theorem run__law_great (m : Nat → List PyData → R Ow) (ds : List PyData) : runB 0 (b__law_great m) ds = finR (((sRet (eM (eBin gSub (eBin gMod (eVar 0) (eM (eBinO gAdd (eBin gMul (eC (.int 2)) (eBin gPow (eC (.int 10)) (eC (.int 59)))) (eC (.int 1))) viewD)) (eBin gPow (eC (.int 10)) (eC (.int 59)))) Ow.d))) (envOf 0 ds)) := runB_fin _ _ _
theorem run__law_wood (m : Nat → List PyData → R Ow) (ds : List PyData) : runB 10 (b__law_wood m) ds = finR (((sSeq (sSet 2 (eM (eM (eSl (eVar 1) oNone (eB (eM (eBinO gAdd (eC (.int 1)) (eBin gMod (eVar 0) (eC (.int 3)))) viewD) asI)) viewD) Ow.d))
    (sSeq (sSet 3 (eLst aNil))
    (sSeq (sFor (eB (aCons (eM (eCa gLen (aCons (eVar 2) aNil)) viewD) aNil) rg1) (gtName 4)
    (sSeq (sSet 5 (eM (eM (eB (aCons (eVar 0) (aCons (eVar 4) aNil)) (m 13)) viewD) Ow.d))
    (sSeq (sSet 6 (eLst aNil))
    (sSeq (sFor (eB (aCons (eBin gSub (eM (eBinO gAdd (eC (.int 2)) (eBin gMod (eVar 5) (eC (.int 2)))) viewD) (eM (eCa gInt (aCons (eAnd (eBin gGt (eVar 4) (eC (.int 0))) (eBin gEq (eBin gMod (eBin gDiv (eVar 5) (eC (.int 2))) (eC (.int 3))) (eC (.int 0)))) aNil)) viewD)) aNil) rg1) (gtName 7)
    (sSeq (sSet 8 (eM (eM (eB (aCons (eVar 0) (aCons (eM (eBinO gAdd (eB (eBinO gAdd (eC (.int 8)) (eBin gMul (eC (.int 4)) (eVar 4))) shD) (eVar 7)) viewD) aNil)) (m 13)) viewD) Ow.d))
    (sSeq (sSet 9 (eM (eBin gIx (eB (eLst (aCons (eC (.int 0)) (aCons (eM (eBinO gAdd (eC (.int 1)) (eBin gMod (eVar 8) (eC (.int 2)))) viewD) (aCons (eBin gMod (eVar 8) (eC (.int 4))) aNil)))) shD) (eVar 7)) Ow.d))
    (sSeq (sSet 10 (eM (eM (eLc (eB (aCons (eVar 9) aNil) rg1) (gtName 11) cYes (eM (eBin gIx (eVar 2) (eBin gMod (eM (eB (aCons (eVar 8) (aCons (eVar 11) aNil)) (m 13)) viewD) (eM (eCa gLen (aCons (eVar 2) aNil)) viewD))) Ow.d) (List.map (·.2) ([("_law_j", 11)] : List (Str × Nat)))) viewD) Ow.d))
    (sApp 6 (eM (eTup (aCons (eBin gIx (eVar 1) (eBin gMod (eM (eBinO gAdd (eBin gDiv (eVar 5) (eC (.int 16))) (eVar 7)) viewD) (eC (.int 8)))) (aCons (eM (eCa gTuple (aCons (eVar 10) aNil)) viewD) aNil))) Ow.d))))))
    (sApp 3 (eM (eTup (aCons (eBin gIx (eVar 2) (eVar 4)) (aCons (eM (eCa gSorted (aCons (eB (eVarO 6) shD) aNil)) viewD) aNil))) Ow.d))))))
    (sRetV 3))))) (envOf 10 ds)) := runB_fin _ _ _
theorem run__law_term (m : Nat → List PyData → R Ow) (ds : List PyData) : runB 6 (b__law_term m) ds = finR (((sSeq (sSet 6 (eM (eM (eB (aCons (eVar 0) (aCons (eVar 1) aNil)) (m 13)) viewD) Ow.d))
    (sSeq (sIf (tAndE (eB (eBin gNe (eVar 3) (eM (eLst aNil) viewD)) asB) (eB (eBin gLt (eBin gMod (eVar 6) (eC (.int 5))) (eC (.int 2))) asB))
    (sRet (eBinO gAdd (eTup (aCons (eC (.str "call")) aNil)) (eBin gIx (eVar 3) (eBin gMod (eBin gDiv (eVar 6) (eC (.int 5))) (eM (eCa gLen (aCons (eVar 3) aNil)) viewD)))))
    sSkip)
    (sSeq (sSet 7 (eM (eC (.int 0)) Ow.d))
    (sSeq (sIf (eB (eBin gGt (eVar 2) (eC (.int 0))) asB)
    (sSet 7 (eM (eM (eBinO gAdd (eBin gSub (eVar 2) (eC (.int 1))) (eBin gMod (eBin gDiv (eVar 6) (eC (.int 8))) (eBin gSub (eC (.int 4)) (eVar 2)))) viewD) Ow.d))
    sSkip)
    (sSeq (sSet 8 (eM (eM (eLc (eB (aCons (eVar 7) aNil) rg1) (gtName 9) cYes (eB (aCons (eVar 0) (aCons (eM (eBinO gAdd (eB (eBinO gAdd (eBin gMul (eC (.int 3)) (eVar 1)) (eVar 9)) shD) (eC (.int 1))) viewD) (aCons (eBin gSub (eVar 2) (eC (.int 1))) (aCons (eVar 3) (aCons (eVar 4) (aCons (eVar 5) aNil)))))) (m 17)) (List.map (·.2) ([("_law_j", 9)] : List (Str × Nat)))) viewD) Ow.d))
    (sSeq (sSet 10 (eM (eAnd (eVar 5) (eBin gEq (eBin gMod (eBin gDiv (eVar 6) (eC (.int 32))) (eC (.int 2))) (eC (.int 1)))) Ow.d))
    (sSeq (sSet 11 (eM (eBin gIx (eB (eLst (aCons (eC (.int 0)) (aCons (eBin gSub (eBin gMod (eBin gDiv (eVar 6) (eC (.int 512))) (eC (.int 19))) (eC (.int 9))) (aCons (eM (eB (aCons (eVar 0) aNil) (m 15)) viewD) aNil)))) shD) (eBin gMod (eBin gDiv (eVar 6) (eC (.int 64))) (eC (.int 3)))) Ow.d))
    (sRet (eM (eTup (aCons (eC (.str "put")) (aCons (eBin gIx (eVar 4) (eBin gMod (eBin gDiv (eVar 6) (eC (.int 16384))) (eC (.int 8)))) (aCons (eVar 10) (aCons (eVar 11) (aCons (eM (eCa gTuple (aCons (eVar 8) aNil)) viewD) aNil)))))) Ow.d)))))))))) (envOf 6 ds)) := runB_fin _ _ _
theorem run__law_calls (m : Nat → List PyData → R Ow) (ds : List PyData) : runB 3 (b__law_calls m) ds = finR (((sSeq (sSet 2 (eLst aNil))
    (sSeq (sFor (eB (aCons (eM (eCa gLen (aCons (eVar 0) aNil)) viewD) aNil) rg1) (gtName 3)
    (sExt 2 (eB (eLc (eB (aCons (eM (eCa gLen (aCons (eVar 1) aNil)) viewD) aNil) rg1) (gtName 4) (eB (eBin gEq (eBin gIx (eVar 1) (eVar 4)) (eBin gIx (eVar 0) (eVar 3))) asB) (eM (eTup (aCons (eVar 4) (aCons (eVar 3) aNil))) Ow.d) (List.map (·.2) ([("_law_mode", 4)] : List (Str × Nat)))) shD)))
    (sRetV 2)))) (envOf 3 ds)) := runB_fin _ _ _
theorem run__law_turning (m : Nat → List PyData → R Ow) (ds : List PyData) : runB 12 (b__law_turning m) ds = finR (((sSeq (sSet 3 (eM (eM (eLc (eB (eVar 1) itD) (gtTup 2 (gtCons (gtName 4) (gtCons (gtName 5) gtNil))) cYes (eM (eVar 4) Ow.d) (List.map (·.2) ([("_law_kind", 4), ("_law_rows", 5)] : List (Str × Nat)))) viewD) Ow.d))
    (sSeq (sSet 6 (eM (eM (eB (aCons (eVar 0) (aCons (eC (.int 3)) aNil)) (m 12)) viewD) Ow.d))
    (sSeq (sSet 7 (eM (eM (eBinO gAdd (eB (eLst (aCons (eBin gIx (eVar 3) (eC (.int 0))) aNil)) shD) (eB (eLc (eB (aCons (eBin gMod (eVar 6) (eC (.int 4))) aNil) rg1) (gtName 8) cYes (eM (eBin gIx (eVar 3) (eBin gMod (eM (eB (aCons (eVar 6) (aCons (eVar 8) aNil)) (m 13)) viewD) (eM (eCa gLen (aCons (eVar 3) aNil)) viewD))) Ow.d) (List.map (·.2) ([("_law_i", 8)] : List (Str × Nat)))) shD)) viewD) Ow.d))
    (sSeq (sSet 9 (eLst aNil))
    (sSeq (sSet 10 (eM (eC (.int 4)) Ow.d))
    (sSeq (sFor (eB (eVar 7) itD) (gtName 4)
    (sSeq (sSet 11 (eLst aNil))
    (sSeq (sFor (eB (eDictIx (eVar 1) (eVar 4)) itD) (gtName 12)
    (sSeq (sSet 13 (eM (eM (eB (aCons (eBin gIx (eVar 12) (eC (.int 1))) (aCons (eVar 7) aNil)) (m 18)) viewD) Ow.d))
    (sSeq (sApp 11 (eB (aCons (eM (eB (aCons (eVar 0) (aCons (eVar 10) aNil)) (m 12)) viewD) (aCons (eC (.int 0)) (aCons (eC (.int 2)) (aCons (eVar 13) (aCons (eVar 2) (aCons (eC (.bool true)) aNil)))))) (m 17)))
    (sSet 10 (eM (eM (eBinO gAdd (eVar 10) (eC (.int 1))) viewD) Ow.d)))))
    (sFrz 11 (sApp 9 (eM (eTup (aCons (eVar 4) (aCons (eVar 11) aNil))) Ow.d))))))
    (sSeq (sSet 14 (eM (eM (eB (aCons (eM (eB (aCons (eVar 0) (aCons (eC (.int 2)) aNil)) (m 12)) viewD) (aCons (eC (.int 0)) (aCons (eC (.int 2)) (aCons (eM (eB (aCons (eM (eLst (aCons (eBin gIx (eVar 3) (eC (.int 0))) aNil)) viewD) (aCons (eVar 7) aNil)) (m 18)) viewD) (aCons (eVar 2) (aCons (eC (.bool false)) aNil)))))) (m 17)) viewD) Ow.d))
    (sFrz 9 (sRet (eM (eTup (aCons (eVar 1) (aCons (eVar 14) (aCons (eVar 9) aNil)))) Ow.d))))))))))) (envOf 12 ds)) := runB_fin _ _ _
theorem run__law_mark (m : Nat → List PyData → R Ow) (ds : List PyData) : runB 0 (b__law_mark m) ds = finR (((sRet (eM (eBin gIx (eB (eLst (aCons (eC (.int 0)) (aCons (eBin gSub (eBin gMod (eBin gDiv (eVar 1) (eC (.int 2048))) (eC (.int 19))) (eC (.int 9))) (aCons (eM (eB (aCons (eVar 0) aNil) (m 15)) viewD) aNil)))) shD) (eBin gMod (eBin gDiv (eVar 1) (eC (.int 64))) (eC (.int 3)))) Ow.d))) (envOf 0 ds)) := runB_fin _ _ _
theorem run__law_grown (m : Nat → List PyData → R Ow) (ds : List PyData) : runB 9 (b__law_grown m) ds = finR (((sSeq (sSet 3 (eDictOf (eVar 0)))
    (sSeq (sSet 4 (eLstO (oCons (eLstO (oCons (eM (eBin gIx (eBin gIx (eVar 0) (eC (.int 0))) (eC (.int 0))) Ow.d) (oCons (eM (eC (.int 1)) Ow.d) (oCons (eM (eC .none) Ow.d) (oCons (eM (eC (.int 0)) Ow.d) (oCons (eLst aNil) oNil)))))) oNil)))
    (sSeq (sSet 5 (eLst (aCons (eC (.int 0)) aNil)))
    (sSeq (sFor (eB (eVar 1) itD) (gtName 6)
    (sSeq (sSet 7 (eM (eM (eB (aCons (eVar 6) (aCons (eC (.int 5)) aNil)) (m 13)) viewD) Ow.d))
    (sSeq (sSet 8 (eM (eBin gMod (eVar 7) (eLenO (eVarO 4))) Ow.d))
    (sSeq (sSet 9 (eM (eM (eLst aNil) viewD) Ow.d))
    (sSeq (sIf (eB (eBin gNe (eM (eVarO 5) viewD) (eM (eLst aNil) viewD)) asB)
    (sSeq (sXSet 8 (xPopAt 5 (eBin gIx (eB (eLst (aCons (eBin gMod (eBin gDiv (eVar 7) (eC (.int 4))) (eM (eCa gLen (aCons (eB (eVarO 5) shD) aNil)) viewD)) (aCons (eBin gSub (eM (eCa gLen (aCons (eB (eVarO 5) shD) aNil)) viewD) (eC (.int 1))) aNil))) shD) (eBin gMod (eVar 7) (eC (.int 2))))))
    (sSet 9 (eM (eM (eLc (eB (eGetM 3 (eM (eIxO (eIxO (eVarO 4) (eVar 8)) (eC (.int 0))) viewD)) itD) (gtName 10) (tAndE (eB (eBin gNe (eBin gIx (eVar 10) (eC (.int 1))) (eTup aNil)) asB) (eB (eBin gLt (eM (eIxO (eIxO (eVarO 4) (eVar 8)) (eC (.int 1))) viewD) (eVar 2)) asB)) (eM (eVar 10) Ow.d) (List.map (·.2) ([("_law_row", 10)] : List (Str × Nat)))) viewD) Ow.d)))
    sSkip)
    (sSeq (sIf (eB (eBin gNe (eVar 9) (eM (eLst aNil) viewD)) asB)
    (sSeq (sPut1 4 (eVar 8) (eC (.int 2)) (eM (eBin gIx (eVar 9) (eBin gMod (eBin gDiv (eVar 7) (eC (.int 1024))) (eM (eCa gLen (aCons (eVar 9) aNil)) viewD))) Ow.d))
    (sFor (eB (eBin gIx (eB (eIxO (eIxO (eVarO 4) (eVar 8)) (eC (.int 2))) shD) (eC (.int 1))) itD) (gtName 11)
    (sSeq (sApp2 4 (eVar 8) (eC (.int 4)) (eM (eLenO (eVarO 4)) Ow.d))
    (sSeq (sApp 5 (eM (eLenO (eVarO 4)) Ow.d))
    (sApp 4 (eLstO (oCons (eM (eVar 11) Ow.d) (oCons (eBinO gAdd (eB (eIxO (eIxO (eVarO 4) (eVar 8)) (eC (.int 1))) shD) (eC (.int 1))) (oCons (eM (eC .none) Ow.d) (oCons (eM (eBin gSub (eBin gMod (eBin gDiv (eVar 7) (eM (eBinO gAdd (eC (.int 3)) (eLenO (eVarO 4))) viewD)) (eC (.int 5))) (eC (.int 2))) Ow.d) (oCons (eLst aNil) oNil)))))))))))
    sSkip)
    (sPut1 4 (eVar 8) (eC (.int 3)) (eB (aCons (eVar 6) (aCons (eVar 7) aNil)) (m 20)))))))))
    (sRetV 4)))))) (envOf 9 ds)) := runB_fin _ _ _
theorem run__law_built (m : Nat → List PyData → R Ow) (ds : List PyData) : runB 7 (b__law_built m) ds = finR (((sSeq (sSet 2 (eLc (eB (eVar 1) itD) (gtName 3) cYes (eM (eC .none) Ow.d) (List.map (·.2) ([("_law_node", 3)] : List (Str × Nat)))))
    (sSeq (sFor (eB (eM (eCa gLen (aCons (eVar 1) aNil)) viewD) rgRev) (gtName 4)
    (sSeq (sSet 5 (eM (eBin gIx (eBin gIx (eVar 1) (eVar 4)) (eC (.int 2))) Ow.d))
    (sSeq (sIf (eB (eBin gIsN (eVar 5) (eC .none)) asB)
    (sSeq (sSet 6 (eM (eM (eLc (eB (eDictIx (eVar 0) (eBin gIx (eBin gIx (eVar 1) (eVar 4)) (eC (.int 0)))) itD) (gtName 7) (eB (eBin gEq (eBin gIx (eVar 7) (eC (.int 1))) (eTup aNil)) asB) (eM (eVar 7) Ow.d) (List.map (·.2) ([("_law_end", 7)] : List (Str × Nat)))) viewD) Ow.d))
    (sSet 5 (eM (eBin gIx (eVar 6) (eBin gMod (eM (eB (aCons (eBin gIx (eBin gIx (eVar 1) (eVar 4)) (eC (.int 3))) (aCons (eVar 4) aNil)) (m 13)) viewD) (eM (eCa gLen (aCons (eVar 6) aNil)) viewD))) Ow.d)))
    sSkip)
    (sPut 2 (eM (eTup (aCons (eBin gIx (eVar 5) (eC (.int 0))) (aCons (eBin gIx (eBin gIx (eVar 1) (eVar 4)) (eC (.int 3))) (aCons (eM (eCa gTuple (aCons (eB (eLc (eB (eBin gIx (eBin gIx (eVar 1) (eVar 4)) (eC (.int 4))) itD) (gtName 8) cYes (eM (eBin gIx (eB (eVarO 2) shD) (eVar 8)) Ow.d) (List.map (·.2) ([("_law_j", 8)] : List (Str × Nat)))) shD) aNil)) viewD) aNil)))) Ow.d) (eVar 4)))))
    (sRetV 2)))) (envOf 7 ds)) := runB_fin _ _ _
theorem run__law_rule (m : Nat → List PyData → R Ow) (ds : List PyData) : runB 4 (b__law_rule m) ds = finR (((sSeq (sAsg (gtTup 2 (gtCons (gtName 3) (gtCons (gtName 4) gtNil))) (eBin gIx (eBin gIx (eVar 0) (eC (.int 2))) (eVar 1)))
    (sSeq (sFor (eB (aCons (eDictIx (eBin gIx (eVar 0) (eC (.int 0))) (eVar 3)) (aCons (eVar 4) aNil)) zpArg) (gtTup 2 (gtCons (gtName 5) (gtCons (gtName 6) gtNil)))
    (sIf (eB (eBin gEq (eBin gIx (eVar 5) (eC (.int 0))) (eVar 2)) asB)
    (sRet (eM (eVar 6) Ow.d))
    sSkip))
    (sRet (eM (eC .none) Ow.d))))) (envOf 4 ds)) := runB_fin _ _ _
theorem run__law_come (m : Nat → List PyData → R Ow) (ds : List PyData) : runB 0 (b__law_come m) ds = finR (((sSeq (whileN (eB (eBin gEq (eBin gIx (eVar 1) (eC (.int 0))) (eC (.str "call"))) asB)
    (sSeq (sSet 2 (eM (eBin gIx (eBin gIx (eVar 2) (eC (.int 2))) (eBin gIx (eVar 1) (eC (.int 2)))) Ow.d))
    (sSet 1 (eM (eM (eB (aCons (eVar 0) (aCons (eBin gIx (eVar 1) (eC (.int 1))) (aCons (eBin gIx (eVar 2) (eC (.int 0))) aNil))) (m 23)) viewD) Ow.d))) 1000000)
    (sRet (eM (eTup (aCons (eVar 1) (aCons (eVar 2) aNil))) Ow.d)))) (envOf 0 ds)) := runB_fin _ _ _
theorem run__law_label (m : Nat → List PyData → R Ow) (ds : List PyData) : runB 0 (b__law_label m) ds = finR (((sRet (eM (eTup (aCons (eBin gIx (eVar 0) (eC (.int 1))) (aCons (eM (eBinO gAdd (eBin gIx (eVar 0) (eC (.int 3))) (eBin gMul (eBin gIx (eVar 1) (eC (.int 1))) (eM (eCa gInt (aCons (eBin gIx (eVar 0) (eC (.int 2))) aNil)) viewD))) viewD) (aCons (eM (eCa gLen (aCons (eBin gIx (eVar 0) (eC (.int 4))) aNil)) viewD) aNil)))) Ow.d))) (envOf 0 ds)) := runB_fin _ _ _
theorem run__law_labels (m : Nat → List PyData → R Ow) (ds : List PyData) : runB 0 (b__law_labels m) ds = finR (((sSeq (sIf (eB (eBin gIsN (eVar 1) (eC .none)) asB)
    (sRet (eM (eBin gIsN (eVar 0) (eC .none)) Ow.d))
    sSkip)
    (sSeq (sIf (tOrE (tNotE (eB (eB (eVar 0) (gIsi "tuple")) asB)) (tOrE (eB (eBin gNe (eM (eCa gLen (aCons (eVar 0) aNil)) viewD) (eC (.int 3))) asB) (tNotE (eB (eB (eBin gIx (eVar 0) (eC (.int 0))) (gIsi "str")) asB))))
    (sRet (eM (eC (.bool false)) Ow.d))
    sSkip)
    (sRet (eM (eAnd (eM (eB (aCons (eBin gIx (eVar 0) (eC (.int 1))) aNil) (m 27)) viewD) (eAnd (eM (eB (aCons (eBin gIx (eVar 0) (eC (.int 2))) aNil) (m 27)) viewD) (eBin gEq (eVar 0) (eVar 1)))) Ow.d))))) (envOf 0 ds)) := runB_fin _ _ _
theorem run__law_whole (m : Nat → List PyData → R Ow) (ds : List PyData) : runB 0 (b__law_whole m) ds = finR (((sRet (eM (eAnd (eB (eVar 0) (gIsi "int")) (eNot (eB (eVar 0) (gIsi "bool")))) Ow.d))) (envOf 0 ds)) := runB_fin _ _ _
theorem run__law_copy (m : Nat → List PyData → R Ow) (ds : List PyData) : runB 4 (b__law_copy m) ds = finR (((sSeq (sSet 1 (eM (eM (eLc (eB (eBin gIx (eVar 0) (eC (.int 0))) itD) (gtTup 2 (gtCons (gtName 2) (gtCons (gtName 3) gtNil))) cYes (eM (eTup (aCons (eVar 2) (aCons (eM (eCa gList (aCons (eVar 3) aNil)) viewD) aNil))) Ow.d) (List.map (·.2) ([("_law_kind", 2), ("_law_rows", 3)] : List (Str × Nat)))) viewD) Ow.d))
    (sRet (eM (eTup (aCons (eVar 1) (aCons (eBin gIx (eVar 0) (eC (.int 1))) (aCons (eM (eLc (eB (eBin gIx (eVar 0) (eC (.int 2))) itD) (gtTup 2 (gtCons (gtName 2) (gtCons (gtName 4) gtNil))) cYes (eM (eTup (aCons (eVar 2) (aCons (eM (eCa gList (aCons (eVar 4) aNil)) viewD) aNil))) Ow.d) (List.map (·.2) ([("_law_kind", 2), ("_law_rules", 4)] : List (Str × Nat)))) viewD) aNil)))) Ow.d)))) (envOf 4 ds)) := runB_fin _ _ _
theorem run__law_ways (m : Nat → List PyData → R Ow) (ds : List PyData) : runB 7 (b__law_ways m) ds = finR (((sSeq (sSet 3 (eLst aNil))
    (sSeq (sSet 4 (eM (eM (eLst aNil) viewD) Ow.d))
    (sSeq (sAsg (gtTup 2 (gtCons (gtName 5) (gtCons (gtName 6) gtNil))) (eM (eB (aCons (eVar 0) (aCons (eBin gIx (eVar 0) (eC (.int 1))) (aCons (eTup (aCons (eC (.str "")) (aCons (eC (.int 0)) (aCons (eTup (aCons (eVar 1) aNil)) aNil)))) aNil))) (m 24)) viewD))
    (sSeq (sSet 7 (eM (eM (eLst (aCons (eM (eB (aCons (eVar 5) (aCons (eVar 6) aNil)) (m 25)) viewD) aNil)) viewD) Ow.d))
    (sSeq (sFor (eB (eVar 2) itD) (gtName 8)
    (sSeq (sSet 9 (eM (eM (eB (aCons (eVar 8) (aCons (eC (.int 11)) aNil)) (m 13)) viewD) Ow.d))
    (sSeq (sIf (eB (eBin gEq (eBin gIx (eVar 5) (eC (.int 4))) (eTup aNil)) asB)
    (sSeq (sApp 3 (eM (eTup (aCons (eVar 4) (aCons (eVar 7) aNil))) Ow.d))
    (sSeq (sSet 4 (eM (eM (eLst aNil) viewD) Ow.d))
    (sSeq (sAsg (gtTup 2 (gtCons (gtName 5) (gtCons (gtName 6) gtNil))) (eM (eB (aCons (eVar 0) (aCons (eBin gIx (eVar 0) (eC (.int 1))) (aCons (eTup (aCons (eC (.str "")) (aCons (eC (.int 0)) (aCons (eTup (aCons (eVar 1) aNil)) aNil)))) aNil))) (m 24)) viewD))
    (sSet 7 (eM (eM (eLst (aCons (eM (eB (aCons (eVar 5) (aCons (eVar 6) aNil)) (m 25)) viewD) aNil)) viewD) Ow.d)))))
    sSkip)
    (sIf (eB (eBin gNe (eBin gIx (eVar 5) (eC (.int 4))) (eTup aNil)) asB)
    (sSeq (sSet 4 (eM (eM (eBinO gAdd (eVar 4) (eB (eLst (aCons (eBin gMod (eVar 9) (eM (eCa gLen (aCons (eBin gIx (eVar 5) (eC (.int 4))) aNil)) viewD)) aNil)) shD)) viewD) Ow.d))
    (sSeq (sAsg (gtTup 2 (gtCons (gtName 5) (gtCons (gtName 6) gtNil))) (eM (eB (aCons (eVar 0) (aCons (eBin gIx (eBin gIx (eVar 5) (eC (.int 4))) (eBin gIx (eVar 4) (eB (eC (.int 1)) gNeg))) (aCons (eVar 6) aNil))) (m 24)) viewD))
    (sSet 7 (eM (eM (eBinO gAdd (eVar 7) (eB (eLst (aCons (eM (eB (aCons (eVar 5) (aCons (eVar 6) aNil)) (m 25)) viewD) aNil)) shD)) viewD) Ow.d))))
    sSkip))))
    (sSeq (sApp 3 (eM (eTup (aCons (eVar 4) (aCons (eVar 7) aNil))) Ow.d))
    (sRetV 3)))))))) (envOf 7 ds)) := runB_fin _ _ _
theorem run__law_astray (m : Nat → List PyData → R Ow) (ds : List PyData) : runB 3 (b__law_astray m) ds = finR (((sSeq (sSet 5 (eM (eM (eB (aCons (eVar 4) (aCons (eC (.int 13)) aNil)) (m 13)) viewD) Ow.d))
    (sSeq (sSet 6 (eM (eBin gMod (eVar 5) (eM (eCa gLen (aCons (eVar 3) aNil)) viewD)) Ow.d))
    (sSeq (sSet 7 (eM (eM (eBinO gAdd (eBin gIx (eBin gIx (eVar 3) (eVar 6)) (eC (.int 2))) (eBin gIx (eB (eLst (aCons (eC (.int 0)) (aCons (eC (.int 1)) (aCons (eBin gMod (eVar 4) (eBin gPow (eC (.int 10)) (eC (.int 59)))) aNil)))) shD) (eBin gMod (eBin gDiv (eVar 5) (eC (.int 64))) (eC (.int 3))))) viewD) Ow.d))
    (sSeq (sIf (eB (eBin gEq (eBin gMod (eBin gDiv (eVar 5) (eC (.int 256))) (eC (.int 2))) (eC (.int 1))) asB)
    (sSet 7 (eM (eBin gIx (eB (eLst (aCons (eB (eC (.int 1)) gNeg) (aCons (eBin gSub (eB (eC (.int 1)) gNeg) (eBin gMod (eVar 4) (eBin gPow (eC (.int 10)) (eC (.int 59))))) (aCons (eBin gSub (eC (.int 0)) (eM (eCa gLen (aCons (eVar 3) aNil)) viewD)) aNil)))) shD) (eBin gMod (eBin gDiv (eVar 5) (eC (.int 64))) (eC (.int 3)))) Ow.d))
    sSkip)
    (sRet (eM (eBin gIsN (eM (eB (aCons (eVar 0) (aCons (eVar 1) (aCons (eM (eCa gTuple (aCons (eB (eBinO gAdd (eB (eBinO gAdd (eB (eSl (eVar 2) oNone (eB (eVar 6) asI)) shD) (eB (eLst (aCons (eVar 7) aNil)) shD)) shD) (eB (eSl (eVar 2) (eB (eM (eBinO gAdd (eVar 6) (eC (.int 1))) viewD) asI) oNone) shD)) shD) aNil)) viewD) aNil))) (m 10)) viewD) (eC .none)) Ow.d))))))) (envOf 3 ds)) := runB_fin _ _ _
theorem run__law_in_mode (m : Nat → List PyData → R Ow) (ds : List PyData) : runB 9 (b__law_in_mode m) ds = finR (((sSeq (sSet 4 (eM (eM (eB (aCons (eVar 3) (aCons (eC (.int 17)) aNil)) (m 13)) viewD) Ow.d))
    (sSeq (sSet 5 (eM (eBin gMod (eVar 4) (eM (eCa gLen (aCons (eVar 1) aNil)) viewD)) Ow.d))
    (sSeq (sFor (eB (aCons (eM (eCa gLen (aCons (eBin gIx (eVar 0) (eC (.int 2))) aNil)) viewD) aNil) rg1) (gtName 6)
    (sIf (eB (eBin gEq (eBin gIx (eBin gIx (eBin gIx (eVar 0) (eC (.int 2))) (eVar 6)) (eC (.int 0))) (eBin gIx (eBin gIx (eVar 1) (eVar 5)) (eC (.int 0)))) asB)
    (sSeq (sAsg (gtTup 2 (gtCons (gtName 7) (gtCons (gtName 8) gtNil))) (eM (eB (aCons (eVar 0) (aCons (eTup (aCons (eC (.str "call")) (aCons (eVar 6) (aCons (eC (.int 0)) aNil)))) (aCons (eTup (aCons (eC (.str "")) (aCons (eC (.int 0)) (aCons (eTup (aCons (eBin gIx (eVar 2) (eVar 5)) aNil)) aNil)))) aNil))) (m 24)) viewD))
    (sSeq (sIf (tNotE (eB (eM (eB (aCons (eM (eB (aCons (eVar 0) (aCons (eVar 6) (aCons (eBin gIx (eVar 2) (eVar 5)) (aCons (eTup aNil) aNil)))) (m 11)) viewD) (aCons (eM (eB (aCons (eVar 7) (aCons (eVar 8) aNil)) (m 25)) viewD) aNil)) (m 26)) viewD) asB))
    (sRet (eM (eC (.bool false)) Ow.d))
    sSkip)
    (sSeq (sSet 9 (eM (eC .none) Ow.d))
    (sSeq (sSet 10 (eM (eBin gMod (eBin gDiv (eVar 4) (eC (.int 128))) (eC (.int 3))) Ow.d))
    (sSeq (sIf (eB (eBin gLt (eVar 10) (eM (eCa gLen (aCons (eBin gIx (eVar 7) (eC (.int 4))) aNil)) viewD)) asB)
    (sSeq (sAsg (gtTup 2 (gtCons (gtName 11) (gtCons (gtName 12) gtNil))) (eM (eB (aCons (eVar 0) (aCons (eBin gIx (eBin gIx (eVar 7) (eC (.int 4))) (eVar 10)) (aCons (eVar 8) aNil))) (m 24)) viewD))
    (sSet 9 (eM (eM (eB (aCons (eVar 11) (aCons (eVar 12) aNil)) (m 25)) viewD) Ow.d)))
    sSkip)
    (sIf (tNotE (eB (eM (eB (aCons (eM (eB (aCons (eVar 0) (aCons (eVar 6) (aCons (eBin gIx (eVar 2) (eVar 5)) (aCons (eTup (aCons (eVar 10) aNil)) aNil)))) (m 11)) viewD) (aCons (eVar 9) aNil)) (m 26)) viewD) asB))
    (sRet (eM (eC (.bool false)) Ow.d))
    sSkip))))))
    sSkip))
    (sRet (eM (eC (.bool true)) Ow.d)))))) (envOf 9 ds)) := runB_fin _ _ _
theorem run_law (m : Nat → List PyData → R Ow) (ds : List PyData) : runB 10 (b_law m) ds = finR (((sSeq (sSet 1 (eM (eM (eB (aCons (eM (eB (aCons (eVar 0) (aCons (eC (.int 0)) aNil)) (m 12)) viewD) aNil) (m 14)) viewD) Ow.d))
    (sSeq (sSet 2 (eM (eM (eB (aCons (eM (eB (aCons (eVar 0) (aCons (eC (.int 1)) aNil)) (m 12)) viewD) (aCons (eVar 1) aNil)) (m 16)) viewD) Ow.d))
    (sSeq (sSet 3 (eM (eM (eB (aCons (eVar 0) (aCons (eVar 2) (aCons (eVar 1) aNil))) (m 19)) viewD) Ow.d))
    (sSeq (sSet 4 (eM (eM (eB (aCons (eVar 2) (aCons (eM (eSl (eVar 0) (eB (eC (.int 16)) asI) (eB (eC (.int 32)) asI)) viewD) (aCons (eC (.int 20)) aNil))) (m 21)) viewD) Ow.d))
    (sSeq (sSet 5 (eM (eM (eB (aCons (eVar 2) (aCons (eVar 4) aNil)) (m 22)) viewD) Ow.d))
    (sSeq (sSet 6 (eM (eBin gIx (eVar 5) (eC (.int 0))) Ow.d))
    (sSeq (sSet 7 (eM (eM (eB (aCons (eVar 3) aNil) (m 28)) viewD) Ow.d))
    (sSeq (sFor (eB (eM (eB (aCons (eVar 3) (aCons (eVar 6) (aCons (eM (eSl (eVar 0) (eB (eC (.int 32)) asI) (eB (eC (.int 76)) asI)) viewD) aNil))) (m 29)) viewD) itD) (gtTup 2 (gtCons (gtName 8) (gtCons (gtName 9) gtNil)))
    (sSeq (sSet 10 (eM (eBin gMod (eM (eB (aCons (eM (eB (aCons (eVar 0) (aCons (eC (.int 3)) aNil)) (m 12)) viewD) (aCons (eM (eCa gLen (aCons (eVar 8) aNil)) viewD) aNil)) (m 13)) viewD) (eM (eCa gLen (aCons (eVar 9) aNil)) viewD)) Ow.d))
    (sSeq (sIf (tNotE (eB (eM (eB (aCons (eM (eB (aCons (eVar 7) (aCons (eVar 6) (aCons (eM (eCa gTuple (aCons (eVar 8) aNil)) viewD) aNil))) (m 10)) viewD) (aCons (eBin gIx (eVar 9) (eB (eC (.int 1)) gNeg)) aNil)) (m 26)) viewD) asB))
    (sRet (eM (eC (.bool false)) Ow.d))
    sSkip)
    (sSeq (sIf (tNotE (eB (eM (eB (aCons (eM (eB (aCons (eVar 7) (aCons (eVar 6) (aCons (eM (eCa gTuple (aCons (eB (eSl (eVar 8) oNone (eB (eVar 10) asI)) shD) aNil)) viewD) aNil))) (m 10)) viewD) (aCons (eBin gIx (eVar 9) (eVar 10)) aNil)) (m 26)) viewD) asB))
    (sRet (eM (eC (.bool false)) Ow.d))
    sSkip)
    (sSeq (sIf (tAndE (eB (eBin gEq (eBin gIx (eBin gIx (eVar 9) (eB (eC (.int 1)) gNeg)) (eC (.int 2))) (eC (.int 0))) asB) (eB (eBin gNotN (eM (eB (aCons (eVar 7) (aCons (eVar 6) (aCons (eM (eCa gTuple (aCons (eB (eBinO gAdd (eVar 8) (eB (eLst (aCons (eC (.int 0)) aNil)) shD)) shD) aNil)) viewD) aNil))) (m 10)) viewD) (eC .none)) asB))
    (sRet (eM (eC (.bool false)) Ow.d))
    sSkip)
    (sIf (tNotE (eB (eM (eB (aCons (eVar 7) (aCons (eVar 6) (aCons (eVar 8) (aCons (eVar 9) (aCons (eM (eB (aCons (eVar 0) (aCons (eM (eBinO gAdd (eC (.int 3)) (eB (eCa gLen (aCons (eVar 8) aNil)) shD)) viewD) aNil)) (m 12)) viewD) aNil))))) (m 30)) viewD) asB))
    (sRet (eM (eC (.bool false)) Ow.d))
    sSkip))))))
    (sRet (eM (eAnd (eM (eB (aCons (eVar 7) (aCons (eVar 4) (aCons (eVar 5) (aCons (eM (eB (aCons (eVar 0) (aCons (eC (.int 3)) aNil)) (m 12)) viewD) aNil)))) (m 31)) viewD) (eBin gEq (eVar 7) (eVar 3))) Ow.d))))))))))) (envOf 10 ds)) := runB_fin _ _ _
abbrev N_rows_of : List Str := ["wood", "kind", "told", "rows"]
theorem sc_rows_of : FnScope N_rows_of ["wood", "kind"] (defScope s_rows_of) := ⟨rfl, rfl, rfl, by decide +kernel, rfl, by decide +kernel, by decide +kernel⟩
abbrev N_row_of : List Str := ["wood", "kind", "name", "told", "branches"]
theorem sc_row_of : FnScope N_row_of ["wood", "kind", "name"] (defScope s_row_of) := ⟨rfl, rfl, rfl, by decide +kernel, rfl, by decide +kernel, by decide +kernel⟩
abbrev N_is_of : List Str := ["wood", "kind", "tree", "branches", "wanted", "branch"]
theorem sc_is_of : FnScope N_is_of ["wood", "kind", "tree"] (defScope s_is_of) := ⟨rfl, rfl, rfl, by decide +kernel, rfl, by decide +kernel, by decide +kernel⟩
abbrev N_row_number : List Str := ["wood", "kind", "name", "k", "row"]
theorem sc_row_number : FnScope N_row_number ["wood", "kind", "name"] (defScope s_row_number) := ⟨rfl, rfl, rfl, by decide +kernel, rfl, by decide +kernel, by decide +kernel⟩
abbrev N_rule_of : List Str := ["turning", "mode", "name", "kind", "rules", "k"]
theorem sc_rule_of : FnScope N_rule_of ["turning", "mode", "name"] (defScope s_rule_of) := ⟨rfl, rfl, rfl, by decide +kernel, rfl, by decide +kernel, by decide +kernel⟩
abbrev N_look : List Str := ["turning", "kind", "tree"]
theorem sc_look : FnScope N_look ["turning", "kind", "tree"] (defScope s_look) := ⟨rfl, rfl, rfl, by decide +kernel, rfl, by decide +kernel, by decide +kernel⟩
abbrev N_above : List Str := ["tree"]
theorem sc_above : FnScope N_above ["tree"] (defScope s_above) := ⟨rfl, rfl, rfl, by decide +kernel, rfl, by decide +kernel, by decide +kernel⟩
abbrev N_mark_of : List Str := ["put", "read"]
theorem sc_mark_of : FnScope N_mark_of ["put", "read"] (defScope s_mark_of) := ⟨rfl, rfl, rfl, by decide +kernel, rfl, by decide +kernel, by decide +kernel⟩
abbrev N_settled : List Str := ["turning", "term", "read"]
theorem sc_settled : FnScope N_settled ["turning", "term", "read"] (defScope s_settled) := ⟨rfl, rfl, rfl, by decide +kernel, rfl, by decide +kernel, by decide +kernel⟩
abbrev N_seen_from : List Str := ["turning", "term", "read", "place", "here", "branch"]
theorem sc_seen_from : FnScope N_seen_from ["turning", "term", "read", "place"] (defScope s_seen_from) := ⟨rfl, rfl, rfl, by decide +kernel, rfl, by decide +kernel, by decide +kernel⟩
abbrev N_seen : List Str := ["turning", "tree", "place"]
theorem sc_seen : FnScope N_seen ["turning", "tree", "place"] (defScope s_seen) := ⟨rfl, rfl, rfl, by decide +kernel, rfl, by decide +kernel, by decide +kernel⟩
abbrev N_seen_in : List Str := ["turning", "mode", "tree", "place"]
theorem sc_seen_in : FnScope N_seen_in ["turning", "mode", "tree", "place"] (defScope s_seen_in) := ⟨rfl, rfl, rfl, by decide +kernel, rfl, by decide +kernel, by decide +kernel⟩
abbrev N__law_cell_at : List Str := ["_law_script", "_law_k"]
theorem sc__law_cell_at : FnScope N__law_cell_at ["_law_script", "_law_k"] (defScope s__law_cell_at) := ⟨rfl, rfl, rfl, by decide +kernel, rfl, by decide +kernel, by decide +kernel⟩
abbrev N__law_mixed : List Str := ["_law_cell", "_law_k", "_law_number"]
theorem sc__law_mixed : FnScope N__law_mixed ["_law_cell", "_law_k"] (defScope s__law_mixed) := ⟨rfl, rfl, rfl, by decide +kernel, rfl, by decide +kernel, by decide +kernel⟩
abbrev N__law_names : List Str := ["_law_cell", "_law_letters", "_law_base", "_law_j", "_law_k", "_law_width", "_law_spot", "_law_names_here", "_law_moved"]
theorem sc__law_names : FnScope N__law_names ["_law_cell"] (defScope s__law_names) := ⟨rfl, rfl, rfl, by decide +kernel, rfl, by decide +kernel, by decide +kernel⟩
abbrev N__law_great : List Str := ["_law_cell"]
theorem sc__law_great : FnScope N__law_great ["_law_cell"] (defScope s__law_great) := ⟨rfl, rfl, rfl, by decide +kernel, rfl, by decide +kernel, by decide +kernel⟩
abbrev N__law_wood : List Str := ["_law_cell", "_law_names_here", "_law_kinds", "_law_wood_here", "_law_i", "_law_first", "_law_rows", "_law_r", "_law_number", "_law_wide", "_law_branches", "_law_j"]
theorem sc__law_wood : FnScope N__law_wood ["_law_cell", "_law_names_here"] (defScope s__law_wood) := ⟨rfl, rfl, rfl, by decide +kernel, rfl, by decide +kernel, by decide +kernel⟩
abbrev N__law_term : List Str := ["_law_cell", "_law_k", "_law_deep", "_law_calls_here", "_law_names_here", "_law_keep", "_law_number", "_law_wide", "_law_parts", "_law_j", "_law_kept", "_law_add"]
theorem sc__law_term : FnScope N__law_term ["_law_cell", "_law_k", "_law_deep", "_law_calls_here", "_law_names_here", "_law_keep"] (defScope s__law_term) := ⟨rfl, rfl, rfl, by decide +kernel, rfl, by decide +kernel, by decide +kernel⟩
abbrev N__law_calls : List Str := ["_law_branches", "_law_owners", "_law_calls_here", "_law_branch", "_law_mode"]
theorem sc__law_calls : FnScope N__law_calls ["_law_branches", "_law_owners"] (defScope s__law_calls) := ⟨rfl, rfl, rfl, by decide +kernel, rfl, by decide +kernel, by decide +kernel⟩
abbrev N__law_turning : List Str := ["_law_script", "_law_wood_here", "_law_names_here", "_law_kinds", "_law_kind", "_law_rows", "_law_number", "_law_owners", "_law_i", "_law_modes", "_law_used", "_law_rules", "_law_row", "_law_calls_here", "_law_start"]
theorem sc__law_turning : FnScope N__law_turning ["_law_script", "_law_wood_here", "_law_names_here"] (defScope s__law_turning) := ⟨rfl, rfl, rfl, by decide +kernel, rfl, by decide +kernel, by decide +kernel⟩
abbrev N__law_mark : List Str := ["_law_cell", "_law_number"]
theorem sc__law_mark : FnScope N__law_mark ["_law_cell", "_law_number"] (defScope s__law_mark) := ⟨rfl, rfl, rfl, by decide +kernel, rfl, by decide +kernel, by decide +kernel⟩
abbrev N__law_grown : List Str := ["_law_wood_here", "_law_cells", "_law_top", "_law_rows", "_law_nodes", "_law_bare", "_law_cell", "_law_number", "_law_spot", "_law_full", "_law_row", "_law_kind"]
theorem sc__law_grown : FnScope N__law_grown ["_law_wood_here", "_law_cells", "_law_top"] (defScope s__law_grown) := ⟨rfl, rfl, rfl, by decide +kernel, rfl, by decide +kernel, by decide +kernel⟩
abbrev N__law_built : List Str := ["_law_wood_here", "_law_nodes", "_law_trees", "_law_node", "_law_k", "_law_row", "_law_ends", "_law_end", "_law_j"]
theorem sc__law_built : FnScope N__law_built ["_law_wood_here", "_law_nodes"] (defScope s__law_built) := ⟨rfl, rfl, rfl, by decide +kernel, rfl, by decide +kernel, by decide +kernel⟩
abbrev N__law_rule : List Str := ["_law_turning_here", "_law_mode", "_law_name", "_law_kind", "_law_rules", "_law_row", "_law_rule_here"]
theorem sc__law_rule : FnScope N__law_rule ["_law_turning_here", "_law_mode", "_law_name"] (defScope s__law_rule) := ⟨rfl, rfl, rfl, by decide +kernel, rfl, by decide +kernel, by decide +kernel⟩
abbrev N__law_come : List Str := ["_law_turning_here", "_law_term_here", "_law_read"]
theorem sc__law_come : FnScope N__law_come ["_law_turning_here", "_law_term_here", "_law_read"] (defScope s__law_come) := ⟨rfl, rfl, rfl, by decide +kernel, rfl, by decide +kernel, by decide +kernel⟩
abbrev N__law_label : List Str := ["_law_term_here", "_law_read"]
theorem sc__law_label : FnScope N__law_label ["_law_term_here", "_law_read"] (defScope s__law_label) := ⟨rfl, rfl, rfl, by decide +kernel, rfl, by decide +kernel, by decide +kernel⟩
abbrev N__law_labels : List Str := ["_law_found", "_law_due"]
theorem sc__law_labels : FnScope N__law_labels ["_law_found", "_law_due"] (defScope s__law_labels) := ⟨rfl, rfl, rfl, by decide +kernel, rfl, by decide +kernel, by decide +kernel⟩
abbrev N__law_whole : List Str := ["_law_found"]
theorem sc__law_whole : FnScope N__law_whole ["_law_found"] (defScope s__law_whole) := ⟨rfl, rfl, rfl, by decide +kernel, rfl, by decide +kernel, by decide +kernel⟩
abbrev N__law_copy : List Str := ["_law_turning_here", "_law_wood_here", "_law_kind", "_law_rows", "_law_rules"]
theorem sc__law_copy : FnScope N__law_copy ["_law_turning_here"] (defScope s__law_copy) := ⟨rfl, rfl, rfl, by decide +kernel, rfl, by decide +kernel, by decide +kernel⟩
abbrev N__law_ways : List Str := ["_law_turning_here", "_law_tree", "_law_cells", "_law_ways_here", "_law_way", "_law_term_here", "_law_read", "_law_marks", "_law_cell", "_law_number"]
theorem sc__law_ways : FnScope N__law_ways ["_law_turning_here", "_law_tree", "_law_cells"] (defScope s__law_ways) := ⟨rfl, rfl, rfl, by decide +kernel, rfl, by decide +kernel, by decide +kernel⟩
abbrev N__law_astray : List Str := ["_law_turning_here", "_law_tree", "_law_way", "_law_marks", "_law_cell", "_law_number", "_law_spot", "_law_bad"]
theorem sc__law_astray : FnScope N__law_astray ["_law_turning_here", "_law_tree", "_law_way", "_law_marks", "_law_cell"] (defScope s__law_astray) := ⟨rfl, rfl, rfl, by decide +kernel, rfl, by decide +kernel, by decide +kernel⟩
abbrev N__law_in_mode : List Str := ["_law_turning_here", "_law_nodes", "_law_trees", "_law_cell", "_law_number", "_law_spot", "_law_mode", "_law_term_here", "_law_read", "_law_due", "_law_step", "_law_below", "_law_inner"]
theorem sc__law_in_mode : FnScope N__law_in_mode ["_law_turning_here", "_law_nodes", "_law_trees", "_law_cell"] (defScope s__law_in_mode) := ⟨rfl, rfl, rfl, by decide +kernel, rfl, by decide +kernel, by decide +kernel⟩
abbrev N_law : List Str := ["_law_script", "_law_names_here", "_law_wood_here", "_law_turning_here", "_law_nodes", "_law_trees", "_law_tree", "_law_handed", "_law_way", "_law_marks", "_law_spot"]
theorem sc_law : FnScope N_law ["_law_script"] (defScope s_law) := ⟨rfl, rfl, rfl, by decide +kernel, rfl, by decide +kernel, by decide +kernel⟩
structure Txt (K : PySem.W.Frag) (mg : Str → Option Value) (f : Nat → Addr) (fd : Nat → FuncData) (cl : Nat → Addr) : Prop where
  F_rows_of : Fun K "rows_of" "rows_of" s_rows_of (f 0) (fd 0)
  B_rows_of : Binds K (fd 0) ["wood", "kind"] []
  M_rows_of : mg "rows_of" = some (.ref (f 0))
  F_row_of : Fun K "row_of" "row_of" s_row_of (f 1) (fd 1)
  B_row_of : Binds K (fd 1) ["wood", "kind", "name"] []
  M_row_of : mg "row_of" = some (.ref (f 1))
  F_is_of : Fun K "is_of" "is_of" s_is_of (f 2) (fd 2)
  B_is_of : Binds K (fd 2) ["wood", "kind", "tree"] []
  M_is_of : mg "is_of" = some (.ref (f 2))
  F_row_number : Fun K "row_number" "row_number" s_row_number (f 3) (fd 3)
  B_row_number : Binds K (fd 3) ["wood", "kind", "name"] []
  M_row_number : mg "row_number" = some (.ref (f 3))
  F_rule_of : Fun K "rule_of" "rule_of" s_rule_of (f 4) (fd 4)
  B_rule_of : Binds K (fd 4) ["turning", "mode", "name"] []
  M_rule_of : mg "rule_of" = some (.ref (f 4))
  F_look : Fun K "look" "look" s_look (f 5) (fd 5)
  B_look : Binds K (fd 5) ["turning", "kind", "tree"] []
  M_look : mg "look" = some (.ref (f 5))
  F_above : Fun K "above" "above" s_above (f 6) (fd 6)
  B_above : Binds K (fd 6) ["tree"] []
  M_above : mg "above" = some (.ref (f 6))
  F_mark_of : Fun K "mark_of" "mark_of" s_mark_of (f 7) (fd 7)
  B_mark_of : Binds K (fd 7) ["put", "read"] []
  M_mark_of : mg "mark_of" = some (.ref (f 7))
  F_settled : Fun K "settled" "settled" s_settled (f 8) (fd 8)
  B_settled : Binds K (fd 8) ["turning", "term", "read"] []
  M_settled : mg "settled" = some (.ref (f 8))
  F_seen_from : Fun K "seen_from" "seen_from" s_seen_from (f 9) (fd 9)
  B_seen_from : Binds K (fd 9) ["turning", "term", "read", "place"] []
  M_seen_from : mg "seen_from" = some (.ref (f 9))
  F_seen : Fun K "seen" "seen" s_seen (f 10) (fd 10)
  B_seen : Binds K (fd 10) ["turning", "tree", "place"] []
  M_seen : mg "seen" = some (.ref (f 10))
  F_seen_in : Fun K "seen_in" "seen_in" s_seen_in (f 11) (fd 11)
  B_seen_in : Binds K (fd 11) ["turning", "mode", "tree", "place"] []
  M_seen_in : mg "seen_in" = some (.ref (f 11))
  F__law_cell_at : Fun K "_law_cell_at" "_law_cell_at" s__law_cell_at (f 12) (fd 12)
  B__law_cell_at : Binds K (fd 12) ["_law_script", "_law_k"] []
  M__law_cell_at : mg "_law_cell_at" = some (.ref (f 12))
  F__law_mixed : Fun K "_law_mixed" "_law_mixed" s__law_mixed (f 13) (fd 13)
  B__law_mixed : Binds K (fd 13) ["_law_cell", "_law_k"] []
  M__law_mixed : mg "_law_mixed" = some (.ref (f 13))
  F__law_names : Fun K "_law_names" "_law_names" s__law_names (f 14) (fd 14)
  B__law_names : Binds K (fd 14) ["_law_cell"] []
  M__law_names : mg "_law_names" = some (.ref (f 14))
  F__law_great : Fun K "_law_great" "_law_great" s__law_great (f 15) (fd 15)
  B__law_great : Binds K (fd 15) ["_law_cell"] []
  M__law_great : mg "_law_great" = some (.ref (f 15))
  F__law_wood : Fun K "_law_wood" "_law_wood" s__law_wood (f 16) (fd 16)
  B__law_wood : Binds K (fd 16) ["_law_cell", "_law_names_here"] []
  M__law_wood : mg "_law_wood" = some (.ref (f 16))
  F__law_term : Fun K "_law_term" "_law_term" s__law_term (f 17) (fd 17)
  B__law_term : Binds K (fd 17) ["_law_cell", "_law_k", "_law_deep", "_law_calls_here", "_law_names_here", "_law_keep"] []
  M__law_term : mg "_law_term" = some (.ref (f 17))
  F__law_calls : Fun K "_law_calls" "_law_calls" s__law_calls (f 18) (fd 18)
  B__law_calls : Binds K (fd 18) ["_law_branches", "_law_owners"] []
  M__law_calls : mg "_law_calls" = some (.ref (f 18))
  F__law_turning : Fun K "_law_turning" "_law_turning" s__law_turning (f 19) (fd 19)
  B__law_turning : Binds K (fd 19) ["_law_script", "_law_wood_here", "_law_names_here"] []
  M__law_turning : mg "_law_turning" = some (.ref (f 19))
  F__law_mark : Fun K "_law_mark" "_law_mark" s__law_mark (f 20) (fd 20)
  B__law_mark : Binds K (fd 20) ["_law_cell", "_law_number"] []
  M__law_mark : mg "_law_mark" = some (.ref (f 20))
  F__law_grown : Fun K "_law_grown" "_law_grown" s__law_grown (f 21) (fd 21)
  B__law_grown : Binds K (fd 21) ["_law_wood_here", "_law_cells", "_law_top"] []
  M__law_grown : mg "_law_grown" = some (.ref (f 21))
  F__law_built : Fun K "_law_built" "_law_built" s__law_built (f 22) (fd 22)
  B__law_built : Binds K (fd 22) ["_law_wood_here", "_law_nodes"] []
  M__law_built : mg "_law_built" = some (.ref (f 22))
  F__law_rule : Fun K "_law_rule" "_law_rule" s__law_rule (f 23) (fd 23)
  B__law_rule : Binds K (fd 23) ["_law_turning_here", "_law_mode", "_law_name"] []
  M__law_rule : mg "_law_rule" = some (.ref (f 23))
  F__law_come : Fun K "_law_come" "_law_come" s__law_come (f 24) (fd 24)
  B__law_come : Binds K (fd 24) ["_law_turning_here", "_law_term_here", "_law_read"] []
  M__law_come : mg "_law_come" = some (.ref (f 24))
  F__law_label : Fun K "_law_label" "_law_label" s__law_label (f 25) (fd 25)
  B__law_label : Binds K (fd 25) ["_law_term_here", "_law_read"] []
  M__law_label : mg "_law_label" = some (.ref (f 25))
  F__law_labels : Fun K "_law_labels" "_law_labels" s__law_labels (f 26) (fd 26)
  B__law_labels : Binds K (fd 26) ["_law_found", "_law_due"] []
  M__law_labels : mg "_law_labels" = some (.ref (f 26))
  F__law_whole : Fun K "_law_whole" "_law_whole" s__law_whole (f 27) (fd 27)
  B__law_whole : Binds K (fd 27) ["_law_found"] []
  M__law_whole : mg "_law_whole" = some (.ref (f 27))
  F__law_copy : Fun K "_law_copy" "_law_copy" s__law_copy (f 28) (fd 28)
  B__law_copy : Binds K (fd 28) ["_law_turning_here"] []
  M__law_copy : mg "_law_copy" = some (.ref (f 28))
  F__law_ways : Fun K "_law_ways" "_law_ways" s__law_ways (f 29) (fd 29)
  B__law_ways : Binds K (fd 29) ["_law_turning_here", "_law_tree", "_law_cells"] []
  M__law_ways : mg "_law_ways" = some (.ref (f 29))
  F__law_astray : Fun K "_law_astray" "_law_astray" s__law_astray (f 30) (fd 30)
  B__law_astray : Binds K (fd 30) ["_law_turning_here", "_law_tree", "_law_way", "_law_marks", "_law_cell"] []
  M__law_astray : mg "_law_astray" = some (.ref (f 30))
  F__law_in_mode : Fun K "_law_in_mode" "_law_in_mode" s__law_in_mode (f 31) (fd 31)
  B__law_in_mode : Binds K (fd 31) ["_law_turning_here", "_law_nodes", "_law_trees", "_law_cell"] []
  M__law_in_mode : mg "_law_in_mode" = some (.ref (f 31))
  F_law : Fun K "law" "law" s_law (f 32) (fd 32)
  B_law : Binds K (fd 32) ["_law_script"] []
  M_law : mg "law" = some (.ref (f 32))
  z_bool : mg "bool" = none
  z_dict : mg "dict" = none
  z_enumerate : mg "enumerate" = none
  z_int : mg "int" = none
  z_isinstance : mg "isinstance" = none
  z_len : mg "len" = none
  z_list : mg "list" = none
  z_range : mg "range" = none
  z_reversed : mg "reversed" = none
  z_sorted : mg "sorted" = none
  z_str : mg "str" = none
  z_tuple : mg "tuple" = none
  z_zip : mg "zip" = none
  cx_NoTree : ExcT K mg "NoTree" (cl 0)
structure Fns (P : Program) (w : World) (K : PySem.W.Frag) (mg : Str → Option Value) (base : Heap) (f : Nat → Addr) (fd : Nat → FuncData) (n : Nat) : Prop where
  g_rows_of : FnOk P w K mg base (L2.CX P w) n (f 0) (fd 0) ["wood", "kind"] (spM K mg 2 (mir n 0))
  g_row_of : FnOk P w K mg base (L2.CX P w) n (f 1) (fd 1) ["wood", "kind", "name"] (spM K mg 3 (mir n 1))
  g_is_of : FnOk P w K mg base (L2.CX P w) n (f 2) (fd 2) ["wood", "kind", "tree"] (spM K mg 3 (mir n 2))
  g_row_number : FnOk P w K mg base (L2.CX P w) n (f 3) (fd 3) ["wood", "kind", "name"] (spM K mg 3 (mir n 3))
  g_rule_of : FnOk P w K mg base (L2.CX P w) n (f 4) (fd 4) ["turning", "mode", "name"] (spM K mg 3 (mir n 4))
  g_look : FnOk P w K mg base (L2.CX P w) n (f 5) (fd 5) ["turning", "kind", "tree"] (spM K mg 3 (mir n 5))
  g_above : FnOk P w K mg base (L2.CX P w) n (f 6) (fd 6) ["tree"] (spM K mg 1 (mir n 6))
  g_mark_of : FnOk P w K mg base (L2.CX P w) n (f 7) (fd 7) ["put", "read"] (spM K mg 2 (mir n 7))
  g_settled : FnOk P w K mg base (L2.CX P w) n (f 8) (fd 8) ["turning", "term", "read"] (spM K mg 3 (mir n 8))
  g_seen_from : FnOk P w K mg base (L2.CX P w) n (f 9) (fd 9) ["turning", "term", "read", "place"] (spM K mg 4 (mir n 9))
  g_seen : FnOk P w K mg base (L2.CX P w) n (f 10) (fd 10) ["turning", "tree", "place"] (spM K mg 3 (mir n 10))
  g_seen_in : FnOk P w K mg base (L2.CX P w) n (f 11) (fd 11) ["turning", "mode", "tree", "place"] (spM K mg 4 (mir n 11))
  g__law_cell_at : FnOk P w K mg base (L2.CX P w) n (f 12) (fd 12) ["_law_script", "_law_k"] (spM K mg 2 (mir n 12))
  g__law_mixed : FnOk P w K mg base (L2.CX P w) n (f 13) (fd 13) ["_law_cell", "_law_k"] (spM K mg 2 (mir n 13))
  g__law_names : FnOk P w K mg base (L2.CX P w) n (f 14) (fd 14) ["_law_cell"] (spM K mg 1 (mir n 14))
  g__law_great : FnOk P w K mg base (L2.CX P w) n (f 15) (fd 15) ["_law_cell"] (spM K mg 1 (mir n 15))
  g__law_wood : FnOk P w K mg base (L2.CX P w) n (f 16) (fd 16) ["_law_cell", "_law_names_here"] (spM K mg 2 (mir n 16))
  g__law_term : FnOk P w K mg base (L2.CX P w) n (f 17) (fd 17) ["_law_cell", "_law_k", "_law_deep", "_law_calls_here", "_law_names_here", "_law_keep"] (spM K mg 6 (mir n 17))
  g__law_calls : FnOk P w K mg base (L2.CX P w) n (f 18) (fd 18) ["_law_branches", "_law_owners"] (spM K mg 2 (mir n 18))
  g__law_turning : FnOk P w K mg base (L2.CX P w) n (f 19) (fd 19) ["_law_script", "_law_wood_here", "_law_names_here"] (spM K mg 3 (mir n 19))
  g__law_mark : FnOk P w K mg base (L2.CX P w) n (f 20) (fd 20) ["_law_cell", "_law_number"] (spM K mg 2 (mir n 20))
  g__law_grown : FnOk P w K mg base (L2.CX P w) n (f 21) (fd 21) ["_law_wood_here", "_law_cells", "_law_top"] (spM K mg 3 (mir n 21))
  g__law_built : FnOk P w K mg base (L2.CX P w) n (f 22) (fd 22) ["_law_wood_here", "_law_nodes"] (spM K mg 2 (mir n 22))
  g__law_rule : FnOk P w K mg base (L2.CX P w) n (f 23) (fd 23) ["_law_turning_here", "_law_mode", "_law_name"] (spM K mg 3 (mir n 23))
  g__law_come : FnOk P w K mg base (L2.CX P w) n (f 24) (fd 24) ["_law_turning_here", "_law_term_here", "_law_read"] (spM K mg 3 (mir n 24))
  g__law_label : FnOk P w K mg base (L2.CX P w) n (f 25) (fd 25) ["_law_term_here", "_law_read"] (spM K mg 2 (mir n 25))
  g__law_labels : FnOk P w K mg base (L2.CX P w) n (f 26) (fd 26) ["_law_found", "_law_due"] (spM K mg 2 (mir n 26))
  g__law_whole : FnOk P w K mg base (L2.CX P w) n (f 27) (fd 27) ["_law_found"] (spM K mg 1 (mir n 27))
  g__law_copy : FnOk P w K mg base (L2.CX P w) n (f 28) (fd 28) ["_law_turning_here"] (spM K mg 1 (mir n 28))
  g__law_ways : FnOk P w K mg base (L2.CX P w) n (f 29) (fd 29) ["_law_turning_here", "_law_tree", "_law_cells"] (spM K mg 3 (mir n 29))
  g__law_astray : FnOk P w K mg base (L2.CX P w) n (f 30) (fd 30) ["_law_turning_here", "_law_tree", "_law_way", "_law_marks", "_law_cell"] (spM K mg 5 (mir n 30))
  g__law_in_mode : FnOk P w K mg base (L2.CX P w) n (f 31) (fd 31) ["_law_turning_here", "_law_nodes", "_law_trees", "_law_cell"] (spM K mg 4 (mir n 31))
  g_law : FnOk P w K mg base (L2.CX P w) n (f 32) (fd 32) ["_law_script"] (spM K mg 1 (mir n 32))
section
variable {P : Program} {w : World} {K : PySem.W.Frag} {mg : Str → Option Value} {base : Heap} {f : Nat → Addr} {fd : Nat → FuncData} {cl : Nat → Addr} {n : Nat}
theorem ok_rows_of (T : Txt K mg f fd cl) (G : Fns P w K mg base f fd n) : FnOk P w K mg base (L2.CX P w) (n + 1) (f 0) (fd 0) ["wood", "kind"] (spM K mg 2 (mir (n + 1) 0)) :=
  mk_fn (l := 2) (fb := b_rows_of (mir n)) T.F_rows_of sc_rows_of rfl (fun _ => rfl) fun cdv A outer s H E hr =>
    (dss_cons (ds_for (ix := [2, 3]) (passes_of rfl) rfl (di_seq (df_var 0)) (dg_tup (n := 2) rfl (dgs_cons (dg_name 2 sc_rows_of.nd) (dgs_cons (dg_name 3 sc_rows_of.nd) dgs_nil)))
    (dss_one (ds_if (dt_eq (room_eq hr) (dv_df (df_var 2)) (dv_df (df_var 1)))
    (dss_one (ds_ret (de_df (df_var 3))))
    dss_nil)))
    (dss_one (ds_ret (de_lst da_nil))))
theorem ok_row_of (T : Txt K mg f fd cl) (G : Fns P w K mg base f fd n) : FnOk P w K mg base (L2.CX P w) (n + 1) (f 1) (fd 1) ["wood", "kind", "name"] (spM K mg 3 (mir (n + 1) 1)) :=
  mk_fn (l := 2) (fb := b_row_of (mir n)) T.F_row_of sc_row_of rfl (fun _ => rfl) fun cdv A outer s H E hr =>
    (dss_cons (ds_for (ix := [3, 4]) (passes_of rfl) rfl (di_seq (df_de (de_call G.g_rows_of (takes_of rfl rfl rfl rfl) hr rfl T.M_rows_of T.F_rows_of.kp T.B_rows_of (da_cons (df_var 0) (da_cons (df_var 1) da_nil)) (aCons_len (aCons_len (fun _ _ h => aNil_len h)))))) (dg_tup (n := 2) rfl (dgs_cons (dg_name 3 sc_row_of.nd) (dgs_cons (dg_name 4 sc_row_of.nd) dgs_nil)))
    (dss_one (ds_if (dt_eq (room_eq hr) (dv_df (df_var 3)) (dv_df (df_var 2)))
    (dss_one (ds_ret (de_df (df_var 4))))
    dss_nil)))
    (dss_one (ds_ret (de_df df_non))))
theorem ok_is_of (T : Txt K mg f fd cl) (G : Fns P w K mg base f fd n) : FnOk P w K mg base (L2.CX P w) (n + 1) (f 2) (fd 2) ["wood", "kind", "tree"] (spM K mg 3 (mir (n + 1) 2)) :=
  mk_fn (l := 3) (fb := b_is_of (mir n)) T.F_is_of sc_is_of rfl (fun _ => rfl) fun cdv A outer s H E hr =>
    (dss_cons (ds_set 3 sc_is_of.nd (de_df (df_de (de_call G.g_row_of (takes_of rfl rfl rfl rfl) hr rfl T.M_row_of T.F_row_of.kp T.B_row_of (da_cons (df_var 0) (da_cons (df_var 1) (da_cons (df_ix (dl_df (df_var 2)) (dv_df df_int)) da_nil))) (aCons_len (aCons_len (aCons_len (fun _ _ h => aNil_len h))))))))
    (dss_cons (ds_if (dt_dw (dw_or (dt_isN (dv_df (df_var 3)) (dv_df df_non)) (dw_or1 (dt_ne (room_eq hr) (dv_de (de_len rfl T.z_len (dal_cons (dl_df (df_var 3)) dal_nil))) (dv_de (de_len rfl T.z_len (dal_cons (dl_df (df_ix (dl_df (df_var 2)) (dv_df df_int))) dal_nil)))))))
    (dss_one (ds_ret (de_df df_bl)))
    dss_nil)
    (dss_cons (ds_for (ix := [4, 5]) (passes_of rfl) rfl (di_zip rfl T.z_zip (da_cons (df_var 3) (da_cons (df_ix (dl_df (df_var 2)) (dv_df df_int)) da_nil))) (dg_tup (n := 2) rfl (dgs_cons (dg_name 4 sc_is_of.nd) (dgs_cons (dg_name 5 sc_is_of.nd) dgs_nil)))
    (dss_one (ds_if (dt_not (dt_val (dv_de (de_call G.g_is_of (takes_of rfl rfl rfl rfl) hr rfl T.M_is_of T.F_is_of.kp T.B_is_of (da_cons (df_var 0) (da_cons (df_var 4) (da_cons (df_var 5) da_nil))) (aCons_len (aCons_len (aCons_len (fun _ _ h => aNil_len h))))))))
    (dss_one (ds_ret (de_df df_bl)))
    dss_nil)))
    (dss_one (ds_ret (de_df df_bl))))))
theorem ok_row_number (T : Txt K mg f fd cl) (G : Fns P w K mg base f fd n) : FnOk P w K mg base (L2.CX P w) (n + 1) (f 3) (fd 3) ["wood", "kind", "name"] (spM K mg 3 (mir (n + 1) 3)) :=
  mk_fn (l := 2) (fb := b_row_number (mir n)) T.F_row_number sc_row_number rfl (fun _ => rfl) fun cdv A outer s H E hr =>
    (dss_cons (ds_for (ix := [3, 4]) (passes_of rfl) rfl (di_enum rfl T.z_enumerate (da_cons (df_de (de_call G.g_rows_of (takes_of rfl rfl rfl rfl) hr rfl T.M_rows_of T.F_rows_of.kp T.B_rows_of (da_cons (df_var 0) (da_cons (df_var 1) da_nil)) (aCons_len (aCons_len (fun _ _ h => aNil_len h))))) da_nil)) (dg_tup (n := 2) rfl (dgs_cons (dg_name 3 sc_row_number.nd) (dgs_cons (dg_name 4 sc_row_number.nd) dgs_nil)))
    (dss_one (ds_if (dt_eq (room_eq hr) (dv_df (df_ix (dl_df (df_var 4)) (dv_df df_int))) (dv_df (df_var 2)))
    (dss_one (ds_ret (de_df (df_var 3))))
    dss_nil)))
    (dss_one (ds_ret (de_df df_non))))
theorem ok_rule_of (T : Txt K mg f fd cl) (G : Fns P w K mg base f fd n) : FnOk P w K mg base (L2.CX P w) (n + 1) (f 4) (fd 4) ["turning", "mode", "name"] (spM K mg 3 (mir (n + 1) 4)) :=
  mk_fn (l := 3) (fb := b_rule_of (mir n)) T.F_rule_of sc_rule_of rfl (fun _ => rfl) fun cdv A outer s H E hr =>
    (dss_cons (ds_asg (ix := [3, 4]) (df_ix (dl_df (df_ix (dl_df (df_var 0)) (dv_df df_int))) (dv_df (df_var 1))) (dg_tup (n := 2) rfl (dgs_cons (dg_name 3 sc_rule_of.nd) (dgs_cons (dg_name 4 sc_rule_of.nd) dgs_nil))))
    (dss_cons (ds_set 5 sc_rule_of.nd (de_df (df_de (de_call G.g_row_number (takes_of rfl rfl rfl rfl) hr rfl T.M_row_number T.F_row_number.kp T.B_row_number (da_cons (df_ix (dl_df (df_var 0)) (dv_df df_int)) (da_cons (df_var 3) (da_cons (df_var 2) da_nil))) (aCons_len (aCons_len (aCons_len (fun _ _ h => aNil_len h))))))))
    (dss_cons (ds_if (dt_isN (dv_df (df_var 5)) (dv_df df_non))
    (dss_one (ds_ret (de_df df_non)))
    dss_nil)
    (dss_one (ds_ret (de_df (df_ix (dl_df (df_var 4)) (dv_df (df_var 5)))))))))
theorem ok_look (T : Txt K mg f fd cl) (G : Fns P w K mg base f fd n) : FnOk P w K mg base (L2.CX P w) (n + 1) (f 5) (fd 5) ["turning", "kind", "tree"] (spM K mg 3 (mir (n + 1) 5)) :=
  mk_fn (l := 0) (fb := b_look (mir n)) T.F_look sc_look rfl (fun _ => rfl) fun cdv A outer s H E hr =>
    (dss_one (ds_if (dt_not (dt_val (dv_de (de_call G.g_is_of (takes_of rfl rfl rfl rfl) hr rfl T.M_is_of T.F_is_of.kp T.B_is_of (da_cons (df_ix (dl_df (df_var 0)) (dv_df df_int)) (da_cons (df_var 1) (da_cons (df_var 2) da_nil))) (aCons_len (aCons_len (aCons_len (fun _ _ h => aNil_len h))))))))
    (dss_one (ds_raise rfl (takes_of rfl rfl rfl rfl) T.cx_NoTree rfl))
    dss_nil))
theorem ok_above (T : Txt K mg f fd cl) (G : Fns P w K mg base f fd n) : FnOk P w K mg base (L2.CX P w) (n + 1) (f 6) (fd 6) ["tree"] (spM K mg 1 (mir (n + 1) 6)) :=
  mk_fn (l := 0) (fb := b_above (mir n)) T.F_above sc_above rfl (fun _ => rfl) fun cdv A outer s H E hr =>
    (dss_one (ds_ret (de_df (df_tup (da_cons df_str (da_cons df_int (da_cons (df_tup (da_cons (df_var 0) da_nil)) da_nil)))))))
theorem ok_mark_of (T : Txt K mg f fd cl) (G : Fns P w K mg base f fd n) : FnOk P w K mg base (L2.CX P w) (n + 1) (f 7) (fd 7) ["put", "read"] (spM K mg 2 (mir (n + 1) 7)) :=
  mk_fn (l := 0) (fb := b_mark_of (mir n)) T.F_mark_of sc_mark_of rfl (fun _ => rfl) fun cdv A outer s H E hr =>
    (dss_cons (ds_if (dt_val (dv_df (df_ix (dl_df (df_var 0)) (dv_df df_int))))
    (dss_one (ds_ret (de_add (dl_df (df_ix (dl_df (df_var 0)) (dv_df df_int))) (dl_df (df_ix (dl_df (df_var 1)) (dv_df df_int))))))
    dss_nil)
    (dss_one (ds_ret (de_df (df_ix (dl_df (df_var 0)) (dv_df df_int))))))
theorem ok_settled (T : Txt K mg f fd cl) (G : Fns P w K mg base f fd n) : FnOk P w K mg base (L2.CX P w) (n + 1) (f 8) (fd 8) ["turning", "term", "read"] (spM K mg 3 (mir (n + 1) 8)) :=
  mk_fn (l := 0) (fb := b_settled (mir n)) T.F_settled sc_settled rfl (fun _ => rfl) fun cdv A outer s H E hr =>
    (dss_cons (ds_while 1000000 (passes_of rfl) (dt_eq (room_eq hr) (dv_df (df_ix (dl_df (df_var 1)) (dv_df df_int))) (dv_df df_str))
    (dss_cons (ds_set 2 sc_settled.nd (de_df (df_ix (dl_df (df_ix (dl_df (df_var 2)) (dv_df df_int))) (dv_df (df_ix (dl_df (df_var 1)) (dv_df df_int))))))
    (dss_one (ds_set 1 sc_settled.nd (de_df (df_de (de_call G.g_rule_of (takes_of rfl rfl rfl rfl) hr rfl T.M_rule_of T.F_rule_of.kp T.B_rule_of (da_cons (df_var 0) (da_cons (df_ix (dl_df (df_var 1)) (dv_df df_int)) (da_cons (df_ix (dl_df (df_var 2)) (dv_df df_int)) da_nil))) (aCons_len (aCons_len (aCons_len (fun _ _ h => aNil_len h)))))))))))
    (dss_one (ds_ret (de_df (df_tup (da_cons (df_var 1) (da_cons (df_var 2) da_nil)))))))
theorem ok_seen_from (T : Txt K mg f fd cl) (G : Fns P w K mg base f fd n) : FnOk P w K mg base (L2.CX P w) (n + 1) (f 9) (fd 9) ["turning", "term", "read", "place"] (spM K mg 4 (mir (n + 1) 9)) :=
  mk_fn (l := 2) (fb := b_seen_from (mir n)) T.F_seen_from sc_seen_from rfl (fun _ => rfl) fun cdv A outer s H E hr =>
    (dss_cons (ds_asg (ix := [4, 2]) (df_de (de_call G.g_settled (takes_of rfl rfl rfl rfl) hr rfl T.M_settled T.F_settled.kp T.B_settled (da_cons (df_var 0) (da_cons (df_var 1) (da_cons (df_var 2) da_nil))) (aCons_len (aCons_len (aCons_len (fun _ _ h => aNil_len h)))))) (dg_tup (n := 2) rfl (dgs_cons (dg_name 4 sc_seen_from.nd) (dgs_cons (dg_name 2 sc_seen_from.nd) dgs_nil))))
    (dss_cons (ds_for (ix := [5]) (passes_of rfl) rfl (di_seq (df_var 3)) (dg_name 5 sc_seen_from.nd)
    (dss_cons (ds_if (dt_dw (dw_or (dt_lt (dv_df (df_var 5)) (dv_df df_int)) (dw_or1 (dt_ge (dv_df (df_var 5)) (dv_de (de_len rfl T.z_len (dal_cons (dl_df (df_ix (dl_df (df_var 4)) (dv_df df_int))) dal_nil)))))))
    (dss_one (ds_ret (de_df df_non)))
    dss_nil)
    (dss_one (ds_asg (ix := [4, 2]) (df_de (de_call G.g_settled (takes_of rfl rfl rfl rfl) hr rfl T.M_settled T.F_settled.kp T.B_settled (da_cons (df_var 0) (da_cons (df_ix (dl_df (df_ix (dl_df (df_var 4)) (dv_df df_int))) (dv_df (df_var 5))) (da_cons (df_var 2) da_nil))) (aCons_len (aCons_len (aCons_len (fun _ _ h => aNil_len h)))))) (dg_tup (n := 2) rfl (dgs_cons (dg_name 4 sc_seen_from.nd) (dgs_cons (dg_name 2 sc_seen_from.nd) dgs_nil)))))))
    (dss_one (ds_ret (de_df (df_tup (da_cons (df_ix (dl_df (df_var 4)) (dv_df df_int)) (da_cons (df_de (de_call G.g_mark_of (takes_of rfl rfl rfl rfl) hr rfl T.M_mark_of T.F_mark_of.kp T.B_mark_of (da_cons (df_var 4) (da_cons (df_var 2) da_nil)) (aCons_len (aCons_len (fun _ _ h => aNil_len h))))) (da_cons (df_de (de_len rfl T.z_len (dal_cons (dl_df (df_ix (dl_df (df_var 4)) (dv_df df_int))) dal_nil))) da_nil)))))))))
theorem ok_seen (T : Txt K mg f fd cl) (G : Fns P w K mg base f fd n) : FnOk P w K mg base (L2.CX P w) (n + 1) (f 10) (fd 10) ["turning", "tree", "place"] (spM K mg 3 (mir (n + 1) 10)) :=
  mk_fn (l := 0) (fb := b_seen (mir n)) T.F_seen sc_seen rfl (fun _ => rfl) fun cdv A outer s H E hr =>
    (dss_cons (ds_expr (df_de (de_call G.g_look (takes_of rfl rfl rfl rfl) hr rfl T.M_look T.F_look.kp T.B_look (da_cons (df_var 0) (da_cons (df_ix (dl_df (df_ix (dl_df (df_ix (dl_df (df_var 0)) (dv_df df_int))) (dv_df df_int))) (dv_df df_int)) (da_cons (df_var 1) da_nil))) (aCons_len (aCons_len (aCons_len (fun _ _ h => aNil_len h)))))))
    (dss_one (ds_ret (de_call G.g_seen_from (takes_of rfl rfl rfl rfl) hr rfl T.M_seen_from T.F_seen_from.kp T.B_seen_from (da_cons (df_var 0) (da_cons (df_ix (dl_df (df_var 0)) (dv_df df_int)) (da_cons (df_de (de_call G.g_above (takes_of rfl rfl rfl rfl) hr rfl T.M_above T.F_above.kp T.B_above (da_cons (df_var 1) da_nil) (aCons_len (fun _ _ h => aNil_len h)))) (da_cons (df_var 2) da_nil)))) (aCons_len (aCons_len (aCons_len (aCons_len (fun _ _ h => aNil_len h)))))))))
theorem ok_seen_in (T : Txt K mg f fd cl) (G : Fns P w K mg base f fd n) : FnOk P w K mg base (L2.CX P w) (n + 1) (f 11) (fd 11) ["turning", "mode", "tree", "place"] (spM K mg 4 (mir (n + 1) 11)) :=
  mk_fn (l := 0) (fb := b_seen_in (mir n)) T.F_seen_in sc_seen_in rfl (fun _ => rfl) fun cdv A outer s H E hr =>
    (dss_cons (ds_expr (df_de (de_call G.g_look (takes_of rfl rfl rfl rfl) hr rfl T.M_look T.F_look.kp T.B_look (da_cons (df_var 0) (da_cons (df_ix (dl_df (df_ix (dl_df (df_ix (dl_df (df_var 0)) (dv_df df_int))) (dv_df (df_var 1)))) (dv_df df_int)) (da_cons (df_var 2) da_nil))) (aCons_len (aCons_len (aCons_len (fun _ _ h => aNil_len h)))))))
    (dss_one (ds_ret (de_call G.g_seen_from (takes_of rfl rfl rfl rfl) hr rfl T.M_seen_from T.F_seen_from.kp T.B_seen_from (da_cons (df_var 0) (da_cons (df_tup (da_cons df_str (da_cons (df_var 1) (da_cons df_int da_nil)))) (da_cons (df_de (de_call G.g_above (takes_of rfl rfl rfl rfl) hr rfl T.M_above T.F_above.kp T.B_above (da_cons (df_var 2) da_nil) (aCons_len (fun _ _ h => aNil_len h)))) (da_cons (df_var 3) da_nil)))) (aCons_len (aCons_len (aCons_len (aCons_len (fun _ _ h => aNil_len h)))))))))
theorem ok__law_cell_at (T : Txt K mg f fd cl) (G : Fns P w K mg base f fd n) : FnOk P w K mg base (L2.CX P w) (n + 1) (f 12) (fd 12) ["_law_script", "_law_k"] (spM K mg 2 (mir (n + 1) 12)) :=
  mk_fn (l := 0) (fb := b__law_cell_at (mir n)) T.F__law_cell_at sc__law_cell_at rfl (fun _ => rfl) fun cdv A outer s H E hr =>
    (dss_cons (ds_if (dt_lt (dv_df (df_var 1)) (dv_de (de_len rfl T.z_len (dal_cons (dl_df (df_var 0)) dal_nil))))
    (dss_one (ds_ret (de_df (df_ix (dl_df (df_var 0)) (dv_df (df_var 1))))))
    dss_nil)
    (dss_one (ds_ret (de_df df_int))))
theorem ok__law_mixed (T : Txt K mg f fd cl) (G : Fns P w K mg base f fd n) : FnOk P w K mg base (L2.CX P w) (n + 1) (f 13) (fd 13) ["_law_cell", "_law_k"] (spM K mg 2 (mir (n + 1) 13)) :=
  mk_fn (l := 1) (fb := b__law_mixed (mir n)) T.F__law_mixed sc__law_mixed rfl (fun _ => rfl) fun cdv A outer s H E hr =>
    (dss_cons (ds_set 2 sc__law_mixed.nd (de_df (df_de (de_add (dl_df (df_mod (dv_df (df_var 0)) (dv_df df_int))) (dl_df (df_mul (dv_df df_int) (dv_de (de_add (dl_df (df_var 1)) (dl_df df_int)))))))))
    (dss_cons (ds_set 2 sc__law_mixed.nd (de_df (df_mod (dv_de (de_add (dl_df (df_mul (dv_df (df_var 2)) (dv_df (df_var 2)))) (dl_df (df_mul (dv_df df_int) (dv_df (df_var 1)))))) (dv_df df_int))))
    (dss_one (ds_ret (de_df (df_mod (dv_de (de_add (dl_de (de_add (dl_df (df_mul (dv_df (df_var 2)) (dv_df (df_var 2)))) (dl_df (df_mul (dv_df df_int) (dv_df (df_var 1)))))) (dl_df df_int))) (dv_df df_int)))))))
theorem ok__law_names (T : Txt K mg f fd cl) (G : Fns P w K mg base f fd n) : FnOk P w K mg base (L2.CX P w) (n + 1) (f 14) (fd 14) ["_law_cell"] (spM K mg 1 (mir (n + 1) 14)) :=
  mk_fn (l := 8) (fb := b__law_names (mir n)) T.F__law_names sc__law_names rfl (fun _ => rfl) fun cdv A outer s H E hr =>
    (dss_cons (ds_set 1 sc__law_names.nd (de_df df_str))
    (dss_cons (ds_set 2 sc__law_names.nd (de_df (df_de (de_lc (own := [("_law_j", 3)]) (ix := [3]) rfl sc__law_names.nd (di_range1 rfl T.z_range (da_cons df_int da_nil)) (blkOk_by (N := N__law_names) (sc := defScope s__law_names) (by decide +kernel)) (fun _ _ _ _ _ => (dg_name 3 sc__law_names.nd)) (fun _ _ _ _ _ => dts_nil) (fun _ _ _ _ _ => (de_df (df_mod (dv_de (de_call G.g__law_mixed takes0 hr rfl T.M__law_mixed T.F__law_mixed.kp T.B__law_mixed (da_cons (df_var 0) (da_cons (df_var 3) da_nil)) (aCons_len (aCons_len (fun _ _ h => aNil_len h))))) (dv_df df_int))))))))
    (dss_cons (ds_if (dt_eq (room_eq hr) (dv_df (df_mod (dv_df (df_div (dv_df (df_var 0)) (dv_df df_int))) (dv_df df_int))) (dv_df df_int))
    (dss_one (ds_ret (de_lc (own := [("_law_k", 4)]) (ix := [4]) rfl sc__law_names.nd (di_range1 rfl T.z_range (da_cons df_int da_nil)) (blkOk_by (N := N__law_names) (sc := defScope s__law_names) (by decide +kernel)) (fun _ _ _ _ _ => (dg_name 4 sc__law_names.nd)) (fun _ _ _ _ _ => dts_nil) (fun _ _ _ _ _ => (de_df (df_join (dv_df df_str) (dl_de (de_lc (own := [("_law_j", 3)]) (ix := [3]) rfl sc__law_names.nd (di_seq (df_de (de_slice (dl_df (df_var 2)) do_none (do_some (dv_de (de_add (dl_df (df_var 4)) (dl_df df_int))))))) (blkOk_by (by kernel_rfl)) (fun _ _ _ _ _ => (dg_name 3 sc__law_names.nd)) (fun _ _ _ _ _ => dts_nil) (fun _ _ _ _ _ => (de_df (df_ix (dl_df (df_var 1)) (dv_df (df_var 3)))))))))))))
    dss_nil)
    (dss_cons (ds_set 5 sc__law_names.nd (de_df (df_de (de_add (dl_df df_int) (dl_df (df_mod (dv_df (df_var 0)) (dv_df df_int)))))))
    (dss_cons (ds_set 6 sc__law_names.nd (de_df (df_mod (dv_df (df_div (dv_df (df_var 0)) (dv_df df_int))) (dv_df (df_var 5)))))
    (dss_cons (ds_set 7 sc__law_names.nd (de_lst da_nil))
    (dss_cons (ds_for (ix := [4]) (passes_of rfl) rfl (di_range1 rfl T.z_range (da_cons df_int da_nil)) (dg_name 4 sc__law_names.nd)
    (dss_cons (ds_set 8 sc__law_names.nd (de_slice (dl_df (df_var 2)) do_none (do_some (dv_df (df_var 5)))))
    (dss_cons (ds_put 8 (de_df (df_mod (dv_de (de_add (dl_df (df_ix (dl_dp (dp_var 8)) (dv_df (df_var 6)))) (dl_df (df_var 4)))) (dv_df df_int))) (df_var 6))
    (dss_one (ds_frz 8 (ds_app 7 (de_df (df_join (dv_df df_str) (dl_de (de_lc (own := [("_law_j", 3)]) (ix := [3]) rfl sc__law_names.nd (di_seq (df_var 8)) (blkOk_by (N := N__law_names) (sc := defScope s__law_names) (by decide +kernel)) (fun _ _ _ _ _ => (dg_name 3 sc__law_names.nd)) (fun _ _ _ _ _ => dts_nil) (fun _ _ _ _ _ => (de_df (df_ix (dl_df (df_var 1)) (dv_df (df_var 3)))))))))))))))
    (dss_one (ds_retV 7)))))))))
theorem ok__law_great (T : Txt K mg f fd cl) (G : Fns P w K mg base f fd n) : FnOk P w K mg base (L2.CX P w) (n + 1) (f 15) (fd 15) ["_law_cell"] (spM K mg 1 (mir (n + 1) 15)) :=
  mk_fn (l := 0) (fb := b__law_great (mir n)) T.F__law_great sc__law_great rfl (fun _ => rfl) fun cdv A outer s H E hr =>
    (dss_one (ds_ret (de_df (df_sub (dv_df (df_mod (dv_df (df_var 0)) (dv_de (de_add (dl_df (df_mul (dv_df df_int) (dv_df (df_pow (dv_df df_int) (dv_df df_int))))) (dl_df df_int))))) (dv_df (df_pow (dv_df df_int) (dv_df df_int)))))))
theorem ok__law_wood (T : Txt K mg f fd cl) (G : Fns P w K mg base f fd n) : FnOk P w K mg base (L2.CX P w) (n + 1) (f 16) (fd 16) ["_law_cell", "_law_names_here"] (spM K mg 2 (mir (n + 1) 16)) :=
  mk_fn (l := 10) (fb := b__law_wood (mir n)) T.F__law_wood sc__law_wood rfl (fun _ => rfl) fun cdv A outer s H E hr =>
    (dss_cons (ds_set 2 sc__law_wood.nd (de_df (df_de (de_slice (dl_df (df_var 1)) do_none (do_some (dv_de (de_add (dl_df df_int) (dl_df (df_mod (dv_df (df_var 0)) (dv_df df_int))))))))))
    (dss_cons (ds_set 3 sc__law_wood.nd (de_lst da_nil))
    (dss_cons (ds_for (ix := [4]) (passes_of rfl) rfl (di_range1 rfl T.z_range (da_cons (df_de (de_len rfl T.z_len (dal_cons (dl_df (df_var 2)) dal_nil))) da_nil)) (dg_name 4 sc__law_wood.nd)
    (dss_cons (ds_set 5 sc__law_wood.nd (de_df (df_de (de_call G.g__law_mixed (takes_of rfl rfl rfl rfl) hr rfl T.M__law_mixed T.F__law_mixed.kp T.B__law_mixed (da_cons (df_var 0) (da_cons (df_var 4) da_nil)) (aCons_len (aCons_len (fun _ _ h => aNil_len h)))))))
    (dss_cons (ds_set 6 sc__law_wood.nd (de_lst da_nil))
    (dss_cons (ds_for (ix := [7]) (passes_of rfl) rfl (di_range1 rfl T.z_range (da_cons (df_sub (dv_de (de_add (dl_df df_int) (dl_df (df_mod (dv_df (df_var 5)) (dv_df df_int))))) (dv_de (de_int rfl T.z_int (dal_cons (dl_df (df_and (dv_df (df_gt (dv_df (df_var 4)) (dv_df df_int))) (df_one (df_eq (room_eq hr) (dv_df (df_mod (dv_df (df_div (dv_df (df_var 5)) (dv_df df_int))) (dv_df df_int))) (dv_df df_int))))) dal_nil)))) da_nil)) (dg_name 7 sc__law_wood.nd)
    (dss_cons (ds_set 8 sc__law_wood.nd (de_df (df_de (de_call G.g__law_mixed (takes_of rfl rfl rfl rfl) hr rfl T.M__law_mixed T.F__law_mixed.kp T.B__law_mixed (da_cons (df_var 0) (da_cons (df_de (de_add (dl_de (de_add (dl_df df_int) (dl_df (df_mul (dv_df df_int) (dv_df (df_var 4)))))) (dl_df (df_var 7)))) da_nil)) (aCons_len (aCons_len (fun _ _ h => aNil_len h)))))))
    (dss_cons (ds_set 9 sc__law_wood.nd (de_df (df_ix (dl_de (de_lst (da_cons df_int (da_cons (df_de (de_add (dl_df df_int) (dl_df (df_mod (dv_df (df_var 8)) (dv_df df_int))))) (da_cons (df_mod (dv_df (df_var 8)) (dv_df df_int)) da_nil))))) (dv_df (df_var 7)))))
    (dss_cons (ds_setLcF 10 (own := [("_law_j", 11)]) (ix := [11]) rfl sc__law_wood.nd (di_range1 rfl T.z_range (da_cons (df_var 9) da_nil)) (blkOk_by (N := N__law_wood) (sc := defScope s__law_wood) (by decide +kernel)) (fun _ _ _ _ _ => (dg_name 11 sc__law_wood.nd)) (fun _ _ _ _ _ => dts_nil) (fun _ _ _ _ _ => (de_df (df_ix (dl_df (df_var 2)) (dv_df (df_mod (dv_de (de_call G.g__law_mixed takes0 hr rfl T.M__law_mixed T.F__law_mixed.kp T.B__law_mixed (da_cons (df_var 8) (da_cons (df_var 11) da_nil)) (aCons_len (aCons_len (fun _ _ h => aNil_len h))))) (dv_de (de_len rfl T.z_len (dal_cons (dl_df (df_var 2)) dal_nil)))))))))
    (dss_one (ds_app 6 (de_df (df_tup (da_cons (df_ix (dl_df (df_var 1)) (dv_df (df_mod (dv_de (de_add (dl_df (df_div (dv_df (df_var 5)) (dv_df df_int))) (dl_df (df_var 7)))) (dv_df df_int)))) (da_cons (df_de (de_tuple rfl T.z_tuple (dal_cons (dl_df (df_var 10)) dal_nil))) da_nil))))))))))
    (dss_one (ds_app 3 (de_df (df_tup (da_cons (df_ix (dl_df (df_var 2)) (dv_df (df_var 4))) (da_cons (df_de (de_sorted (room_eq hr) rfl T.z_sorted (dal_cons (dl_dp (dp_var 6)) dal_nil))) da_nil))))))))))
    (dss_one (ds_retV 3)))))
theorem ok__law_term (T : Txt K mg f fd cl) (G : Fns P w K mg base f fd n) : FnOk P w K mg base (L2.CX P w) (n + 1) (f 17) (fd 17) ["_law_cell", "_law_k", "_law_deep", "_law_calls_here", "_law_names_here", "_law_keep"] (spM K mg 6 (mir (n + 1) 17)) :=
  mk_fn (l := 6) (fb := b__law_term (mir n)) T.F__law_term sc__law_term rfl (fun _ => rfl) fun cdv A outer s H E hr =>
    (dss_cons (ds_set 6 sc__law_term.nd (de_df (df_de (de_call G.g__law_mixed (takes_of rfl rfl rfl rfl) hr rfl T.M__law_mixed T.F__law_mixed.kp T.B__law_mixed (da_cons (df_var 0) (da_cons (df_var 1) da_nil)) (aCons_len (aCons_len (fun _ _ h => aNil_len h)))))))
    (dss_cons (ds_if (dt_dw (dw_and (dt_ne (room_eq hr) (dv_df (df_var 3)) (dv_de (de_lst da_nil))) (dw_and1 (dt_lt (dv_df (df_mod (dv_df (df_var 6)) (dv_df df_int))) (dv_df df_int)))))
    (dss_one (ds_ret (de_add (dl_df (df_tup (da_cons df_str da_nil))) (dl_df (df_ix (dl_df (df_var 3)) (dv_df (df_mod (dv_df (df_div (dv_df (df_var 6)) (dv_df df_int))) (dv_de (de_len rfl T.z_len (dal_cons (dl_df (df_var 3)) dal_nil))))))))))
    dss_nil)
    (dss_cons (ds_set 7 sc__law_term.nd (de_df df_int))
    (dss_cons (ds_if (dt_gt (dv_df (df_var 2)) (dv_df df_int))
    (dss_one (ds_set 7 sc__law_term.nd (de_df (df_de (de_add (dl_df (df_sub (dv_df (df_var 2)) (dv_df df_int))) (dl_df (df_mod (dv_df (df_div (dv_df (df_var 6)) (dv_df df_int))) (dv_df (df_sub (dv_df df_int) (dv_df (df_var 2)))))))))))
    dss_nil)
    (dss_cons (ds_setLcF 8 (own := [("_law_j", 9)]) (ix := [9]) rfl sc__law_term.nd (di_range1 rfl T.z_range (da_cons (df_var 7) da_nil)) (blkOk_by (N := N__law_term) (sc := defScope s__law_term) (by decide +kernel)) (fun _ _ _ _ _ => (dg_name 9 sc__law_term.nd)) (fun _ _ _ _ _ => dts_nil) (fun _ _ _ _ _ => (de_call G.g__law_term takes0 hr rfl T.M__law_term T.F__law_term.kp T.B__law_term (da_cons (df_var 0) (da_cons (df_de (de_add (dl_de (de_add (dl_df (df_mul (dv_df df_int) (dv_df (df_var 1)))) (dl_df (df_var 9)))) (dl_df df_int))) (da_cons (df_sub (dv_df (df_var 2)) (dv_df df_int)) (da_cons (df_var 3) (da_cons (df_var 4) (da_cons (df_var 5) da_nil)))))) (aCons_len (aCons_len (aCons_len (aCons_len (aCons_len (aCons_len (fun _ _ h => aNil_len h))))))))))
    (dss_cons (ds_set 10 sc__law_term.nd (de_df (df_and (dv_df (df_var 5)) (df_one (df_eq (room_eq hr) (dv_df (df_mod (dv_df (df_div (dv_df (df_var 6)) (dv_df df_int))) (dv_df df_int))) (dv_df df_int))))))
    (dss_cons (ds_set 11 sc__law_term.nd (de_df (df_ix (dl_de (de_lst (da_cons df_int (da_cons (df_sub (dv_df (df_mod (dv_df (df_div (dv_df (df_var 6)) (dv_df df_int))) (dv_df df_int))) (dv_df df_int)) (da_cons (df_de (de_call G.g__law_great (takes_of rfl rfl rfl rfl) hr rfl T.M__law_great T.F__law_great.kp T.B__law_great (da_cons (df_var 0) da_nil) (aCons_len (fun _ _ h => aNil_len h)))) da_nil))))) (dv_df (df_mod (dv_df (df_div (dv_df (df_var 6)) (dv_df df_int))) (dv_df df_int))))))
    (dss_one (ds_ret (de_df (df_tup (da_cons df_str (da_cons (df_ix (dl_df (df_var 4)) (dv_df (df_mod (dv_df (df_div (dv_df (df_var 6)) (dv_df df_int))) (dv_df df_int)))) (da_cons (df_var 10) (da_cons (df_var 11) (da_cons (df_de (de_tuple rfl T.z_tuple (dal_cons (dl_df (df_var 8)) dal_nil))) da_nil))))))))))))))))
theorem ok__law_calls (T : Txt K mg f fd cl) (G : Fns P w K mg base f fd n) : FnOk P w K mg base (L2.CX P w) (n + 1) (f 18) (fd 18) ["_law_branches", "_law_owners"] (spM K mg 2 (mir (n + 1) 18)) :=
  mk_fn (l := 3) (fb := b__law_calls (mir n)) T.F__law_calls sc__law_calls rfl (fun _ => rfl) fun cdv A outer s H E hr =>
    (dss_cons (ds_set 2 sc__law_calls.nd (de_lst da_nil))
    (dss_cons (ds_for (ix := [3]) (passes_of rfl) rfl (di_range1 rfl T.z_range (da_cons (df_de (de_len rfl T.z_len (dal_cons (dl_df (df_var 0)) dal_nil))) da_nil)) (dg_name 3 sc__law_calls.nd)
    (dss_one (ds_ext 2 (dl_de (de_lc (own := [("_law_mode", 4)]) (ix := [4]) rfl sc__law_calls.nd (di_range1 rfl T.z_range (da_cons (df_de (de_len rfl T.z_len (dal_cons (dl_df (df_var 1)) dal_nil))) da_nil)) (blkOk_by (N := N__law_calls) (sc := defScope s__law_calls) (by decide +kernel)) (fun _ _ _ _ _ => (dg_name 4 sc__law_calls.nd)) (fun _ _ _ _ _ => (dts_one (dt_eq (room_eq hr) (dv_df (df_ix (dl_df (df_var 1)) (dv_df (df_var 4)))) (dv_df (df_ix (dl_df (df_var 0)) (dv_df (df_var 3))))))) (fun _ _ _ _ _ => (de_df (df_tup (da_cons (df_var 4) (da_cons (df_var 3) da_nil))))))))))
    (dss_one (ds_retV 2))))
theorem ok__law_turning (T : Txt K mg f fd cl) (G : Fns P w K mg base f fd n) : FnOk P w K mg base (L2.CX P w) (n + 1) (f 19) (fd 19) ["_law_script", "_law_wood_here", "_law_names_here"] (spM K mg 3 (mir (n + 1) 19)) :=
  mk_fn (l := 12) (fb := b__law_turning (mir n)) T.F__law_turning sc__law_turning rfl (fun _ => rfl) fun cdv A outer s H E hr =>
    (dss_cons (ds_set 3 sc__law_turning.nd (de_df (df_de (de_lc (own := [("_law_kind", 4), ("_law_rows", 5)]) (ix := [4, 5]) rfl sc__law_turning.nd (di_seq (df_var 1)) (blkOk_by (N := N__law_turning) (sc := defScope s__law_turning) (by decide +kernel)) (fun _ _ _ _ _ => (dg_tup (n := 2) rfl (dgs_cons (dg_name 4 sc__law_turning.nd) (dgs_cons (dg_name 5 sc__law_turning.nd) dgs_nil)))) (fun _ _ _ _ _ => dts_nil) (fun _ _ _ _ _ => (de_df (df_var 4)))))))
    (dss_cons (ds_set 6 sc__law_turning.nd (de_df (df_de (de_call G.g__law_cell_at (takes_of rfl rfl rfl rfl) hr rfl T.M__law_cell_at T.F__law_cell_at.kp T.B__law_cell_at (da_cons (df_var 0) (da_cons df_int da_nil)) (aCons_len (aCons_len (fun _ _ h => aNil_len h)))))))
    (dss_cons (ds_set 7 sc__law_turning.nd (de_df (df_de (de_add (dl_de (de_lst (da_cons (df_ix (dl_df (df_var 3)) (dv_df df_int)) da_nil))) (dl_de (de_lc (own := [("_law_i", 8)]) (ix := [8]) rfl sc__law_turning.nd (di_range1 rfl T.z_range (da_cons (df_mod (dv_df (df_var 6)) (dv_df df_int)) da_nil)) (blkOk_by (N := N__law_turning) (sc := defScope s__law_turning) (by decide +kernel)) (fun _ _ _ _ _ => (dg_name 8 sc__law_turning.nd)) (fun _ _ _ _ _ => dts_nil) (fun _ _ _ _ _ => (de_df (df_ix (dl_df (df_var 3)) (dv_df (df_mod (dv_de (de_call G.g__law_mixed takes0 hr rfl T.M__law_mixed T.F__law_mixed.kp T.B__law_mixed (da_cons (df_var 6) (da_cons (df_var 8) da_nil)) (aCons_len (aCons_len (fun _ _ h => aNil_len h))))) (dv_de (de_len rfl T.z_len (dal_cons (dl_df (df_var 3)) dal_nil))))))))))))))
    (dss_cons (ds_set 9 sc__law_turning.nd (de_lst da_nil))
    (dss_cons (ds_set 10 sc__law_turning.nd (de_df df_int))
    (dss_cons (ds_for (ix := [4]) (passes_of rfl) rfl (di_seq (df_var 7)) (dg_name 4 sc__law_turning.nd)
    (dss_cons (ds_set 11 sc__law_turning.nd (de_lst da_nil))
    (dss_cons (ds_for (ix := [12]) (passes_of rfl) rfl (di_seq (df_dictIx rfl (room_eq hr) rfl T.z_dict (dl_df (df_var 1)) (dv_df (df_var 4)))) (dg_name 12 sc__law_turning.nd)
    (dss_cons (ds_set 13 sc__law_turning.nd (de_df (df_de (de_call G.g__law_calls (takes_of rfl rfl rfl rfl) hr rfl T.M__law_calls T.F__law_calls.kp T.B__law_calls (da_cons (df_ix (dl_df (df_var 12)) (dv_df df_int)) (da_cons (df_var 7) da_nil)) (aCons_len (aCons_len (fun _ _ h => aNil_len h)))))))
    (dss_cons (ds_app 11 (de_call G.g__law_term (takes_of rfl rfl rfl rfl) hr rfl T.M__law_term T.F__law_term.kp T.B__law_term (da_cons (df_de (de_call G.g__law_cell_at (takes_of rfl rfl rfl rfl) hr rfl T.M__law_cell_at T.F__law_cell_at.kp T.B__law_cell_at (da_cons (df_var 0) (da_cons (df_var 10) da_nil)) (aCons_len (aCons_len (fun _ _ h => aNil_len h))))) (da_cons df_int (da_cons df_int (da_cons (df_var 13) (da_cons (df_var 2) (da_cons df_bl da_nil)))))) (aCons_len (aCons_len (aCons_len (aCons_len (aCons_len (aCons_len (fun _ _ h => aNil_len h)))))))))
    (dss_one (ds_set 10 sc__law_turning.nd (de_df (df_de (de_add (dl_df (df_var 10)) (dl_df df_int)))))))))
    (dss_one (ds_frz 11 (ds_app 9 (de_df (df_tup (da_cons (df_var 4) (da_cons (df_var 11) da_nil))))))))))
    (dss_cons (ds_set 14 sc__law_turning.nd (de_df (df_de (de_call G.g__law_term (takes_of rfl rfl rfl rfl) hr rfl T.M__law_term T.F__law_term.kp T.B__law_term (da_cons (df_de (de_call G.g__law_cell_at (takes_of rfl rfl rfl rfl) hr rfl T.M__law_cell_at T.F__law_cell_at.kp T.B__law_cell_at (da_cons (df_var 0) (da_cons df_int da_nil)) (aCons_len (aCons_len (fun _ _ h => aNil_len h))))) (da_cons df_int (da_cons df_int (da_cons (df_de (de_call G.g__law_calls (takes_of rfl rfl rfl rfl) hr rfl T.M__law_calls T.F__law_calls.kp T.B__law_calls (da_cons (df_de (de_lst (da_cons (df_ix (dl_df (df_var 3)) (dv_df df_int)) da_nil))) (da_cons (df_var 7) da_nil)) (aCons_len (aCons_len (fun _ _ h => aNil_len h))))) (da_cons (df_var 2) (da_cons df_bl da_nil)))))) (aCons_len (aCons_len (aCons_len (aCons_len (aCons_len (aCons_len (fun _ _ h => aNil_len h)))))))))))
    (dss_one (ds_frz 9 (ds_ret (de_df (df_tup (da_cons (df_var 1) (da_cons (df_var 14) (da_cons (df_var 9) da_nil)))))))))))))))
theorem ok__law_mark (T : Txt K mg f fd cl) (G : Fns P w K mg base f fd n) : FnOk P w K mg base (L2.CX P w) (n + 1) (f 20) (fd 20) ["_law_cell", "_law_number"] (spM K mg 2 (mir (n + 1) 20)) :=
  mk_fn (l := 0) (fb := b__law_mark (mir n)) T.F__law_mark sc__law_mark rfl (fun _ => rfl) fun cdv A outer s H E hr =>
    (dss_one (ds_ret (de_df (df_ix (dl_de (de_lst (da_cons df_int (da_cons (df_sub (dv_df (df_mod (dv_df (df_div (dv_df (df_var 1)) (dv_df df_int))) (dv_df df_int))) (dv_df df_int)) (da_cons (df_de (de_call G.g__law_great (takes_of rfl rfl rfl rfl) hr rfl T.M__law_great T.F__law_great.kp T.B__law_great (da_cons (df_var 0) da_nil) (aCons_len (fun _ _ h => aNil_len h)))) da_nil))))) (dv_df (df_mod (dv_df (df_div (dv_df (df_var 1)) (dv_df df_int))) (dv_df df_int)))))))
theorem ok__law_grown (T : Txt K mg f fd cl) (G : Fns P w K mg base f fd n) : FnOk P w K mg base (L2.CX P w) (n + 1) (f 21) (fd 21) ["_law_wood_here", "_law_cells", "_law_top"] (spM K mg 3 (mir (n + 1) 21)) :=
  mk_fn (l := 9) (fb := b__law_grown (mir n)) T.F__law_grown sc__law_grown rfl (fun _ => rfl) fun cdv A outer s H E hr =>
    (dss_cons (ds_set 3 sc__law_grown.nd (de_dictOf rfl rfl T.z_dict (dl_df (df_var 0))))
    (dss_cons (ds_set 4 sc__law_grown.nd (de_lstO (dao_cons (de_lstO (dao_cons (de_df (df_ix (dl_df (df_ix (dl_df (df_var 0)) (dv_df df_int))) (dv_df df_int))) (dao_cons (de_df df_int) (dao_cons (de_df df_non) (dao_cons (de_df df_int) (dao_cons (de_lst da_nil) dao_nil)))))) dao_nil)))
    (dss_cons (ds_set 5 sc__law_grown.nd (de_lst (da_cons df_int da_nil)))
    (dss_cons (ds_for (ix := [6]) (passes_of rfl) rfl (di_seq (df_var 1)) (dg_name 6 sc__law_grown.nd)
    (dss_cons (ds_set 7 sc__law_grown.nd (de_df (df_de (de_call G.g__law_mixed (takes_of rfl rfl rfl rfl) hr rfl T.M__law_mixed T.F__law_mixed.kp T.B__law_mixed (da_cons (df_var 6) (da_cons df_int da_nil)) (aCons_len (aCons_len (fun _ _ h => aNil_len h)))))))
    (dss_cons (ds_set 8 sc__law_grown.nd (de_df (df_mod (dv_df (df_var 7)) (dv_df (df_lenO rfl T.z_len (dp_var 4))))))
    (dss_cons (ds_set 9 sc__law_grown.nd (de_df (df_de (de_lst da_nil))))
    (dss_cons (ds_if (dt_ne (room_eq hr) (dv_dp (dp_var 5)) (dv_de (de_lst da_nil)))
    (dss_cons (ds_xset 8 sc__law_grown.nd (xf_popAt 5 (dv_df (df_ix (dl_de (de_lst (da_cons (df_mod (dv_df (df_div (dv_df (df_var 7)) (dv_df df_int))) (dv_de (de_len rfl T.z_len (dal_cons (dl_dp (dp_var 5)) dal_nil)))) (da_cons (df_sub (dv_de (de_len rfl T.z_len (dal_cons (dl_dp (dp_var 5)) dal_nil))) (dv_df df_int)) da_nil)))) (dv_df (df_mod (dv_df (df_var 7)) (dv_df df_int)))))))
    (dss_one (ds_setLcF 9 (own := [("_law_row", 10)]) (ix := [10]) rfl sc__law_grown.nd (di_seq (df_getM 3 (room_eq hr) (dv_dp (dp_ix (dp_ix (dp_var 4) (dv_df (df_var 8))) (dv_df df_int))))) (blkOk_by (N := N__law_grown) (sc := defScope s__law_grown) (by decide +kernel)) (fun _ _ _ _ _ => (dg_name 10 sc__law_grown.nd)) (fun _ _ _ _ _ => (dts_one (dt_dw (dw_and (dt_ne (room_eq hr) (dv_df (df_ix (dl_df (df_var 10)) (dv_df df_int))) (dv_df (df_tup da_nil))) (dw_and1 (dt_lt (dv_dp (dp_ix (dp_ix (dp_var 4) (dv_df (df_var 8))) (dv_df df_int))) (dv_df (df_var 2)))))))) (fun _ _ _ _ _ => (de_df (df_var 10))))))
    dss_nil)
    (dss_cons (ds_if (dt_ne (room_eq hr) (dv_df (df_var 9)) (dv_de (de_lst da_nil)))
    (dss_cons (ds_put1 4 (dv_df (df_var 8)) (dv_df df_int) (de_df (df_ix (dl_df (df_var 9)) (dv_df (df_mod (dv_df (df_div (dv_df (df_var 7)) (dv_df df_int))) (dv_de (de_len rfl T.z_len (dal_cons (dl_df (df_var 9)) dal_nil))))))))
    (dss_one (ds_for (ix := [11]) (passes_of rfl) rfl (di_seq (df_ix (dl_dp (dp_ix (dp_ix (dp_var 4) (dv_df (df_var 8))) (dv_df df_int))) (dv_df df_int))) (dg_name 11 sc__law_grown.nd)
    (dss_cons (ds_app2 4 (dv_df (df_var 8)) (dv_df df_int) (de_df (df_lenO rfl T.z_len (dp_var 4))))
    (dss_cons (ds_app 5 (de_df (df_lenO rfl T.z_len (dp_var 4))))
    (dss_one (ds_app 4 (de_lstO (dao_cons (de_df (df_var 11)) (dao_cons (de_add (dl_dp (dp_ix (dp_ix (dp_var 4) (dv_df (df_var 8))) (dv_df df_int))) (dl_df df_int)) (dao_cons (de_df df_non) (dao_cons (de_df (df_sub (dv_df (df_mod (dv_df (df_div (dv_df (df_var 7)) (dv_de (de_add (dl_df df_int) (dl_df (df_lenO rfl T.z_len (dp_var 4))))))) (dv_df df_int))) (dv_df df_int))) (dao_cons (de_lst da_nil) dao_nil)))))))))))))
    dss_nil)
    (dss_one (ds_put1 4 (dv_df (df_var 8)) (dv_df df_int) (de_call G.g__law_mark (takes_of rfl rfl rfl rfl) hr rfl T.M__law_mark T.F__law_mark.kp T.B__law_mark (da_cons (df_var 6) (da_cons (df_var 7) da_nil)) (aCons_len (aCons_len (fun _ _ h => aNil_len h))))))))))))
    (dss_one (ds_retV 4))))))
theorem ok__law_built (T : Txt K mg f fd cl) (G : Fns P w K mg base f fd n) : FnOk P w K mg base (L2.CX P w) (n + 1) (f 22) (fd 22) ["_law_wood_here", "_law_nodes"] (spM K mg 2 (mir (n + 1) 22)) :=
  mk_fn (l := 7) (fb := b__law_built (mir n)) T.F__law_built sc__law_built rfl (fun _ => rfl) fun cdv A outer s H E hr =>
    (dss_cons (ds_set 2 sc__law_built.nd (de_lc (own := [("_law_node", 3)]) (ix := [3]) rfl sc__law_built.nd (di_seq (df_var 1)) (blkOk_by (N := N__law_built) (sc := defScope s__law_built) (by decide +kernel)) (fun _ _ _ _ _ => (dg_name 3 sc__law_built.nd)) (fun _ _ _ _ _ => dts_nil) (fun _ _ _ _ _ => (de_df df_non))))
    (dss_cons (ds_for (ix := [4]) (passes_of rfl) rfl (di_revRange rfl T.z_reversed rfl T.z_range (dv_de (de_len rfl T.z_len (dal_cons (dl_df (df_var 1)) dal_nil)))) (dg_name 4 sc__law_built.nd)
    (dss_cons (ds_set 5 sc__law_built.nd (de_df (df_ix (dl_df (df_ix (dl_df (df_var 1)) (dv_df (df_var 4)))) (dv_df df_int))))
    (dss_cons (ds_if (dt_isN (dv_df (df_var 5)) (dv_df df_non))
    (dss_cons (ds_setLcF 6 (own := [("_law_end", 7)]) (ix := [7]) rfl sc__law_built.nd (di_seq (df_dictIx rfl (room_eq hr) rfl T.z_dict (dl_df (df_var 0)) (dv_df (df_ix (dl_df (df_ix (dl_df (df_var 1)) (dv_df (df_var 4)))) (dv_df df_int))))) (blkOk_by (N := N__law_built) (sc := defScope s__law_built) (by decide +kernel)) (fun _ _ _ _ _ => (dg_name 7 sc__law_built.nd)) (fun _ _ _ _ _ => (dts_one (dt_eq (room_eq hr) (dv_df (df_ix (dl_df (df_var 7)) (dv_df df_int))) (dv_df (df_tup da_nil))))) (fun _ _ _ _ _ => (de_df (df_var 7))))
    (dss_one (ds_set 5 sc__law_built.nd (de_df (df_ix (dl_df (df_var 6)) (dv_df (df_mod (dv_de (de_call G.g__law_mixed (takes_of rfl rfl rfl rfl) hr rfl T.M__law_mixed T.F__law_mixed.kp T.B__law_mixed (da_cons (df_ix (dl_df (df_ix (dl_df (df_var 1)) (dv_df (df_var 4)))) (dv_df df_int)) (da_cons (df_var 4) da_nil)) (aCons_len (aCons_len (fun _ _ h => aNil_len h))))) (dv_de (de_len rfl T.z_len (dal_cons (dl_df (df_var 6)) dal_nil))))))))))
    dss_nil)
    (dss_one (ds_put 2 (de_df (df_tup (da_cons (df_ix (dl_df (df_var 5)) (dv_df df_int)) (da_cons (df_ix (dl_df (df_ix (dl_df (df_var 1)) (dv_df (df_var 4)))) (dv_df df_int)) (da_cons (df_de (de_tuple rfl T.z_tuple (dal_cons (dl_de (de_lc (own := [("_law_j", 8)]) (ix := [8]) rfl sc__law_built.nd (di_seq (df_ix (dl_df (df_ix (dl_df (df_var 1)) (dv_df (df_var 4)))) (dv_df df_int))) (blkOk_by (N := N__law_built) (sc := defScope s__law_built) (by decide +kernel)) (fun _ _ _ _ _ => (dg_name 8 sc__law_built.nd)) (fun _ _ _ _ _ => dts_nil) (fun _ _ _ _ _ => (de_df (df_ix (dl_dp (dp_var 2)) (dv_df (df_var 8))))))) dal_nil))) da_nil))))) (df_var 4))))))
    (dss_one (ds_retV 2))))
theorem ok__law_rule (T : Txt K mg f fd cl) (G : Fns P w K mg base f fd n) : FnOk P w K mg base (L2.CX P w) (n + 1) (f 23) (fd 23) ["_law_turning_here", "_law_mode", "_law_name"] (spM K mg 3 (mir (n + 1) 23)) :=
  mk_fn (l := 4) (fb := b__law_rule (mir n)) T.F__law_rule sc__law_rule rfl (fun _ => rfl) fun cdv A outer s H E hr =>
    (dss_cons (ds_asg (ix := [3, 4]) (df_ix (dl_df (df_ix (dl_df (df_var 0)) (dv_df df_int))) (dv_df (df_var 1))) (dg_tup (n := 2) rfl (dgs_cons (dg_name 3 sc__law_rule.nd) (dgs_cons (dg_name 4 sc__law_rule.nd) dgs_nil))))
    (dss_cons (ds_for (ix := [5, 6]) (passes_of rfl) rfl (di_zip rfl T.z_zip (da_cons (df_dictIx rfl (room_eq hr) rfl T.z_dict (dl_df (df_ix (dl_df (df_var 0)) (dv_df df_int))) (dv_df (df_var 3))) (da_cons (df_var 4) da_nil))) (dg_tup (n := 2) rfl (dgs_cons (dg_name 5 sc__law_rule.nd) (dgs_cons (dg_name 6 sc__law_rule.nd) dgs_nil)))
    (dss_one (ds_if (dt_eq (room_eq hr) (dv_df (df_ix (dl_df (df_var 5)) (dv_df df_int))) (dv_df (df_var 2)))
    (dss_one (ds_ret (de_df (df_var 6))))
    dss_nil)))
    (dss_one (ds_ret (de_df df_non)))))
theorem ok__law_come (T : Txt K mg f fd cl) (G : Fns P w K mg base f fd n) : FnOk P w K mg base (L2.CX P w) (n + 1) (f 24) (fd 24) ["_law_turning_here", "_law_term_here", "_law_read"] (spM K mg 3 (mir (n + 1) 24)) :=
  mk_fn (l := 0) (fb := b__law_come (mir n)) T.F__law_come sc__law_come rfl (fun _ => rfl) fun cdv A outer s H E hr =>
    (dss_cons (ds_while 1000000 (passes_of rfl) (dt_eq (room_eq hr) (dv_df (df_ix (dl_df (df_var 1)) (dv_df df_int))) (dv_df df_str))
    (dss_cons (ds_set 2 sc__law_come.nd (de_df (df_ix (dl_df (df_ix (dl_df (df_var 2)) (dv_df df_int))) (dv_df (df_ix (dl_df (df_var 1)) (dv_df df_int))))))
    (dss_one (ds_set 1 sc__law_come.nd (de_df (df_de (de_call G.g__law_rule (takes_of rfl rfl rfl rfl) hr rfl T.M__law_rule T.F__law_rule.kp T.B__law_rule (da_cons (df_var 0) (da_cons (df_ix (dl_df (df_var 1)) (dv_df df_int)) (da_cons (df_ix (dl_df (df_var 2)) (dv_df df_int)) da_nil))) (aCons_len (aCons_len (aCons_len (fun _ _ h => aNil_len h)))))))))))
    (dss_one (ds_ret (de_df (df_tup (da_cons (df_var 1) (da_cons (df_var 2) da_nil)))))))
theorem ok__law_label (T : Txt K mg f fd cl) (G : Fns P w K mg base f fd n) : FnOk P w K mg base (L2.CX P w) (n + 1) (f 25) (fd 25) ["_law_term_here", "_law_read"] (spM K mg 2 (mir (n + 1) 25)) :=
  mk_fn (l := 0) (fb := b__law_label (mir n)) T.F__law_label sc__law_label rfl (fun _ => rfl) fun cdv A outer s H E hr =>
    (dss_one (ds_ret (de_df (df_tup (da_cons (df_ix (dl_df (df_var 0)) (dv_df df_int)) (da_cons (df_de (de_add (dl_df (df_ix (dl_df (df_var 0)) (dv_df df_int))) (dl_df (df_mul (dv_df (df_ix (dl_df (df_var 1)) (dv_df df_int))) (dv_de (de_int rfl T.z_int (dal_cons (dl_df (df_ix (dl_df (df_var 0)) (dv_df df_int))) dal_nil))))))) (da_cons (df_de (de_len rfl T.z_len (dal_cons (dl_df (df_ix (dl_df (df_var 0)) (dv_df df_int))) dal_nil))) da_nil)))))))
theorem ok__law_labels (T : Txt K mg f fd cl) (G : Fns P w K mg base f fd n) : FnOk P w K mg base (L2.CX P w) (n + 1) (f 26) (fd 26) ["_law_found", "_law_due"] (spM K mg 2 (mir (n + 1) 26)) :=
  mk_fn (l := 0) (fb := b__law_labels (mir n)) T.F__law_labels sc__law_labels rfl (fun _ => rfl) fun cdv A outer s H E hr =>
    (dss_cons (ds_if (dt_isN (dv_df (df_var 1)) (dv_df df_non))
    (dss_one (ds_ret (de_df (df_isN (dv_df (df_var 0)) (dv_df df_non)))))
    dss_nil)
    (dss_cons (ds_if (dt_dw (dw_or (dt_not (dt_val (dv_df (df_isi (dv_df (df_var 0)) rfl T.z_isinstance rfl T.z_tuple rfl)))) (dw_or (dt_ne (room_eq hr) (dv_de (de_len rfl T.z_len (dal_cons (dl_df (df_var 0)) dal_nil))) (dv_df df_int)) (dw_or1 (dt_not (dt_val (dv_df (df_isi (dv_df (df_ix (dl_df (df_var 0)) (dv_df df_int))) rfl T.z_isinstance rfl T.z_str rfl))))))))
    (dss_one (ds_ret (de_df df_bl)))
    dss_nil)
    (dss_one (ds_ret (de_df (df_and (dv_de (de_call G.g__law_whole (takes_of rfl rfl rfl rfl) hr rfl T.M__law_whole T.F__law_whole.kp T.B__law_whole (da_cons (df_ix (dl_df (df_var 0)) (dv_df df_int)) da_nil) (aCons_len (fun _ _ h => aNil_len h)))) (df_and (dv_de (de_call G.g__law_whole (takes_of rfl rfl rfl rfl) hr rfl T.M__law_whole T.F__law_whole.kp T.B__law_whole (da_cons (df_ix (dl_df (df_var 0)) (dv_df df_int)) da_nil) (aCons_len (fun _ _ h => aNil_len h)))) (df_one (df_eq (room_eq hr) (dv_df (df_var 0)) (dv_df (df_var 1)))))))))))
theorem ok__law_whole (T : Txt K mg f fd cl) (G : Fns P w K mg base f fd n) : FnOk P w K mg base (L2.CX P w) (n + 1) (f 27) (fd 27) ["_law_found"] (spM K mg 1 (mir (n + 1) 27)) :=
  mk_fn (l := 0) (fb := b__law_whole (mir n)) T.F__law_whole sc__law_whole rfl (fun _ => rfl) fun cdv A outer s H E hr =>
    (dss_one (ds_ret (de_df (df_and (dv_df (df_isi (dv_df (df_var 0)) rfl T.z_isinstance rfl T.z_int rfl)) (df_one (df_not (dv_df (df_isi (dv_df (df_var 0)) rfl T.z_isinstance rfl T.z_bool rfl))))))))
theorem ok__law_copy (T : Txt K mg f fd cl) (G : Fns P w K mg base f fd n) : FnOk P w K mg base (L2.CX P w) (n + 1) (f 28) (fd 28) ["_law_turning_here"] (spM K mg 1 (mir (n + 1) 28)) :=
  mk_fn (l := 4) (fb := b__law_copy (mir n)) T.F__law_copy sc__law_copy rfl (fun _ => rfl) fun cdv A outer s H E hr =>
    (dss_cons (ds_setLcF 1 (own := [("_law_kind", 2), ("_law_rows", 3)]) (ix := [2, 3]) rfl sc__law_copy.nd (di_seq (df_ix (dl_df (df_var 0)) (dv_df df_int))) (blkOk_by (N := N__law_copy) (sc := defScope s__law_copy) (by decide +kernel)) (fun _ _ _ _ _ => (dg_tup (n := 2) rfl (dgs_cons (dg_name 2 sc__law_copy.nd) (dgs_cons (dg_name 3 sc__law_copy.nd) dgs_nil)))) (fun _ _ _ _ _ => dts_nil) (fun _ _ _ _ _ => (de_df (df_tup (da_cons (df_var 2) (da_cons (df_de (de_list rfl T.z_list (dal_cons (dl_df (df_var 3)) dal_nil))) da_nil))))))
    (dss_one (ds_ret (de_df (df_tup (da_cons (df_var 1) (da_cons (df_ix (dl_df (df_var 0)) (dv_df df_int)) (da_cons (df_de (de_lc (own := [("_law_kind", 2), ("_law_rules", 4)]) (ix := [2, 4]) rfl sc__law_copy.nd (di_seq (df_ix (dl_df (df_var 0)) (dv_df df_int))) (blkOk_by (N := N__law_copy) (sc := defScope s__law_copy) (by decide +kernel)) (fun _ _ _ _ _ => (dg_tup (n := 2) rfl (dgs_cons (dg_name 2 sc__law_copy.nd) (dgs_cons (dg_name 4 sc__law_copy.nd) dgs_nil)))) (fun _ _ _ _ _ => dts_nil) (fun _ _ _ _ _ => (de_df (df_tup (da_cons (df_var 2) (da_cons (df_de (de_list rfl T.z_list (dal_cons (dl_df (df_var 4)) dal_nil))) da_nil))))))) da_nil))))))))
theorem ok__law_ways (T : Txt K mg f fd cl) (G : Fns P w K mg base f fd n) : FnOk P w K mg base (L2.CX P w) (n + 1) (f 29) (fd 29) ["_law_turning_here", "_law_tree", "_law_cells"] (spM K mg 3 (mir (n + 1) 29)) :=
  mk_fn (l := 7) (fb := b__law_ways (mir n)) T.F__law_ways sc__law_ways rfl (fun _ => rfl) fun cdv A outer s H E hr =>
    (dss_cons (ds_set 3 sc__law_ways.nd (de_lst da_nil))
    (dss_cons (ds_set 4 sc__law_ways.nd (de_df (df_de (de_lst da_nil))))
    (dss_cons (ds_asg (ix := [5, 6]) (df_de (de_call G.g__law_come (takes_of rfl rfl rfl rfl) hr rfl T.M__law_come T.F__law_come.kp T.B__law_come (da_cons (df_var 0) (da_cons (df_ix (dl_df (df_var 0)) (dv_df df_int)) (da_cons (df_tup (da_cons df_str (da_cons df_int (da_cons (df_tup (da_cons (df_var 1) da_nil)) da_nil)))) da_nil))) (aCons_len (aCons_len (aCons_len (fun _ _ h => aNil_len h)))))) (dg_tup (n := 2) rfl (dgs_cons (dg_name 5 sc__law_ways.nd) (dgs_cons (dg_name 6 sc__law_ways.nd) dgs_nil))))
    (dss_cons (ds_set 7 sc__law_ways.nd (de_df (df_de (de_lst (da_cons (df_de (de_call G.g__law_label (takes_of rfl rfl rfl rfl) hr rfl T.M__law_label T.F__law_label.kp T.B__law_label (da_cons (df_var 5) (da_cons (df_var 6) da_nil)) (aCons_len (aCons_len (fun _ _ h => aNil_len h))))) da_nil)))))
    (dss_cons (ds_for (ix := [8]) (passes_of rfl) rfl (di_seq (df_var 2)) (dg_name 8 sc__law_ways.nd)
    (dss_cons (ds_set 9 sc__law_ways.nd (de_df (df_de (de_call G.g__law_mixed (takes_of rfl rfl rfl rfl) hr rfl T.M__law_mixed T.F__law_mixed.kp T.B__law_mixed (da_cons (df_var 8) (da_cons df_int da_nil)) (aCons_len (aCons_len (fun _ _ h => aNil_len h)))))))
    (dss_cons (ds_if (dt_eq (room_eq hr) (dv_df (df_ix (dl_df (df_var 5)) (dv_df df_int))) (dv_df (df_tup da_nil)))
    (dss_cons (ds_app 3 (de_df (df_tup (da_cons (df_var 4) (da_cons (df_var 7) da_nil)))))
    (dss_cons (ds_set 4 sc__law_ways.nd (de_df (df_de (de_lst da_nil))))
    (dss_cons (ds_asg (ix := [5, 6]) (df_de (de_call G.g__law_come (takes_of rfl rfl rfl rfl) hr rfl T.M__law_come T.F__law_come.kp T.B__law_come (da_cons (df_var 0) (da_cons (df_ix (dl_df (df_var 0)) (dv_df df_int)) (da_cons (df_tup (da_cons df_str (da_cons df_int (da_cons (df_tup (da_cons (df_var 1) da_nil)) da_nil)))) da_nil))) (aCons_len (aCons_len (aCons_len (fun _ _ h => aNil_len h)))))) (dg_tup (n := 2) rfl (dgs_cons (dg_name 5 sc__law_ways.nd) (dgs_cons (dg_name 6 sc__law_ways.nd) dgs_nil))))
    (dss_one (ds_set 7 sc__law_ways.nd (de_df (df_de (de_lst (da_cons (df_de (de_call G.g__law_label (takes_of rfl rfl rfl rfl) hr rfl T.M__law_label T.F__law_label.kp T.B__law_label (da_cons (df_var 5) (da_cons (df_var 6) da_nil)) (aCons_len (aCons_len (fun _ _ h => aNil_len h))))) da_nil)))))))))
    dss_nil)
    (dss_one (ds_if (dt_ne (room_eq hr) (dv_df (df_ix (dl_df (df_var 5)) (dv_df df_int))) (dv_df (df_tup da_nil)))
    (dss_cons (ds_set 4 sc__law_ways.nd (de_df (df_de (de_add (dl_df (df_var 4)) (dl_de (de_lst (da_cons (df_mod (dv_df (df_var 9)) (dv_de (de_len rfl T.z_len (dal_cons (dl_df (df_ix (dl_df (df_var 5)) (dv_df df_int))) dal_nil)))) da_nil)))))))
    (dss_cons (ds_asg (ix := [5, 6]) (df_de (de_call G.g__law_come (takes_of rfl rfl rfl rfl) hr rfl T.M__law_come T.F__law_come.kp T.B__law_come (da_cons (df_var 0) (da_cons (df_ix (dl_df (df_ix (dl_df (df_var 5)) (dv_df df_int))) (dv_df (df_ix (dl_df (df_var 4)) (dv_df (df_neg (dv_df df_int)))))) (da_cons (df_var 6) da_nil))) (aCons_len (aCons_len (aCons_len (fun _ _ h => aNil_len h)))))) (dg_tup (n := 2) rfl (dgs_cons (dg_name 5 sc__law_ways.nd) (dgs_cons (dg_name 6 sc__law_ways.nd) dgs_nil))))
    (dss_one (ds_set 7 sc__law_ways.nd (de_df (df_de (de_add (dl_df (df_var 7)) (dl_de (de_lst (da_cons (df_de (de_call G.g__law_label (takes_of rfl rfl rfl rfl) hr rfl T.M__law_label T.F__law_label.kp T.B__law_label (da_cons (df_var 5) (da_cons (df_var 6) da_nil)) (aCons_len (aCons_len (fun _ _ h => aNil_len h))))) da_nil))))))))))
    dss_nil)))))
    (dss_cons (ds_app 3 (de_df (df_tup (da_cons (df_var 4) (da_cons (df_var 7) da_nil)))))
    (dss_one (ds_retV 3))))))))
theorem ok__law_astray (T : Txt K mg f fd cl) (G : Fns P w K mg base f fd n) : FnOk P w K mg base (L2.CX P w) (n + 1) (f 30) (fd 30) ["_law_turning_here", "_law_tree", "_law_way", "_law_marks", "_law_cell"] (spM K mg 5 (mir (n + 1) 30)) :=
  mk_fn (l := 3) (fb := b__law_astray (mir n)) T.F__law_astray sc__law_astray rfl (fun _ => rfl) fun cdv A outer s H E hr =>
    (dss_cons (ds_set 5 sc__law_astray.nd (de_df (df_de (de_call G.g__law_mixed (takes_of rfl rfl rfl rfl) hr rfl T.M__law_mixed T.F__law_mixed.kp T.B__law_mixed (da_cons (df_var 4) (da_cons df_int da_nil)) (aCons_len (aCons_len (fun _ _ h => aNil_len h)))))))
    (dss_cons (ds_set 6 sc__law_astray.nd (de_df (df_mod (dv_df (df_var 5)) (dv_de (de_len rfl T.z_len (dal_cons (dl_df (df_var 3)) dal_nil))))))
    (dss_cons (ds_set 7 sc__law_astray.nd (de_df (df_de (de_add (dl_df (df_ix (dl_df (df_ix (dl_df (df_var 3)) (dv_df (df_var 6)))) (dv_df df_int))) (dl_df (df_ix (dl_de (de_lst (da_cons df_int (da_cons df_int (da_cons (df_mod (dv_df (df_var 4)) (dv_df (df_pow (dv_df df_int) (dv_df df_int)))) da_nil))))) (dv_df (df_mod (dv_df (df_div (dv_df (df_var 5)) (dv_df df_int))) (dv_df df_int)))))))))
    (dss_cons (ds_if (dt_eq (room_eq hr) (dv_df (df_mod (dv_df (df_div (dv_df (df_var 5)) (dv_df df_int))) (dv_df df_int))) (dv_df df_int))
    (dss_one (ds_set 7 sc__law_astray.nd (de_df (df_ix (dl_de (de_lst (da_cons (df_neg (dv_df df_int)) (da_cons (df_sub (dv_df (df_neg (dv_df df_int))) (dv_df (df_mod (dv_df (df_var 4)) (dv_df (df_pow (dv_df df_int) (dv_df df_int)))))) (da_cons (df_sub (dv_df df_int) (dv_de (de_len rfl T.z_len (dal_cons (dl_df (df_var 3)) dal_nil)))) da_nil))))) (dv_df (df_mod (dv_df (df_div (dv_df (df_var 5)) (dv_df df_int))) (dv_df df_int)))))))
    dss_nil)
    (dss_one (ds_ret (de_df (df_isN (dv_de (de_call G.g_seen (takes_of rfl rfl rfl rfl) hr rfl T.M_seen T.F_seen.kp T.B_seen (da_cons (df_var 0) (da_cons (df_var 1) (da_cons (df_de (de_tuple rfl T.z_tuple (dal_cons (dl_de (de_add (dl_de (de_add (dl_de (de_slice (dl_df (df_var 2)) do_none (do_some (dv_df (df_var 6))))) (dl_de (de_lst (da_cons (df_var 7) da_nil))))) (dl_de (de_slice (dl_df (df_var 2)) (do_some (dv_de (de_add (dl_df (df_var 6)) (dl_df df_int)))) do_none)))) dal_nil))) da_nil))) (aCons_len (aCons_len (aCons_len (fun _ _ h => aNil_len h)))))) (dv_df df_non)))))))))
theorem ok__law_in_mode (T : Txt K mg f fd cl) (G : Fns P w K mg base f fd n) : FnOk P w K mg base (L2.CX P w) (n + 1) (f 31) (fd 31) ["_law_turning_here", "_law_nodes", "_law_trees", "_law_cell"] (spM K mg 4 (mir (n + 1) 31)) :=
  mk_fn (l := 9) (fb := b__law_in_mode (mir n)) T.F__law_in_mode sc__law_in_mode rfl (fun _ => rfl) fun cdv A outer s H E hr =>
    (dss_cons (ds_set 4 sc__law_in_mode.nd (de_df (df_de (de_call G.g__law_mixed (takes_of rfl rfl rfl rfl) hr rfl T.M__law_mixed T.F__law_mixed.kp T.B__law_mixed (da_cons (df_var 3) (da_cons df_int da_nil)) (aCons_len (aCons_len (fun _ _ h => aNil_len h)))))))
    (dss_cons (ds_set 5 sc__law_in_mode.nd (de_df (df_mod (dv_df (df_var 4)) (dv_de (de_len rfl T.z_len (dal_cons (dl_df (df_var 1)) dal_nil))))))
    (dss_cons (ds_for (ix := [6]) (passes_of rfl) rfl (di_range1 rfl T.z_range (da_cons (df_de (de_len rfl T.z_len (dal_cons (dl_df (df_ix (dl_df (df_var 0)) (dv_df df_int))) dal_nil))) da_nil)) (dg_name 6 sc__law_in_mode.nd)
    (dss_one (ds_if (dt_eq (room_eq hr) (dv_df (df_ix (dl_df (df_ix (dl_df (df_ix (dl_df (df_var 0)) (dv_df df_int))) (dv_df (df_var 6)))) (dv_df df_int))) (dv_df (df_ix (dl_df (df_ix (dl_df (df_var 1)) (dv_df (df_var 5)))) (dv_df df_int))))
    (dss_cons (ds_asg (ix := [7, 8]) (df_de (de_call G.g__law_come (takes_of rfl rfl rfl rfl) hr rfl T.M__law_come T.F__law_come.kp T.B__law_come (da_cons (df_var 0) (da_cons (df_tup (da_cons df_str (da_cons (df_var 6) (da_cons df_int da_nil)))) (da_cons (df_tup (da_cons df_str (da_cons df_int (da_cons (df_tup (da_cons (df_ix (dl_df (df_var 2)) (dv_df (df_var 5))) da_nil)) da_nil)))) da_nil))) (aCons_len (aCons_len (aCons_len (fun _ _ h => aNil_len h)))))) (dg_tup (n := 2) rfl (dgs_cons (dg_name 7 sc__law_in_mode.nd) (dgs_cons (dg_name 8 sc__law_in_mode.nd) dgs_nil))))
    (dss_cons (ds_if (dt_not (dt_val (dv_de (de_call G.g__law_labels (takes_of rfl rfl rfl rfl) hr rfl T.M__law_labels T.F__law_labels.kp T.B__law_labels (da_cons (df_de (de_call G.g_seen_in (takes_of rfl rfl rfl rfl) hr rfl T.M_seen_in T.F_seen_in.kp T.B_seen_in (da_cons (df_var 0) (da_cons (df_var 6) (da_cons (df_ix (dl_df (df_var 2)) (dv_df (df_var 5))) (da_cons (df_tup da_nil) da_nil)))) (aCons_len (aCons_len (aCons_len (aCons_len (fun _ _ h => aNil_len h))))))) (da_cons (df_de (de_call G.g__law_label (takes_of rfl rfl rfl rfl) hr rfl T.M__law_label T.F__law_label.kp T.B__law_label (da_cons (df_var 7) (da_cons (df_var 8) da_nil)) (aCons_len (aCons_len (fun _ _ h => aNil_len h))))) da_nil)) (aCons_len (aCons_len (fun _ _ h => aNil_len h)))))))
    (dss_one (ds_ret (de_df df_bl)))
    dss_nil)
    (dss_cons (ds_set 9 sc__law_in_mode.nd (de_df df_non))
    (dss_cons (ds_set 10 sc__law_in_mode.nd (de_df (df_mod (dv_df (df_div (dv_df (df_var 4)) (dv_df df_int))) (dv_df df_int))))
    (dss_cons (ds_if (dt_lt (dv_df (df_var 10)) (dv_de (de_len rfl T.z_len (dal_cons (dl_df (df_ix (dl_df (df_var 7)) (dv_df df_int))) dal_nil))))
    (dss_cons (ds_asg (ix := [11, 12]) (df_de (de_call G.g__law_come (takes_of rfl rfl rfl rfl) hr rfl T.M__law_come T.F__law_come.kp T.B__law_come (da_cons (df_var 0) (da_cons (df_ix (dl_df (df_ix (dl_df (df_var 7)) (dv_df df_int))) (dv_df (df_var 10))) (da_cons (df_var 8) da_nil))) (aCons_len (aCons_len (aCons_len (fun _ _ h => aNil_len h)))))) (dg_tup (n := 2) rfl (dgs_cons (dg_name 11 sc__law_in_mode.nd) (dgs_cons (dg_name 12 sc__law_in_mode.nd) dgs_nil))))
    (dss_one (ds_set 9 sc__law_in_mode.nd (de_df (df_de (de_call G.g__law_label (takes_of rfl rfl rfl rfl) hr rfl T.M__law_label T.F__law_label.kp T.B__law_label (da_cons (df_var 11) (da_cons (df_var 12) da_nil)) (aCons_len (aCons_len (fun _ _ h => aNil_len h)))))))))
    dss_nil)
    (dss_one (ds_if (dt_not (dt_val (dv_de (de_call G.g__law_labels (takes_of rfl rfl rfl rfl) hr rfl T.M__law_labels T.F__law_labels.kp T.B__law_labels (da_cons (df_de (de_call G.g_seen_in (takes_of rfl rfl rfl rfl) hr rfl T.M_seen_in T.F_seen_in.kp T.B_seen_in (da_cons (df_var 0) (da_cons (df_var 6) (da_cons (df_ix (dl_df (df_var 2)) (dv_df (df_var 5))) (da_cons (df_tup (da_cons (df_var 10) da_nil)) da_nil)))) (aCons_len (aCons_len (aCons_len (aCons_len (fun _ _ h => aNil_len h))))))) (da_cons (df_var 9) da_nil)) (aCons_len (aCons_len (fun _ _ h => aNil_len h)))))))
    (dss_one (ds_ret (de_df df_bl)))
    dss_nil)))))))
    dss_nil)))
    (dss_one (ds_ret (de_df df_bl))))))
theorem ok_law (T : Txt K mg f fd cl) (G : Fns P w K mg base f fd n) : FnOk P w K mg base (L2.CX P w) (n + 1) (f 32) (fd 32) ["_law_script"] (spM K mg 1 (mir (n + 1) 32)) :=
  mk_fn (l := 10) (fb := b_law (mir n)) T.F_law sc_law rfl (fun _ => rfl) fun cdv A outer s H E hr =>
    (dss_cons (ds_set 1 sc_law.nd (de_df (df_de (de_call G.g__law_names (takes_of rfl rfl rfl rfl) hr rfl T.M__law_names T.F__law_names.kp T.B__law_names (da_cons (df_de (de_call G.g__law_cell_at (takes_of rfl rfl rfl rfl) hr rfl T.M__law_cell_at T.F__law_cell_at.kp T.B__law_cell_at (da_cons (df_var 0) (da_cons df_int da_nil)) (aCons_len (aCons_len (fun _ _ h => aNil_len h))))) da_nil) (aCons_len (fun _ _ h => aNil_len h))))))
    (dss_cons (ds_set 2 sc_law.nd (de_df (df_de (de_call G.g__law_wood (takes_of rfl rfl rfl rfl) hr rfl T.M__law_wood T.F__law_wood.kp T.B__law_wood (da_cons (df_de (de_call G.g__law_cell_at (takes_of rfl rfl rfl rfl) hr rfl T.M__law_cell_at T.F__law_cell_at.kp T.B__law_cell_at (da_cons (df_var 0) (da_cons df_int da_nil)) (aCons_len (aCons_len (fun _ _ h => aNil_len h))))) (da_cons (df_var 1) da_nil)) (aCons_len (aCons_len (fun _ _ h => aNil_len h)))))))
    (dss_cons (ds_set 3 sc_law.nd (de_df (df_de (de_call G.g__law_turning (takes_of rfl rfl rfl rfl) hr rfl T.M__law_turning T.F__law_turning.kp T.B__law_turning (da_cons (df_var 0) (da_cons (df_var 2) (da_cons (df_var 1) da_nil))) (aCons_len (aCons_len (aCons_len (fun _ _ h => aNil_len h))))))))
    (dss_cons (ds_set 4 sc_law.nd (de_df (df_de (de_call G.g__law_grown (takes_of rfl rfl rfl rfl) hr rfl T.M__law_grown T.F__law_grown.kp T.B__law_grown (da_cons (df_var 2) (da_cons (df_de (de_slice (dl_df (df_var 0)) (do_some (dv_df df_int)) (do_some (dv_df df_int)))) (da_cons df_int da_nil))) (aCons_len (aCons_len (aCons_len (fun _ _ h => aNil_len h))))))))
    (dss_cons (ds_set 5 sc_law.nd (de_df (df_de (de_call G.g__law_built (takes_of rfl rfl rfl rfl) hr rfl T.M__law_built T.F__law_built.kp T.B__law_built (da_cons (df_var 2) (da_cons (df_var 4) da_nil)) (aCons_len (aCons_len (fun _ _ h => aNil_len h)))))))
    (dss_cons (ds_set 6 sc_law.nd (de_df (df_ix (dl_df (df_var 5)) (dv_df df_int))))
    (dss_cons (ds_set 7 sc_law.nd (de_df (df_de (de_call G.g__law_copy (takes_of rfl rfl rfl rfl) hr rfl T.M__law_copy T.F__law_copy.kp T.B__law_copy (da_cons (df_var 3) da_nil) (aCons_len (fun _ _ h => aNil_len h))))))
    (dss_cons (ds_for (ix := [8, 9]) (passes_of rfl) rfl (di_seq (df_de (de_call G.g__law_ways (takes_of rfl rfl rfl rfl) hr rfl T.M__law_ways T.F__law_ways.kp T.B__law_ways (da_cons (df_var 3) (da_cons (df_var 6) (da_cons (df_de (de_slice (dl_df (df_var 0)) (do_some (dv_df df_int)) (do_some (dv_df df_int)))) da_nil))) (aCons_len (aCons_len (aCons_len (fun _ _ h => aNil_len h))))))) (dg_tup (n := 2) rfl (dgs_cons (dg_name 8 sc_law.nd) (dgs_cons (dg_name 9 sc_law.nd) dgs_nil)))
    (dss_cons (ds_set 10 sc_law.nd (de_df (df_mod (dv_de (de_call G.g__law_mixed (takes_of rfl rfl rfl rfl) hr rfl T.M__law_mixed T.F__law_mixed.kp T.B__law_mixed (da_cons (df_de (de_call G.g__law_cell_at (takes_of rfl rfl rfl rfl) hr rfl T.M__law_cell_at T.F__law_cell_at.kp T.B__law_cell_at (da_cons (df_var 0) (da_cons df_int da_nil)) (aCons_len (aCons_len (fun _ _ h => aNil_len h))))) (da_cons (df_de (de_len rfl T.z_len (dal_cons (dl_df (df_var 8)) dal_nil))) da_nil)) (aCons_len (aCons_len (fun _ _ h => aNil_len h))))) (dv_de (de_len rfl T.z_len (dal_cons (dl_df (df_var 9)) dal_nil))))))
    (dss_cons (ds_if (dt_not (dt_val (dv_de (de_call G.g__law_labels (takes_of rfl rfl rfl rfl) hr rfl T.M__law_labels T.F__law_labels.kp T.B__law_labels (da_cons (df_de (de_call G.g_seen (takes_of rfl rfl rfl rfl) hr rfl T.M_seen T.F_seen.kp T.B_seen (da_cons (df_var 7) (da_cons (df_var 6) (da_cons (df_de (de_tuple rfl T.z_tuple (dal_cons (dl_df (df_var 8)) dal_nil))) da_nil))) (aCons_len (aCons_len (aCons_len (fun _ _ h => aNil_len h)))))) (da_cons (df_ix (dl_df (df_var 9)) (dv_df (df_neg (dv_df df_int)))) da_nil)) (aCons_len (aCons_len (fun _ _ h => aNil_len h)))))))
    (dss_one (ds_ret (de_df df_bl)))
    dss_nil)
    (dss_cons (ds_if (dt_not (dt_val (dv_de (de_call G.g__law_labels (takes_of rfl rfl rfl rfl) hr rfl T.M__law_labels T.F__law_labels.kp T.B__law_labels (da_cons (df_de (de_call G.g_seen (takes_of rfl rfl rfl rfl) hr rfl T.M_seen T.F_seen.kp T.B_seen (da_cons (df_var 7) (da_cons (df_var 6) (da_cons (df_de (de_tuple rfl T.z_tuple (dal_cons (dl_de (de_slice (dl_df (df_var 8)) do_none (do_some (dv_df (df_var 10))))) dal_nil))) da_nil))) (aCons_len (aCons_len (aCons_len (fun _ _ h => aNil_len h)))))) (da_cons (df_ix (dl_df (df_var 9)) (dv_df (df_var 10))) da_nil)) (aCons_len (aCons_len (fun _ _ h => aNil_len h)))))))
    (dss_one (ds_ret (de_df df_bl)))
    dss_nil)
    (dss_cons (ds_if (dt_dw (dw_and (dt_eq (room_eq hr) (dv_df (df_ix (dl_df (df_ix (dl_df (df_var 9)) (dv_df (df_neg (dv_df df_int))))) (dv_df df_int))) (dv_df df_int)) (dw_and1 (dt_notN (dv_de (de_call G.g_seen (takes_of rfl rfl rfl rfl) hr rfl T.M_seen T.F_seen.kp T.B_seen (da_cons (df_var 7) (da_cons (df_var 6) (da_cons (df_de (de_tuple rfl T.z_tuple (dal_cons (dl_de (de_add (dl_df (df_var 8)) (dl_de (de_lst (da_cons df_int da_nil))))) dal_nil))) da_nil))) (aCons_len (aCons_len (aCons_len (fun _ _ h => aNil_len h)))))) (dv_df df_non)))))
    (dss_one (ds_ret (de_df df_bl)))
    dss_nil)
    (dss_one (ds_if (dt_not (dt_val (dv_de (de_call G.g__law_astray (takes_of rfl rfl rfl rfl) hr rfl T.M__law_astray T.F__law_astray.kp T.B__law_astray (da_cons (df_var 7) (da_cons (df_var 6) (da_cons (df_var 8) (da_cons (df_var 9) (da_cons (df_de (de_call G.g__law_cell_at (takes_of rfl rfl rfl rfl) hr rfl T.M__law_cell_at T.F__law_cell_at.kp T.B__law_cell_at (da_cons (df_var 0) (da_cons (df_de (de_add (dl_df df_int) (dl_de (de_len rfl T.z_len (dal_cons (dl_df (df_var 8)) dal_nil))))) da_nil)) (aCons_len (aCons_len (fun _ _ h => aNil_len h))))) da_nil))))) (aCons_len (aCons_len (aCons_len (aCons_len (aCons_len (fun _ _ h => aNil_len h))))))))))
    (dss_one (ds_ret (de_df df_bl)))
    dss_nil)))))))
    (dss_one (ds_ret (de_df (df_and (dv_de (de_call G.g__law_in_mode (takes_of rfl rfl rfl rfl) hr rfl T.M__law_in_mode T.F__law_in_mode.kp T.B__law_in_mode (da_cons (df_var 7) (da_cons (df_var 4) (da_cons (df_var 5) (da_cons (df_de (de_call G.g__law_cell_at (takes_of rfl rfl rfl rfl) hr rfl T.M__law_cell_at T.F__law_cell_at.kp T.B__law_cell_at (da_cons (df_var 0) (da_cons df_int da_nil)) (aCons_len (aCons_len (fun _ _ h => aNil_len h))))) da_nil)))) (aCons_len (aCons_len (aCons_len (aCons_len (fun _ _ h => aNil_len h))))))) (df_one (df_eq (room_eq hr) (dv_df (df_var 7)) (dv_df (df_var 3))))))))))))))))
theorem fn_none {f : Addr} {fd : FuncData} {ps : List Str} {k i : Nat} : FnOk P w K mg base (L2.CX P w) 0 f fd ps (spM K mg k (mir 0 i)) := by
  have no : ∀ vs H Q E, ¬ spM K mg k (mir 0 i) vs H Q E := fun vs H Q E ⟨F, ds, _, _, _, h⟩ => h
  exact ⟨fun vs H Q E h => absurd h (no vs H Q E), fun A outer s H args us vs Q E _ _ _ _ h => absurd h (no vs H Q E)⟩
theorem all_fns (T : Txt K mg f fd cl) : ∀ n, Fns P w K mg base f fd n
  | 0 => ⟨fn_none, fn_none, fn_none, fn_none, fn_none, fn_none, fn_none, fn_none, fn_none, fn_none, fn_none, fn_none, fn_none, fn_none, fn_none, fn_none, fn_none, fn_none, fn_none, fn_none, fn_none, fn_none, fn_none, fn_none, fn_none, fn_none, fn_none, fn_none, fn_none, fn_none, fn_none, fn_none, fn_none⟩
  | n + 1 => by
    have G := all_fns T n
    exact ⟨ok_rows_of T G, ok_row_of T G, ok_is_of T G, ok_row_number T G, ok_rule_of T G, ok_look T G, ok_above T G, ok_mark_of T G, ok_settled T G, ok_seen_from T G, ok_seen T G, ok_seen_in T G, ok__law_cell_at T G, ok__law_mixed T G, ok__law_names T G, ok__law_great T G, ok__law_wood T G, ok__law_term T G, ok__law_calls T G, ok__law_turning T G, ok__law_mark T G, ok__law_grown T G, ok__law_built T G, ok__law_rule T G, ok__law_come T G, ok__law_label T G, ok__law_labels T G, ok__law_whole T G, ok__law_copy T G, ok__law_ways T G, ok__law_astray T G, ok__law_in_mode T G, ok_law T G⟩
end
def pick {α : Type} (z : α) : List α → Nat → α
  | [], _ => z
  | x :: _, 0 => x
  | _ :: xs, n + 1 => pick z xs n
theorem all_mk (L : Nat) {l : PySem.W.OpenLaw} {w : World} {K : PySem.W.Frag} {h : Heap} {mg : Str → Option Value} {fa : Addr} (X : K.In h) (G : h.Ns PySem.mainGlobals mg) (hfa : mg "law" = some (.ref fa))
    {od0 an0 : Option Addr} {sl0 : Array (Option Value)} {oc0 kV0 dc0 pm0 cd0 ct0 : Value} {f0 : Addr}
    (a0 : PySem.W.nsIn K PySem.mainGlobals "rows_of" = some (some (.ref f0))) (l0 : K.lookup f0 = some ⟨oc0, od0, .func (PySem.W.fnOf "rows_of" "rows_of" (defArgs s_rows_of) (defBody s_rows_of) (defScope s_rows_of) .none kV0 dc0 pm0 an0 cd0 ct0), sl0⟩) (c0 : PySem.W.codeIn K cd0 "rows_of" = true) (k0 : PySem.W.keepIn K (.ref f0) = true)
    {od1 an1 : Option Addr} {sl1 : Array (Option Value)} {oc1 kV1 dc1 pm1 cd1 ct1 : Value} {f1 : Addr}
    (a1 : PySem.W.nsIn K PySem.mainGlobals "row_of" = some (some (.ref f1))) (l1 : K.lookup f1 = some ⟨oc1, od1, .func (PySem.W.fnOf "row_of" "row_of" (defArgs s_row_of) (defBody s_row_of) (defScope s_row_of) .none kV1 dc1 pm1 an1 cd1 ct1), sl1⟩) (c1 : PySem.W.codeIn K cd1 "row_of" = true) (k1 : PySem.W.keepIn K (.ref f1) = true)
    {od2 an2 : Option Addr} {sl2 : Array (Option Value)} {oc2 kV2 dc2 pm2 cd2 ct2 : Value} {f2 : Addr}
    (a2 : PySem.W.nsIn K PySem.mainGlobals "is_of" = some (some (.ref f2))) (l2 : K.lookup f2 = some ⟨oc2, od2, .func (PySem.W.fnOf "is_of" "is_of" (defArgs s_is_of) (defBody s_is_of) (defScope s_is_of) .none kV2 dc2 pm2 an2 cd2 ct2), sl2⟩) (c2 : PySem.W.codeIn K cd2 "is_of" = true) (k2 : PySem.W.keepIn K (.ref f2) = true)
    {od3 an3 : Option Addr} {sl3 : Array (Option Value)} {oc3 kV3 dc3 pm3 cd3 ct3 : Value} {f3 : Addr}
    (a3 : PySem.W.nsIn K PySem.mainGlobals "row_number" = some (some (.ref f3))) (l3 : K.lookup f3 = some ⟨oc3, od3, .func (PySem.W.fnOf "row_number" "row_number" (defArgs s_row_number) (defBody s_row_number) (defScope s_row_number) .none kV3 dc3 pm3 an3 cd3 ct3), sl3⟩) (c3 : PySem.W.codeIn K cd3 "row_number" = true) (k3 : PySem.W.keepIn K (.ref f3) = true)
    {od4 an4 : Option Addr} {sl4 : Array (Option Value)} {oc4 kV4 dc4 pm4 cd4 ct4 : Value} {f4 : Addr}
    (a4 : PySem.W.nsIn K PySem.mainGlobals "rule_of" = some (some (.ref f4))) (l4 : K.lookup f4 = some ⟨oc4, od4, .func (PySem.W.fnOf "rule_of" "rule_of" (defArgs s_rule_of) (defBody s_rule_of) (defScope s_rule_of) .none kV4 dc4 pm4 an4 cd4 ct4), sl4⟩) (c4 : PySem.W.codeIn K cd4 "rule_of" = true) (k4 : PySem.W.keepIn K (.ref f4) = true)
    {od5 an5 : Option Addr} {sl5 : Array (Option Value)} {oc5 kV5 dc5 pm5 cd5 ct5 : Value} {f5 : Addr}
    (a5 : PySem.W.nsIn K PySem.mainGlobals "look" = some (some (.ref f5))) (l5 : K.lookup f5 = some ⟨oc5, od5, .func (PySem.W.fnOf "look" "look" (defArgs s_look) (defBody s_look) (defScope s_look) .none kV5 dc5 pm5 an5 cd5 ct5), sl5⟩) (c5 : PySem.W.codeIn K cd5 "look" = true) (k5 : PySem.W.keepIn K (.ref f5) = true)
    {od6 an6 : Option Addr} {sl6 : Array (Option Value)} {oc6 kV6 dc6 pm6 cd6 ct6 : Value} {f6 : Addr}
    (a6 : PySem.W.nsIn K PySem.mainGlobals "above" = some (some (.ref f6))) (l6 : K.lookup f6 = some ⟨oc6, od6, .func (PySem.W.fnOf "above" "above" (defArgs s_above) (defBody s_above) (defScope s_above) .none kV6 dc6 pm6 an6 cd6 ct6), sl6⟩) (c6 : PySem.W.codeIn K cd6 "above" = true) (k6 : PySem.W.keepIn K (.ref f6) = true)
    {od7 an7 : Option Addr} {sl7 : Array (Option Value)} {oc7 kV7 dc7 pm7 cd7 ct7 : Value} {f7 : Addr}
    (a7 : PySem.W.nsIn K PySem.mainGlobals "mark_of" = some (some (.ref f7))) (l7 : K.lookup f7 = some ⟨oc7, od7, .func (PySem.W.fnOf "mark_of" "mark_of" (defArgs s_mark_of) (defBody s_mark_of) (defScope s_mark_of) .none kV7 dc7 pm7 an7 cd7 ct7), sl7⟩) (c7 : PySem.W.codeIn K cd7 "mark_of" = true) (k7 : PySem.W.keepIn K (.ref f7) = true)
    {od8 an8 : Option Addr} {sl8 : Array (Option Value)} {oc8 kV8 dc8 pm8 cd8 ct8 : Value} {f8 : Addr}
    (a8 : PySem.W.nsIn K PySem.mainGlobals "settled" = some (some (.ref f8))) (l8 : K.lookup f8 = some ⟨oc8, od8, .func (PySem.W.fnOf "settled" "settled" (defArgs s_settled) (defBody s_settled) (defScope s_settled) .none kV8 dc8 pm8 an8 cd8 ct8), sl8⟩) (c8 : PySem.W.codeIn K cd8 "settled" = true) (k8 : PySem.W.keepIn K (.ref f8) = true)
    {od9 an9 : Option Addr} {sl9 : Array (Option Value)} {oc9 kV9 dc9 pm9 cd9 ct9 : Value} {f9 : Addr}
    (a9 : PySem.W.nsIn K PySem.mainGlobals "seen_from" = some (some (.ref f9))) (l9 : K.lookup f9 = some ⟨oc9, od9, .func (PySem.W.fnOf "seen_from" "seen_from" (defArgs s_seen_from) (defBody s_seen_from) (defScope s_seen_from) .none kV9 dc9 pm9 an9 cd9 ct9), sl9⟩) (c9 : PySem.W.codeIn K cd9 "seen_from" = true) (k9 : PySem.W.keepIn K (.ref f9) = true)
    {od10 an10 : Option Addr} {sl10 : Array (Option Value)} {oc10 kV10 dc10 pm10 cd10 ct10 : Value} {f10 : Addr}
    (a10 : PySem.W.nsIn K PySem.mainGlobals "seen" = some (some (.ref f10))) (l10 : K.lookup f10 = some ⟨oc10, od10, .func (PySem.W.fnOf "seen" "seen" (defArgs s_seen) (defBody s_seen) (defScope s_seen) .none kV10 dc10 pm10 an10 cd10 ct10), sl10⟩) (c10 : PySem.W.codeIn K cd10 "seen" = true) (k10 : PySem.W.keepIn K (.ref f10) = true)
    {od11 an11 : Option Addr} {sl11 : Array (Option Value)} {oc11 kV11 dc11 pm11 cd11 ct11 : Value} {f11 : Addr}
    (a11 : PySem.W.nsIn K PySem.mainGlobals "seen_in" = some (some (.ref f11))) (l11 : K.lookup f11 = some ⟨oc11, od11, .func (PySem.W.fnOf "seen_in" "seen_in" (defArgs s_seen_in) (defBody s_seen_in) (defScope s_seen_in) .none kV11 dc11 pm11 an11 cd11 ct11), sl11⟩) (c11 : PySem.W.codeIn K cd11 "seen_in" = true) (k11 : PySem.W.keepIn K (.ref f11) = true)
    {od12 an12 : Option Addr} {sl12 : Array (Option Value)} {oc12 kV12 dc12 pm12 cd12 ct12 : Value} {f12 : Addr}
    (a12 : PySem.W.nsIn K PySem.mainGlobals "_law_cell_at" = some (some (.ref f12))) (l12 : K.lookup f12 = some ⟨oc12, od12, .func (PySem.W.fnOf "_law_cell_at" "_law_cell_at" (defArgs s__law_cell_at) (defBody s__law_cell_at) (defScope s__law_cell_at) .none kV12 dc12 pm12 an12 cd12 ct12), sl12⟩) (c12 : PySem.W.codeIn K cd12 "_law_cell_at" = true) (k12 : PySem.W.keepIn K (.ref f12) = true)
    {od13 an13 : Option Addr} {sl13 : Array (Option Value)} {oc13 kV13 dc13 pm13 cd13 ct13 : Value} {f13 : Addr}
    (a13 : PySem.W.nsIn K PySem.mainGlobals "_law_mixed" = some (some (.ref f13))) (l13 : K.lookup f13 = some ⟨oc13, od13, .func (PySem.W.fnOf "_law_mixed" "_law_mixed" (defArgs s__law_mixed) (defBody s__law_mixed) (defScope s__law_mixed) .none kV13 dc13 pm13 an13 cd13 ct13), sl13⟩) (c13 : PySem.W.codeIn K cd13 "_law_mixed" = true) (k13 : PySem.W.keepIn K (.ref f13) = true)
    {od14 an14 : Option Addr} {sl14 : Array (Option Value)} {oc14 kV14 dc14 pm14 cd14 ct14 : Value} {f14 : Addr}
    (a14 : PySem.W.nsIn K PySem.mainGlobals "_law_names" = some (some (.ref f14))) (l14 : K.lookup f14 = some ⟨oc14, od14, .func (PySem.W.fnOf "_law_names" "_law_names" (defArgs s__law_names) (defBody s__law_names) (defScope s__law_names) .none kV14 dc14 pm14 an14 cd14 ct14), sl14⟩) (c14 : PySem.W.codeIn K cd14 "_law_names" = true) (k14 : PySem.W.keepIn K (.ref f14) = true)
    {od15 an15 : Option Addr} {sl15 : Array (Option Value)} {oc15 kV15 dc15 pm15 cd15 ct15 : Value} {f15 : Addr}
    (a15 : PySem.W.nsIn K PySem.mainGlobals "_law_great" = some (some (.ref f15))) (l15 : K.lookup f15 = some ⟨oc15, od15, .func (PySem.W.fnOf "_law_great" "_law_great" (defArgs s__law_great) (defBody s__law_great) (defScope s__law_great) .none kV15 dc15 pm15 an15 cd15 ct15), sl15⟩) (c15 : PySem.W.codeIn K cd15 "_law_great" = true) (k15 : PySem.W.keepIn K (.ref f15) = true)
    {od16 an16 : Option Addr} {sl16 : Array (Option Value)} {oc16 kV16 dc16 pm16 cd16 ct16 : Value} {f16 : Addr}
    (a16 : PySem.W.nsIn K PySem.mainGlobals "_law_wood" = some (some (.ref f16))) (l16 : K.lookup f16 = some ⟨oc16, od16, .func (PySem.W.fnOf "_law_wood" "_law_wood" (defArgs s__law_wood) (defBody s__law_wood) (defScope s__law_wood) .none kV16 dc16 pm16 an16 cd16 ct16), sl16⟩) (c16 : PySem.W.codeIn K cd16 "_law_wood" = true) (k16 : PySem.W.keepIn K (.ref f16) = true)
    {od17 an17 : Option Addr} {sl17 : Array (Option Value)} {oc17 kV17 dc17 pm17 cd17 ct17 : Value} {f17 : Addr}
    (a17 : PySem.W.nsIn K PySem.mainGlobals "_law_term" = some (some (.ref f17))) (l17 : K.lookup f17 = some ⟨oc17, od17, .func (PySem.W.fnOf "_law_term" "_law_term" (defArgs s__law_term) (defBody s__law_term) (defScope s__law_term) .none kV17 dc17 pm17 an17 cd17 ct17), sl17⟩) (c17 : PySem.W.codeIn K cd17 "_law_term" = true) (k17 : PySem.W.keepIn K (.ref f17) = true)
    {od18 an18 : Option Addr} {sl18 : Array (Option Value)} {oc18 kV18 dc18 pm18 cd18 ct18 : Value} {f18 : Addr}
    (a18 : PySem.W.nsIn K PySem.mainGlobals "_law_calls" = some (some (.ref f18))) (l18 : K.lookup f18 = some ⟨oc18, od18, .func (PySem.W.fnOf "_law_calls" "_law_calls" (defArgs s__law_calls) (defBody s__law_calls) (defScope s__law_calls) .none kV18 dc18 pm18 an18 cd18 ct18), sl18⟩) (c18 : PySem.W.codeIn K cd18 "_law_calls" = true) (k18 : PySem.W.keepIn K (.ref f18) = true)
    {od19 an19 : Option Addr} {sl19 : Array (Option Value)} {oc19 kV19 dc19 pm19 cd19 ct19 : Value} {f19 : Addr}
    (a19 : PySem.W.nsIn K PySem.mainGlobals "_law_turning" = some (some (.ref f19))) (l19 : K.lookup f19 = some ⟨oc19, od19, .func (PySem.W.fnOf "_law_turning" "_law_turning" (defArgs s__law_turning) (defBody s__law_turning) (defScope s__law_turning) .none kV19 dc19 pm19 an19 cd19 ct19), sl19⟩) (c19 : PySem.W.codeIn K cd19 "_law_turning" = true) (k19 : PySem.W.keepIn K (.ref f19) = true)
    {od20 an20 : Option Addr} {sl20 : Array (Option Value)} {oc20 kV20 dc20 pm20 cd20 ct20 : Value} {f20 : Addr}
    (a20 : PySem.W.nsIn K PySem.mainGlobals "_law_mark" = some (some (.ref f20))) (l20 : K.lookup f20 = some ⟨oc20, od20, .func (PySem.W.fnOf "_law_mark" "_law_mark" (defArgs s__law_mark) (defBody s__law_mark) (defScope s__law_mark) .none kV20 dc20 pm20 an20 cd20 ct20), sl20⟩) (c20 : PySem.W.codeIn K cd20 "_law_mark" = true) (k20 : PySem.W.keepIn K (.ref f20) = true)
    {od21 an21 : Option Addr} {sl21 : Array (Option Value)} {oc21 kV21 dc21 pm21 cd21 ct21 : Value} {f21 : Addr}
    (a21 : PySem.W.nsIn K PySem.mainGlobals "_law_grown" = some (some (.ref f21))) (l21 : K.lookup f21 = some ⟨oc21, od21, .func (PySem.W.fnOf "_law_grown" "_law_grown" (defArgs s__law_grown) (defBody s__law_grown) (defScope s__law_grown) .none kV21 dc21 pm21 an21 cd21 ct21), sl21⟩) (c21 : PySem.W.codeIn K cd21 "_law_grown" = true) (k21 : PySem.W.keepIn K (.ref f21) = true)
    {od22 an22 : Option Addr} {sl22 : Array (Option Value)} {oc22 kV22 dc22 pm22 cd22 ct22 : Value} {f22 : Addr}
    (a22 : PySem.W.nsIn K PySem.mainGlobals "_law_built" = some (some (.ref f22))) (l22 : K.lookup f22 = some ⟨oc22, od22, .func (PySem.W.fnOf "_law_built" "_law_built" (defArgs s__law_built) (defBody s__law_built) (defScope s__law_built) .none kV22 dc22 pm22 an22 cd22 ct22), sl22⟩) (c22 : PySem.W.codeIn K cd22 "_law_built" = true) (k22 : PySem.W.keepIn K (.ref f22) = true)
    {od23 an23 : Option Addr} {sl23 : Array (Option Value)} {oc23 kV23 dc23 pm23 cd23 ct23 : Value} {f23 : Addr}
    (a23 : PySem.W.nsIn K PySem.mainGlobals "_law_rule" = some (some (.ref f23))) (l23 : K.lookup f23 = some ⟨oc23, od23, .func (PySem.W.fnOf "_law_rule" "_law_rule" (defArgs s__law_rule) (defBody s__law_rule) (defScope s__law_rule) .none kV23 dc23 pm23 an23 cd23 ct23), sl23⟩) (c23 : PySem.W.codeIn K cd23 "_law_rule" = true) (k23 : PySem.W.keepIn K (.ref f23) = true)
    {od24 an24 : Option Addr} {sl24 : Array (Option Value)} {oc24 kV24 dc24 pm24 cd24 ct24 : Value} {f24 : Addr}
    (a24 : PySem.W.nsIn K PySem.mainGlobals "_law_come" = some (some (.ref f24))) (l24 : K.lookup f24 = some ⟨oc24, od24, .func (PySem.W.fnOf "_law_come" "_law_come" (defArgs s__law_come) (defBody s__law_come) (defScope s__law_come) .none kV24 dc24 pm24 an24 cd24 ct24), sl24⟩) (c24 : PySem.W.codeIn K cd24 "_law_come" = true) (k24 : PySem.W.keepIn K (.ref f24) = true)
    {od25 an25 : Option Addr} {sl25 : Array (Option Value)} {oc25 kV25 dc25 pm25 cd25 ct25 : Value} {f25 : Addr}
    (a25 : PySem.W.nsIn K PySem.mainGlobals "_law_label" = some (some (.ref f25))) (l25 : K.lookup f25 = some ⟨oc25, od25, .func (PySem.W.fnOf "_law_label" "_law_label" (defArgs s__law_label) (defBody s__law_label) (defScope s__law_label) .none kV25 dc25 pm25 an25 cd25 ct25), sl25⟩) (c25 : PySem.W.codeIn K cd25 "_law_label" = true) (k25 : PySem.W.keepIn K (.ref f25) = true)
    {od26 an26 : Option Addr} {sl26 : Array (Option Value)} {oc26 kV26 dc26 pm26 cd26 ct26 : Value} {f26 : Addr}
    (a26 : PySem.W.nsIn K PySem.mainGlobals "_law_labels" = some (some (.ref f26))) (l26 : K.lookup f26 = some ⟨oc26, od26, .func (PySem.W.fnOf "_law_labels" "_law_labels" (defArgs s__law_labels) (defBody s__law_labels) (defScope s__law_labels) .none kV26 dc26 pm26 an26 cd26 ct26), sl26⟩) (c26 : PySem.W.codeIn K cd26 "_law_labels" = true) (k26 : PySem.W.keepIn K (.ref f26) = true)
    {od27 an27 : Option Addr} {sl27 : Array (Option Value)} {oc27 kV27 dc27 pm27 cd27 ct27 : Value} {f27 : Addr}
    (a27 : PySem.W.nsIn K PySem.mainGlobals "_law_whole" = some (some (.ref f27))) (l27 : K.lookup f27 = some ⟨oc27, od27, .func (PySem.W.fnOf "_law_whole" "_law_whole" (defArgs s__law_whole) (defBody s__law_whole) (defScope s__law_whole) .none kV27 dc27 pm27 an27 cd27 ct27), sl27⟩) (c27 : PySem.W.codeIn K cd27 "_law_whole" = true) (k27 : PySem.W.keepIn K (.ref f27) = true)
    {od28 an28 : Option Addr} {sl28 : Array (Option Value)} {oc28 kV28 dc28 pm28 cd28 ct28 : Value} {f28 : Addr}
    (a28 : PySem.W.nsIn K PySem.mainGlobals "_law_copy" = some (some (.ref f28))) (l28 : K.lookup f28 = some ⟨oc28, od28, .func (PySem.W.fnOf "_law_copy" "_law_copy" (defArgs s__law_copy) (defBody s__law_copy) (defScope s__law_copy) .none kV28 dc28 pm28 an28 cd28 ct28), sl28⟩) (c28 : PySem.W.codeIn K cd28 "_law_copy" = true) (k28 : PySem.W.keepIn K (.ref f28) = true)
    {od29 an29 : Option Addr} {sl29 : Array (Option Value)} {oc29 kV29 dc29 pm29 cd29 ct29 : Value} {f29 : Addr}
    (a29 : PySem.W.nsIn K PySem.mainGlobals "_law_ways" = some (some (.ref f29))) (l29 : K.lookup f29 = some ⟨oc29, od29, .func (PySem.W.fnOf "_law_ways" "_law_ways" (defArgs s__law_ways) (defBody s__law_ways) (defScope s__law_ways) .none kV29 dc29 pm29 an29 cd29 ct29), sl29⟩) (c29 : PySem.W.codeIn K cd29 "_law_ways" = true) (k29 : PySem.W.keepIn K (.ref f29) = true)
    {od30 an30 : Option Addr} {sl30 : Array (Option Value)} {oc30 kV30 dc30 pm30 cd30 ct30 : Value} {f30 : Addr}
    (a30 : PySem.W.nsIn K PySem.mainGlobals "_law_astray" = some (some (.ref f30))) (l30 : K.lookup f30 = some ⟨oc30, od30, .func (PySem.W.fnOf "_law_astray" "_law_astray" (defArgs s__law_astray) (defBody s__law_astray) (defScope s__law_astray) .none kV30 dc30 pm30 an30 cd30 ct30), sl30⟩) (c30 : PySem.W.codeIn K cd30 "_law_astray" = true) (k30 : PySem.W.keepIn K (.ref f30) = true)
    {od31 an31 : Option Addr} {sl31 : Array (Option Value)} {oc31 kV31 dc31 pm31 cd31 ct31 : Value} {f31 : Addr}
    (a31 : PySem.W.nsIn K PySem.mainGlobals "_law_in_mode" = some (some (.ref f31))) (l31 : K.lookup f31 = some ⟨oc31, od31, .func (PySem.W.fnOf "_law_in_mode" "_law_in_mode" (defArgs s__law_in_mode) (defBody s__law_in_mode) (defScope s__law_in_mode) .none kV31 dc31 pm31 an31 cd31 ct31), sl31⟩) (c31 : PySem.W.codeIn K cd31 "_law_in_mode" = true) (k31 : PySem.W.keepIn K (.ref f31) = true)
    {od32 an32 : Option Addr} {sl32 : Array (Option Value)} {oc32 kV32 dc32 pm32 cd32 ct32 : Value} {f32 : Addr}
    (a32 : PySem.W.nsIn K PySem.mainGlobals "law" = some (some (.ref f32))) (l32 : K.lookup f32 = some ⟨oc32, od32, .func (PySem.W.fnOf "law" "law" (defArgs s_law) (defBody s_law) (defScope s_law) .none kV32 dc32 pm32 an32 cd32 ct32), sl32⟩) (c32 : PySem.W.codeIn K cd32 "law" = true) (k32 : PySem.W.keepIn K (.ref f32) = true)
    (z_bool : PySem.W.nsIn K PySem.mainGlobals "bool" = some none)
    (z_dict : PySem.W.nsIn K PySem.mainGlobals "dict" = some none)
    (z_enumerate : PySem.W.nsIn K PySem.mainGlobals "enumerate" = some none)
    (z_int : PySem.W.nsIn K PySem.mainGlobals "int" = some none)
    (z_isinstance : PySem.W.nsIn K PySem.mainGlobals "isinstance" = some none)
    (z_len : PySem.W.nsIn K PySem.mainGlobals "len" = some none)
    (z_list : PySem.W.nsIn K PySem.mainGlobals "list" = some none)
    (z_range : PySem.W.nsIn K PySem.mainGlobals "range" = some none)
    (z_reversed : PySem.W.nsIn K PySem.mainGlobals "reversed" = some none)
    (z_sorted : PySem.W.nsIn K PySem.mainGlobals "sorted" = some none)
    (z_str : PySem.W.nsIn K PySem.mainGlobals "str" = some none)
    (z_tuple : PySem.W.nsIn K PySem.mainGlobals "tuple" = some none)
    (z_zip : PySem.W.nsIn K PySem.mainGlobals "zip" = some none)
    {C_NoTree : Addr} (e_NoTree : PySem.W.nsIn K PySem.mainGlobals "NoTree" = some (some (.ref C_NoTree)))
    (xb_NoTree : PySem.W.subIn K (.ref C_NoTree) (.type "BaseException") = some true)
    (xt_NoTree : PySem.W.typeIn K (.ref C_NoTree) = some (.type "type"))
    (xd_NoTree : PySem.W.hasDictIn K C_NoTree = true)
    (xs_NoTree : PySem.W.subIn K (.ref C_NoTree) (.ref C_NoTree) = some true)
    (xe_NoTree : PySem.W.excIn K C_NoTree [.type "ValueError", .type "Exception", .type "BaseException", .type "object"] "ValueError.__new__" = true)
    (xk_NoTree : PySem.W.keepIn K (.ref C_NoTree) = true) :
    ∃ fd : FuncData, (∀ (s : Shared) (v : Value), BindsTo s fd ⟨[v], []⟩ [("_law_script", v)]) ∧ ∀ base : Heap, K.In base → base.Ns PySem.mainGlobals mg → FnOk l.prog w K mg base (L2.CX l.prog w) L fa fd ["_law_script"] (spM K mg 1 (mir L 32)) := by
  have e := hfa.symm.trans (PySem.W.mg_of X G a32)
  cases e
  have F0 := fun_mk (st := s_rows_of) l0 c0 k0
  have F1 := fun_mk (st := s_row_of) l1 c1 k1
  have F2 := fun_mk (st := s_is_of) l2 c2 k2
  have F3 := fun_mk (st := s_row_number) l3 c3 k3
  have F4 := fun_mk (st := s_rule_of) l4 c4 k4
  have F5 := fun_mk (st := s_look) l5 c5 k5
  have F6 := fun_mk (st := s_above) l6 c6 k6
  have F7 := fun_mk (st := s_mark_of) l7 c7 k7
  have F8 := fun_mk (st := s_settled) l8 c8 k8
  have F9 := fun_mk (st := s_seen_from) l9 c9 k9
  have F10 := fun_mk (st := s_seen) l10 c10 k10
  have F11 := fun_mk (st := s_seen_in) l11 c11 k11
  have F12 := fun_mk (st := s__law_cell_at) l12 c12 k12
  have F13 := fun_mk (st := s__law_mixed) l13 c13 k13
  have F14 := fun_mk (st := s__law_names) l14 c14 k14
  have F15 := fun_mk (st := s__law_great) l15 c15 k15
  have F16 := fun_mk (st := s__law_wood) l16 c16 k16
  have F17 := fun_mk (st := s__law_term) l17 c17 k17
  have F18 := fun_mk (st := s__law_calls) l18 c18 k18
  have F19 := fun_mk (st := s__law_turning) l19 c19 k19
  have F20 := fun_mk (st := s__law_mark) l20 c20 k20
  have F21 := fun_mk (st := s__law_grown) l21 c21 k21
  have F22 := fun_mk (st := s__law_built) l22 c22 k22
  have F23 := fun_mk (st := s__law_rule) l23 c23 k23
  have F24 := fun_mk (st := s__law_come) l24 c24 k24
  have F25 := fun_mk (st := s__law_label) l25 c25 k25
  have F26 := fun_mk (st := s__law_labels) l26 c26 k26
  have F27 := fun_mk (st := s__law_whole) l27 c27 k27
  have F28 := fun_mk (st := s__law_copy) l28 c28 k28
  have F29 := fun_mk (st := s__law_ways) l29 c29 k29
  have F30 := fun_mk (st := s__law_astray) l30 c30 k30
  have F31 := fun_mk (st := s__law_in_mode) l31 c31 k31
  have F32 := fun_mk (st := s_law) l32 c32 k32
  have T : Txt K mg (pick 0 [f0, f1, f2, f3, f4, f5, f6, f7, f8, f9, f10, f11, f12, f13, f14, f15, f16, f17, f18, f19, f20, f21, f22, f23, f24, f25, f26, f27, f28, f29, f30, f31, fa]) (pick (PySem.W.fnOf "law" "law" (defArgs s_law) (defBody s_law) (defScope s_law) .none kV32 dc32 pm32 an32 cd32 ct32) [PySem.W.fnOf "rows_of" "rows_of" (defArgs s_rows_of) (defBody s_rows_of) (defScope s_rows_of) .none kV0 dc0 pm0 an0 cd0 ct0, PySem.W.fnOf "row_of" "row_of" (defArgs s_row_of) (defBody s_row_of) (defScope s_row_of) .none kV1 dc1 pm1 an1 cd1 ct1, PySem.W.fnOf "is_of" "is_of" (defArgs s_is_of) (defBody s_is_of) (defScope s_is_of) .none kV2 dc2 pm2 an2 cd2 ct2, PySem.W.fnOf "row_number" "row_number" (defArgs s_row_number) (defBody s_row_number) (defScope s_row_number) .none kV3 dc3 pm3 an3 cd3 ct3, PySem.W.fnOf "rule_of" "rule_of" (defArgs s_rule_of) (defBody s_rule_of) (defScope s_rule_of) .none kV4 dc4 pm4 an4 cd4 ct4, PySem.W.fnOf "look" "look" (defArgs s_look) (defBody s_look) (defScope s_look) .none kV5 dc5 pm5 an5 cd5 ct5, PySem.W.fnOf "above" "above" (defArgs s_above) (defBody s_above) (defScope s_above) .none kV6 dc6 pm6 an6 cd6 ct6, PySem.W.fnOf "mark_of" "mark_of" (defArgs s_mark_of) (defBody s_mark_of) (defScope s_mark_of) .none kV7 dc7 pm7 an7 cd7 ct7, PySem.W.fnOf "settled" "settled" (defArgs s_settled) (defBody s_settled) (defScope s_settled) .none kV8 dc8 pm8 an8 cd8 ct8, PySem.W.fnOf "seen_from" "seen_from" (defArgs s_seen_from) (defBody s_seen_from) (defScope s_seen_from) .none kV9 dc9 pm9 an9 cd9 ct9, PySem.W.fnOf "seen" "seen" (defArgs s_seen) (defBody s_seen) (defScope s_seen) .none kV10 dc10 pm10 an10 cd10 ct10, PySem.W.fnOf "seen_in" "seen_in" (defArgs s_seen_in) (defBody s_seen_in) (defScope s_seen_in) .none kV11 dc11 pm11 an11 cd11 ct11, PySem.W.fnOf "_law_cell_at" "_law_cell_at" (defArgs s__law_cell_at) (defBody s__law_cell_at) (defScope s__law_cell_at) .none kV12 dc12 pm12 an12 cd12 ct12, PySem.W.fnOf "_law_mixed" "_law_mixed" (defArgs s__law_mixed) (defBody s__law_mixed) (defScope s__law_mixed) .none kV13 dc13 pm13 an13 cd13 ct13, PySem.W.fnOf "_law_names" "_law_names" (defArgs s__law_names) (defBody s__law_names) (defScope s__law_names) .none kV14 dc14 pm14 an14 cd14 ct14, PySem.W.fnOf "_law_great" "_law_great" (defArgs s__law_great) (defBody s__law_great) (defScope s__law_great) .none kV15 dc15 pm15 an15 cd15 ct15, PySem.W.fnOf "_law_wood" "_law_wood" (defArgs s__law_wood) (defBody s__law_wood) (defScope s__law_wood) .none kV16 dc16 pm16 an16 cd16 ct16, PySem.W.fnOf "_law_term" "_law_term" (defArgs s__law_term) (defBody s__law_term) (defScope s__law_term) .none kV17 dc17 pm17 an17 cd17 ct17, PySem.W.fnOf "_law_calls" "_law_calls" (defArgs s__law_calls) (defBody s__law_calls) (defScope s__law_calls) .none kV18 dc18 pm18 an18 cd18 ct18, PySem.W.fnOf "_law_turning" "_law_turning" (defArgs s__law_turning) (defBody s__law_turning) (defScope s__law_turning) .none kV19 dc19 pm19 an19 cd19 ct19, PySem.W.fnOf "_law_mark" "_law_mark" (defArgs s__law_mark) (defBody s__law_mark) (defScope s__law_mark) .none kV20 dc20 pm20 an20 cd20 ct20, PySem.W.fnOf "_law_grown" "_law_grown" (defArgs s__law_grown) (defBody s__law_grown) (defScope s__law_grown) .none kV21 dc21 pm21 an21 cd21 ct21, PySem.W.fnOf "_law_built" "_law_built" (defArgs s__law_built) (defBody s__law_built) (defScope s__law_built) .none kV22 dc22 pm22 an22 cd22 ct22, PySem.W.fnOf "_law_rule" "_law_rule" (defArgs s__law_rule) (defBody s__law_rule) (defScope s__law_rule) .none kV23 dc23 pm23 an23 cd23 ct23, PySem.W.fnOf "_law_come" "_law_come" (defArgs s__law_come) (defBody s__law_come) (defScope s__law_come) .none kV24 dc24 pm24 an24 cd24 ct24, PySem.W.fnOf "_law_label" "_law_label" (defArgs s__law_label) (defBody s__law_label) (defScope s__law_label) .none kV25 dc25 pm25 an25 cd25 ct25, PySem.W.fnOf "_law_labels" "_law_labels" (defArgs s__law_labels) (defBody s__law_labels) (defScope s__law_labels) .none kV26 dc26 pm26 an26 cd26 ct26, PySem.W.fnOf "_law_whole" "_law_whole" (defArgs s__law_whole) (defBody s__law_whole) (defScope s__law_whole) .none kV27 dc27 pm27 an27 cd27 ct27, PySem.W.fnOf "_law_copy" "_law_copy" (defArgs s__law_copy) (defBody s__law_copy) (defScope s__law_copy) .none kV28 dc28 pm28 an28 cd28 ct28, PySem.W.fnOf "_law_ways" "_law_ways" (defArgs s__law_ways) (defBody s__law_ways) (defScope s__law_ways) .none kV29 dc29 pm29 an29 cd29 ct29, PySem.W.fnOf "_law_astray" "_law_astray" (defArgs s__law_astray) (defBody s__law_astray) (defScope s__law_astray) .none kV30 dc30 pm30 an30 cd30 ct30, PySem.W.fnOf "_law_in_mode" "_law_in_mode" (defArgs s__law_in_mode) (defBody s__law_in_mode) (defScope s__law_in_mode) .none kV31 dc31 pm31 an31 cd31 ct31, PySem.W.fnOf "law" "law" (defArgs s_law) (defBody s_law) (defScope s_law) .none kV32 dc32 pm32 an32 cd32 ct32]) (pick 0 [C_NoTree]) := {
    F_rows_of := F0,
    B_rows_of := F0.binds (ps := ["wood", "kind"]) fun _ _ _ _ _ _ us hl => match us, hl with | [_, _], _ => rfl,
    M_rows_of := PySem.W.mg_of X G a0,
    F_row_of := F1,
    B_row_of := F1.binds (ps := ["wood", "kind", "name"]) fun _ _ _ _ _ _ us hl => match us, hl with | [_, _, _], _ => rfl,
    M_row_of := PySem.W.mg_of X G a1,
    F_is_of := F2,
    B_is_of := F2.binds (ps := ["wood", "kind", "tree"]) fun _ _ _ _ _ _ us hl => match us, hl with | [_, _, _], _ => rfl,
    M_is_of := PySem.W.mg_of X G a2,
    F_row_number := F3,
    B_row_number := F3.binds (ps := ["wood", "kind", "name"]) fun _ _ _ _ _ _ us hl => match us, hl with | [_, _, _], _ => rfl,
    M_row_number := PySem.W.mg_of X G a3,
    F_rule_of := F4,
    B_rule_of := F4.binds (ps := ["turning", "mode", "name"]) fun _ _ _ _ _ _ us hl => match us, hl with | [_, _, _], _ => rfl,
    M_rule_of := PySem.W.mg_of X G a4,
    F_look := F5,
    B_look := F5.binds (ps := ["turning", "kind", "tree"]) fun _ _ _ _ _ _ us hl => match us, hl with | [_, _, _], _ => rfl,
    M_look := PySem.W.mg_of X G a5,
    F_above := F6,
    B_above := F6.binds (ps := ["tree"]) fun _ _ _ _ _ _ us hl => match us, hl with | [_], _ => rfl,
    M_above := PySem.W.mg_of X G a6,
    F_mark_of := F7,
    B_mark_of := F7.binds (ps := ["put", "read"]) fun _ _ _ _ _ _ us hl => match us, hl with | [_, _], _ => rfl,
    M_mark_of := PySem.W.mg_of X G a7,
    F_settled := F8,
    B_settled := F8.binds (ps := ["turning", "term", "read"]) fun _ _ _ _ _ _ us hl => match us, hl with | [_, _, _], _ => rfl,
    M_settled := PySem.W.mg_of X G a8,
    F_seen_from := F9,
    B_seen_from := F9.binds (ps := ["turning", "term", "read", "place"]) fun _ _ _ _ _ _ us hl => match us, hl with | [_, _, _, _], _ => rfl,
    M_seen_from := PySem.W.mg_of X G a9,
    F_seen := F10,
    B_seen := F10.binds (ps := ["turning", "tree", "place"]) fun _ _ _ _ _ _ us hl => match us, hl with | [_, _, _], _ => rfl,
    M_seen := PySem.W.mg_of X G a10,
    F_seen_in := F11,
    B_seen_in := F11.binds (ps := ["turning", "mode", "tree", "place"]) fun _ _ _ _ _ _ us hl => match us, hl with | [_, _, _, _], _ => rfl,
    M_seen_in := PySem.W.mg_of X G a11,
    F__law_cell_at := F12,
    B__law_cell_at := F12.binds (ps := ["_law_script", "_law_k"]) fun _ _ _ _ _ _ us hl => match us, hl with | [_, _], _ => rfl,
    M__law_cell_at := PySem.W.mg_of X G a12,
    F__law_mixed := F13,
    B__law_mixed := F13.binds (ps := ["_law_cell", "_law_k"]) fun _ _ _ _ _ _ us hl => match us, hl with | [_, _], _ => rfl,
    M__law_mixed := PySem.W.mg_of X G a13,
    F__law_names := F14,
    B__law_names := F14.binds (ps := ["_law_cell"]) fun _ _ _ _ _ _ us hl => match us, hl with | [_], _ => rfl,
    M__law_names := PySem.W.mg_of X G a14,
    F__law_great := F15,
    B__law_great := F15.binds (ps := ["_law_cell"]) fun _ _ _ _ _ _ us hl => match us, hl with | [_], _ => rfl,
    M__law_great := PySem.W.mg_of X G a15,
    F__law_wood := F16,
    B__law_wood := F16.binds (ps := ["_law_cell", "_law_names_here"]) fun _ _ _ _ _ _ us hl => match us, hl with | [_, _], _ => rfl,
    M__law_wood := PySem.W.mg_of X G a16,
    F__law_term := F17,
    B__law_term := F17.binds (ps := ["_law_cell", "_law_k", "_law_deep", "_law_calls_here", "_law_names_here", "_law_keep"]) fun _ _ _ _ _ _ us hl => match us, hl with | [_, _, _, _, _, _], _ => rfl,
    M__law_term := PySem.W.mg_of X G a17,
    F__law_calls := F18,
    B__law_calls := F18.binds (ps := ["_law_branches", "_law_owners"]) fun _ _ _ _ _ _ us hl => match us, hl with | [_, _], _ => rfl,
    M__law_calls := PySem.W.mg_of X G a18,
    F__law_turning := F19,
    B__law_turning := F19.binds (ps := ["_law_script", "_law_wood_here", "_law_names_here"]) fun _ _ _ _ _ _ us hl => match us, hl with | [_, _, _], _ => rfl,
    M__law_turning := PySem.W.mg_of X G a19,
    F__law_mark := F20,
    B__law_mark := F20.binds (ps := ["_law_cell", "_law_number"]) fun _ _ _ _ _ _ us hl => match us, hl with | [_, _], _ => rfl,
    M__law_mark := PySem.W.mg_of X G a20,
    F__law_grown := F21,
    B__law_grown := F21.binds (ps := ["_law_wood_here", "_law_cells", "_law_top"]) fun _ _ _ _ _ _ us hl => match us, hl with | [_, _, _], _ => rfl,
    M__law_grown := PySem.W.mg_of X G a21,
    F__law_built := F22,
    B__law_built := F22.binds (ps := ["_law_wood_here", "_law_nodes"]) fun _ _ _ _ _ _ us hl => match us, hl with | [_, _], _ => rfl,
    M__law_built := PySem.W.mg_of X G a22,
    F__law_rule := F23,
    B__law_rule := F23.binds (ps := ["_law_turning_here", "_law_mode", "_law_name"]) fun _ _ _ _ _ _ us hl => match us, hl with | [_, _, _], _ => rfl,
    M__law_rule := PySem.W.mg_of X G a23,
    F__law_come := F24,
    B__law_come := F24.binds (ps := ["_law_turning_here", "_law_term_here", "_law_read"]) fun _ _ _ _ _ _ us hl => match us, hl with | [_, _, _], _ => rfl,
    M__law_come := PySem.W.mg_of X G a24,
    F__law_label := F25,
    B__law_label := F25.binds (ps := ["_law_term_here", "_law_read"]) fun _ _ _ _ _ _ us hl => match us, hl with | [_, _], _ => rfl,
    M__law_label := PySem.W.mg_of X G a25,
    F__law_labels := F26,
    B__law_labels := F26.binds (ps := ["_law_found", "_law_due"]) fun _ _ _ _ _ _ us hl => match us, hl with | [_, _], _ => rfl,
    M__law_labels := PySem.W.mg_of X G a26,
    F__law_whole := F27,
    B__law_whole := F27.binds (ps := ["_law_found"]) fun _ _ _ _ _ _ us hl => match us, hl with | [_], _ => rfl,
    M__law_whole := PySem.W.mg_of X G a27,
    F__law_copy := F28,
    B__law_copy := F28.binds (ps := ["_law_turning_here"]) fun _ _ _ _ _ _ us hl => match us, hl with | [_], _ => rfl,
    M__law_copy := PySem.W.mg_of X G a28,
    F__law_ways := F29,
    B__law_ways := F29.binds (ps := ["_law_turning_here", "_law_tree", "_law_cells"]) fun _ _ _ _ _ _ us hl => match us, hl with | [_, _, _], _ => rfl,
    M__law_ways := PySem.W.mg_of X G a29,
    F__law_astray := F30,
    B__law_astray := F30.binds (ps := ["_law_turning_here", "_law_tree", "_law_way", "_law_marks", "_law_cell"]) fun _ _ _ _ _ _ us hl => match us, hl with | [_, _, _, _, _], _ => rfl,
    M__law_astray := PySem.W.mg_of X G a30,
    F__law_in_mode := F31,
    B__law_in_mode := F31.binds (ps := ["_law_turning_here", "_law_nodes", "_law_trees", "_law_cell"]) fun _ _ _ _ _ _ us hl => match us, hl with | [_, _, _, _], _ => rfl,
    M__law_in_mode := PySem.W.mg_of X G a31,
    F_law := F32,
    B_law := F32.binds (ps := ["_law_script"]) fun _ _ _ _ _ _ us hl => match us, hl with | [_], _ => rfl,
    M_law := PySem.W.mg_of X G a32,
    z_bool := PySem.W.mg_none_of X G z_bool,
    z_dict := PySem.W.mg_none_of X G z_dict,
    z_enumerate := PySem.W.mg_none_of X G z_enumerate,
    z_int := PySem.W.mg_none_of X G z_int,
    z_isinstance := PySem.W.mg_none_of X G z_isinstance,
    z_len := PySem.W.mg_none_of X G z_len,
    z_list := PySem.W.mg_none_of X G z_list,
    z_range := PySem.W.mg_none_of X G z_range,
    z_reversed := PySem.W.mg_none_of X G z_reversed,
    z_sorted := PySem.W.mg_none_of X G z_sorted,
    z_str := PySem.W.mg_none_of X G z_str,
    z_tuple := PySem.W.mg_none_of X G z_tuple,
    z_zip := PySem.W.mg_none_of X G z_zip,
    cx_NoTree := ⟨PySem.W.mg_of X G e_NoTree, xe_NoTree, xk_NoTree, xb_NoTree, xt_NoTree⟩ }
  refine ⟨PySem.W.fnOf "law" "law" (defArgs s_law) (defBody s_law) (defScope s_law) .none kV32 dc32 pm32 an32 cd32 ct32, fun s v => .of_eq rfl, fun base _ _ => ?_⟩
  exact (all_fns (P := l.prog) (w := w) (base := base) T L).g_law
end G
set_option Elab.async false
set_option linter.all false
set_option maxRecDepth 100000
set_option maxHeartbeats 4000000
namespace G
open PySem PySem.Spec L2 Mir
theorem rows_ok (n : Nat) (w : Wood) (k : Str) : ∃ o, mir (n + 1) 0 [encWd w, .str k] = .ok o ∧ viewD o = rwsD (rowsOf w k) := by
  obtain ⟨o, h1, h2⟩ := rowsOf_fin w k
  refine ⟨o, ?_, h2⟩
  rw [mir_rows_of, run_rows_of]
  exact h1
theorem rowOf_ok (n : Nat) (w : Wood) (k nm : Str) : mir (n + 2) 1 [encWd w, .str k, .str nm] = .ok (.d (obD (brOf (rowsOf w k) nm))) := by
  rw [mir_row_of, run_row_of]
  exact rowOf_fin k nm (rows_ok n w k)
theorem isOf_ok (w : Wood) : ∀ (n : Nat) (u : Tr) (k : Str), levT u ≤ n → mir (n + 2) 2 [encWd w, .str k, encT u] = .ok (.d (.bool (isOf w u k)))
  | 0, .mk nm mk bs, k, h => by rw [levT] at h; omega
  | n + 1, .mk nm mk bs, k, h => by
    rw [levT] at h
    rw [show n + 1 + 2 = (n + 2) + 1 from rfl, mir_is_of, run_is_of]
    exact isOf_fin k nm mk bs (rowOf_ok n w k nm) fun b hb k' => isOf_ok w n b k' (levTs_le (by omega) b hb)
theorem look_ok (n : Nat) (t : Trn) (u : Tr) (k : Str) (h : levT u ≤ n) : mir (n + 3) 5 [encTn t, .str k, encT u] = if isOf t.wood u k = true then .ok (.d .none) else .ex "NoTree" := by
  rw [mir_look, run_look]
  exact look_fin k u (isOf_ok t.wood n u k h)
theorem above_ok (n : Nat) (u : Tr) : mir (n + 1) 6 [encT u] = .ok (.d (encT (aboveT u))) := by
  rw [mir_above, run_above]
  exact above_fin u
theorem markOf_ok (n : Nat) (nm : Str) (kp : Bool) (ad : Int) (ps : List Trm) (n2 : Str) (mk : Int) (bs : List Tr) : mir (n + 1) 7 [encM (.put nm kp ad ps), encT (.mk n2 mk bs)] = .ok (.d (.int (mkOf kp ad mk))) := by
  rw [mir_mark_of, run_mark_of]
  exact markOf_fin nm kp ad ps n2 mk bs
theorem ruleOf_ok (n : Nat) {t : Trn} {k : Nat} {p : Str × List Trm} (hk : t.modes[k]? = some p) (nm : Str) (hl : p.2.length = (rowsOf t.wood p.1).length) : mir (n + 3) 4 [encTn t, .int (k : Nat), .str nm] = .ok (.d (ruleOf t.wood p nm)) := by
  rw [mir_rule_of, run_rule_of]
  refine ruleOf_fin hk nm hl ?_
  rw [mir_row_number, run_row_number]
  exact rowNumber_fin p.1 nm (rows_ok n t.wood p.1)
section
variable {t : Trn} {B : Nat} (ok : SndT t B)
include ok
end
section
variable {t : Trn} {B : Nat} (ok : SndT t B)
include ok
theorem settles_ok (n L : Nat) (hL : L < 1000000) : Settles t B L (mir (n + 4) 8) := by
  refine settles_fin ok hL (f5 := mir (n + 3) 4) (fun k p hk nm => ruleOf_ok n hk nm (ok.lens p (List.mem_of_getElem? hk))) fun ds => ?_
  rw [mir_settled, run_settled]
theorem seenFrom_ok (n : Nat) (u : Tr) (T : Trm) (ks : List Str) (p : List Int) (hu : levT u < 1000000) (hf : FitT t ks T) (hg : GoodM B T) (hk : KidsOk t.wood ks u) : mir (n + 5) 9 [encTn t, encM T, encT u, .tuple (p.map PyData.int)] = .ok (.d (labD (atT (madT t u T) p))) := by
  rw [mir_seen_from, run_seen_from]
  exact seenFrom_fin (settles_ok ok n (levT u) hu) (fun nm kp ad ps n2 mk bs => markOf_ok (n + 3) nm kp ad ps n2 mk bs) u T ks p (Nat.le_refl _) hf hg hk
theorem seen_ok (N : Nat) (u : Tr) (p : List Int) {p0 : Str × List Rw} (hp : t.wood[0]? = some p0) (h : levT u + 6 ≤ N) (hN : N ≤ 100000) (hf : FitT t [p0.1] t.start) (hg : GoodM B t.start) (hi : isOf t.wood u p0.1 = true) : mir N 10 [encTn t, encT u, .tuple (p.map PyData.int)] = .ok (.d (labD (atT (madT t (aboveT u) t.start) p))) := by
  obtain ⟨N, rfl⟩ : ∃ N', N = N' + 1 := ⟨N - 1, by omega⟩
  rw [mir_seen, run_seen]
  have la : levT (aboveT u) = levT u + 1 := by unfold aboveT; rw [levT, levTs, levTs]; omega
  refine seen_fin hp ?_ ?_ ?_
  · obtain ⟨N', rfl⟩ : ∃ N', N = N' + 3 := ⟨N - 3, by omega⟩
    rw [look_ok N' t u p0.1 (by omega), if_pos hi]
  · obtain ⟨N', rfl⟩ : ∃ N', N = N' + 1 := ⟨N - 1, by omega⟩
    exact above_ok N' u
  · obtain ⟨N', rfl⟩ : ∃ N', N = N' + 5 := ⟨N - 5, by omega⟩
    exact seenFrom_ok ok N' (aboveT u) t.start [p0.1] p (by omega) hf hg ⟨rfl, by
      show isOfs t.wood [u] [p0.1] = true
      rw [isOfs, hi, isOfs]; rfl⟩
theorem seenIn_ok (N : Nat) (u : Tr) (q : List Int) {m : Nat} {p : Str × List Trm} (hp : t.modes[m]? = some p) (h : levT u + 6 ≤ N) (hN : N ≤ 100000) (hB : 1 ≤ B) (hi : isOf t.wood u p.1 = true) : mir N 11 [encTn t, .int (m : Nat), encT u, .tuple (q.map PyData.int)] = .ok (.d (labD (atT (madT t u (ruleF t (m : Nat) (trNm u))) q))) := by
  obtain ⟨N, rfl⟩ : ∃ N', N = N' + 1 := ⟨N - 1, by omega⟩
  rw [mir_seen_in, run_seen_in]
  have la : levT (aboveT u) = levT u + 1 := by unfold aboveT; rw [levT, levTs, levTs]; omega
  have me : madT t (aboveT u) (.call (m : Nat) 0) = madT t u (ruleF t (m : Nat) (trNm u)) := madT_call (i := 0) rfl
  rw [← me]
  refine seenIn_fin hp ?_ ?_ ?_
  · obtain ⟨N', rfl⟩ : ∃ N', N = N' + 3 := ⟨N - 3, by omega⟩
    rw [look_ok N' t u p.1 (by omega), if_pos hi]
  · obtain ⟨N', rfl⟩ : ∃ N', N = N' + 1 := ⟨N - 1, by omega⟩
    exact above_ok N' u
  · obtain ⟨N', rfl⟩ : ∃ N', N = N' + 5 := ⟨N - 5, by omega⟩
    exact seenFrom_ok ok N' (aboveT u) (.call (m : Nat) 0) [p.1] q (by omega) (fun c hc => by
      rw [callsM] at hc
      rw [List.mem_singleton.mp hc]
      exact ⟨by show (0 : Int) ≤ (m : Nat); omega, Int.le_refl _, p, by rw [Int.toNat_natCast]; exact hp, rfl⟩) ⟨call_okM _ _, by rw [levM]; exact hB, by rw [sizeM]; omega⟩ ⟨rfl, by
      show isOfs t.wood [u] [p.1] = true
      rw [isOfs, hi, isOfs]; rfl⟩
end
end G
set_option Elab.async false
set_option linter.all false
set_option maxRecDepth 100000
set_option maxHeartbeats 4000000
namespace G
open PySem PySem.Spec L2 Mir
theorem cell_ok (n : Nat) (ns : List Int) (k : Nat) : mir (n + 1) 12 [scD ns, .int (k : Nat)] = .ok (.d (.int (scCell ns k))) := by
  rw [mir__law_cell_at, run__law_cell_at]
  exact cell_fin ns k
theorem mixed_ok (n : Nat) (c : Int) (j : Nat) (hj : j ≤ 1000) : mir (n + 1) 13 [.int c, .int (j : Nat)] = .ok (.d (.int (mixI c (j : Nat)))) := by
  rw [mir__law_mixed, run__law_mixed]
  exact mixed_fin c j hj
theorem names_ok (n : Nat) (c : Int) : ∃ ls, Names8 ls ∧ mir (n + 2) 14 [.int c] = .ok (nmO ls) := by
  obtain ⟨ls, a, b⟩ := names_fin c fun j hj => mixed_ok n c j (by omega)
  refine ⟨ls, a, ?_⟩
  rw [mir__law_names, run__law_names]
  exact b
theorem great_ok (n : Nat) (z : Int) : mir (n + 1) 15 [.int z] = .ok (.d (.int (greatI z))) := by
  rw [mir__law_great, run__law_great]
  exact great_fin z
theorem whole_ok (n : Nat) (z : Int) : mir (n + 1) 27 [.int z] = .ok (.d (.bool true)) := by
  rw [mir__law_whole, run__law_whole]
  exact whole_fin z
theorem wood_ok (n : Nat) {ls : List (List Nat)} (h8 : Names8 ls) (c : Int) : ∃ w, WoodOk w ∧ mir (n + 2) 16 [.int c, nsD ls] = .ok (.l (w.map fun p => .d (encKd p))) := by
  obtain ⟨k, hk, e⟩ := wood8_fin (f13 := mir (n + 1) 13) (fun c j hj => mixed_ok n c j hj) h8 rfl c
  refine ⟨_, woodOf_ok (names_at h8) hk c, ?_⟩
  rw [mir__law_wood, run__law_wood]
  exact e
section
variable {N : Nat → Str} {NS : PyData} (hN : NamesD NS N)
include hN
theorem term_ok : ∀ (d n : Nat) (c : Int) (k : Nat), d ≤ 2 → k ≤ 100 / 10 ^ d → ∀ (cs : List (Int × Int)) (kp : Bool), ∃ T, DrawnM cs d T ∧ mir (n + d + 2) 17 [.int c, .int (k : Nat), .int (d : Nat), csD cs, NS, .bool kp] = .ok (.d (encM T))
  | d, n, c, k, hd, hk, cs, kp => by
    have k100 : k ≤ 100 := Nat.le_trans hk (Nat.div_le_self _ _)
    rw [mir__law_term, run__law_term]
    refine term6_fin (fun c j hj => mixed_ok (n + d) c j hj) (fun z => great_ok (n + d) z) hN c k d k100 hd cs kp fun h j hj => ?_
    obtain ⟨d, rfl⟩ : ∃ d', d = d' + 1 := ⟨d - 1, by omega⟩
    have k2 : 3 * k + j + 1 ≤ 100 / 10 ^ d := by
      have : d = 0 ∨ d = 1 := by omega
      rcases this with rfl | rfl
      · show _ ≤ 100
        have : k ≤ 10 := hk
        omega
      · show _ ≤ 10
        have : k ≤ 1 := hk
        omega
    exact term_ok d n c (3 * k + j + 1) (by omega) k2 cs kp
theorem callsL_ok (n : Nat) (BD : PyData) (bs os : List Str) (hb : IsBr BD bs) (h1 : bs.length ≤ 3) (h2 : os.length ≤ 10) : mir (n + 1) 18 [BD, osD os] = .ok (.l ((clsOf bs os).map fun c => .d (encC c))) := by
  rw [mir__law_calls, run__law_calls]
  exact callsG_fin hb h1 h2
theorem turning_ok (n : Nat) (ns : List Int) {w : Wood} (hw : WoodOk w) : ∃ t os, t.wood = w ∧ TnDrawn t os ∧ mir (n + 5) 19 [scD ns, encWd w, NS] = .ok (.d (encTn t)) := by
  rw [mir__law_turning, run__law_turning]
  exact turningG_fin (f12 := mir (n + 4) 12) (cell := scCell ns) (fun k => cell_ok (n + 3) ns k) (fun c cs kp => term_ok hN 2 n c 0 (by decide) (by decide) cs kp) (fun BD bs os hb h1 h2 => callsL_ok hN (n + 3) BD bs os hb h1 h2) (fun c j hj => mixed_ok (n + 3) c j hj) hw
end
theorem markL_ok (n : Nat) (c z : Int) : ∃ x : Int, small250 x ∧ mir (n + 2) 20 [.int c, .int z] = .ok (.d (.int x)) := by
  rw [mir__law_mark, run__law_mark]
  exact mark3_fin (fun z => great_ok n z) c z
theorem grown_ok (n : Nat) {w : Wood} (hw : WoodOk w) (cs : List Int) (hc : cs.length ≤ 63) (top : Nat) (ht : 1 ≤ top) : ∃ nds bare, GInv w top nds bare ∧ nds.length ≤ 200 ∧ mir (n + 3) 21 [encWd w, .list (cs.map PyData.int), .int (top : Nat)] = .ok (ndsO nds) := by
  rw [mir__law_grown, run__law_grown]
  exact grown_fin hw _ top (fun c j hj => mixed_ok (n + 1) c j hj) (fun c z => markL_ok n c z) ht cs hc rfl
theorem built_ok (n : Nat) {w : Wood} (hw : WoodOk w) {top : Nat} {nds : List Nd} {bare : List Nat} (hI : GInv w top nds bare) (hl : nds.length ≤ 200) : ∃ tf : Nat → Tr, (∀ (k : Nat) (n : Nd), nds[k]? = some n → GoodK w top nds tf k n) ∧ mir (n + 2) 22 [encWd w, ndsD nds] = .ok (.l ((List.range nds.length).map fun k => .d (encT (tf k)))) := by
  rw [mir__law_built, run__law_built]
  exact built_fin hw hI hl (fun c j hj => mixed_ok n c j hj)
section
variable {t : Trn} {os : List Str} (hw : WoodOk t.wood) (ht : TnDrawn t os)
include hw ht
theorem mode_kd {k : Nat} {p : Str × List Trm} (hk : t.modes[k]? = some p) : p.1 ∈ t.wood.map (·.1) ∧ p.2.length = (rowsOf t.wood p.1).length := by
  obtain ⟨a, b, _⟩ := ht.mode k p hk
  have hl := (List.getElem?_eq_some_iff.mp hk).1
  rw [ht.len] at hl
  refine ⟨ht.kinds _ ?_, b⟩
  rw [a, List.getD_eq_getElem?_getD, List.getElem?_eq_getElem hl]
  exact List.getElem_mem hl
theorem lawRule_ok (n : Nat) {k : Nat} {p : Str × List Trm} (hk : t.modes[k]? = some p) (nm : Str) : mir (n + 1) 23 [encTn t, .int (k : Nat), .str nm] = .ok (.d (ruleOf t.wood p nm)) := by
  rw [mir__law_rule, run__law_rule]
  obtain ⟨a, b⟩ := mode_kd hw ht hk
  exact lawRule_fin hw.kinds hk a nm b
end
section
variable {t : Trn} {os : List Str} (hw : WoodOk t.wood) (ht : TnDrawn t os)
include hw ht
end
theorem copy_ok (n : Nat) {t : Trn} {os : List Str} (hw : WoodOk t.wood) (ht : TnDrawn t os) : mir (n + 1) 28 [encTn t] = .ok (.d (encTn t)) := by
  rw [mir__law_copy, run__law_copy]
  exact copy_fin (by have := hw.some; omega) (by have := ht.cnt; rw [ht.len]; omega)
structure DrawnAll (n : Nat) (ns cs : List Int) (top : Nat) (NO WO NDO TO : Ow) (NS : PyData) (t : Trn) (os : List Str) (nds : List Nd) (bare : List Nat) (tf : Nat → Tr) : Prop where
  names : mir (n + 7) 14 [.int (scCell ns 0)] = .ok NO
  vnames : viewD NO = NS
  wood : mir (n + 7) 16 [.int (scCell ns 1), NS] = .ok WO
  vwood : viewD WO = encWd t.wood
  hw : WoodOk t.wood
  ht : TnDrawn t os
  turning : mir (n + 7) 19 [scD ns, encWd t.wood, NS] = .ok (.d (encTn t))
  grown : mir (n + 7) 21 [encWd t.wood, .list (cs.map PyData.int), .int (top : Nat)] = .ok NDO
  vgrown : viewD NDO = ndsD nds
  inv : GInv t.wood top nds bare
  few : nds.length ≤ 200
  built : mir (n + 7) 22 [encWd t.wood, ndsD nds] = .ok TO
  vbuilt : viewD TO = .list ((List.range nds.length).map fun k => encT (tf k))
  good : ∀ (k : Nat) (n : Nd), nds[k]? = some n → GoodK t.wood top nds tf k n
  nms : ∃ N, NamesD NS N
theorem drawn_all (n : Nat) (ns cs : List Int) (hc : cs.length ≤ 63) (top : Nat) (h1 : 1 ≤ top) : ∃ NO WO NDO TO NS t os nds bare tf, DrawnAll n ns cs top NO WO NDO TO NS t os nds bare tf := by
  obtain ⟨ls, l8, hn⟩ := names_ok (n + 5) (scCell ns 0)
  obtain ⟨w, hw, hwd⟩ := wood_ok (n + 5) l8 (scCell ns 1)
  obtain ⟨t, os, tw, ht, htn⟩ := turning_ok (names_at l8) (n + 2) ns hw
  subst tw
  obtain ⟨nds, bare, hI, hl, hg⟩ := grown_ok (n + 4) hw cs hc top h1
  obtain ⟨tf, hgk, hb⟩ := built_ok (n + 5) hw hI hl
  exact ⟨_, _, _, _, nsD ls, t, os, nds, bare, tf, hn, viewD_nmO ls, hwd, viewD_of encKd t.wood, hw, ht, htn, hg, viewD_nds nds, hI, hl, hb, viewD_of (fun k => encT (tf k)) _, hgk, _, names_at l8⟩
end G
set_option Elab.async false
set_option linter.all false
set_option maxRecDepth 100000
set_option maxHeartbeats 4000000
namespace G
open PySem PySem.Spec L2 Mir
noncomputable section
abbrev lwBody (m : Nat → List PyData → R Ow) : Ev → SR := (sSeq (sSet 10 (eM (eBin gMod (eM (eB (aCons (eM (eB (aCons (eVar 0) (aCons (eC (.int 3)) aNil)) (m 12)) viewD) (aCons (eM (eCa gLen (aCons (eVar 8) aNil)) viewD) aNil)) (m 13)) viewD) (eM (eCa gLen (aCons (eVar 9) aNil)) viewD)) Ow.d))
    (sSeq (sIf (tNotE (eB (eM (eB (aCons (eM (eB (aCons (eVar 7) (aCons (eVar 6) (aCons (eM (eCa gTuple (aCons (eVar 8) aNil)) viewD) aNil))) (m 10)) viewD) (aCons (eBin gIx (eVar 9) (eB (eC (.int 1)) gNeg)) aNil)) (m 26)) viewD) asB))
    (sRet (eM (eC (.bool false)) Ow.d))
    sSkip)
    (sSeq (sIf (tNotE (eB (eM (eB (aCons (eM (eB (aCons (eVar 7) (aCons (eVar 6) (aCons (eM (eCa gTuple (aCons (eB (eSl (eVar 8) oNone (eB (eVar 10) asI)) shD) aNil)) viewD) aNil))) (m 10)) viewD) (aCons (eBin gIx (eVar 9) (eVar 10)) aNil)) (m 26)) viewD) asB))
    (sRet (eM (eC (.bool false)) Ow.d))
    sSkip)
    (sSeq (sIf (tAndE (eB (eBin gEq (eBin gIx (eBin gIx (eVar 9) (eB (eC (.int 1)) gNeg)) (eC (.int 2))) (eC (.int 0))) asB) (eB (eBin gNotN (eM (eB (aCons (eVar 7) (aCons (eVar 6) (aCons (eM (eCa gTuple (aCons (eB (eBinO gAdd (eVar 8) (eB (eLst (aCons (eC (.int 0)) aNil)) shD)) shD) aNil)) viewD) aNil))) (m 10)) viewD) (eC .none)) asB))
    (sRet (eM (eC (.bool false)) Ow.d))
    sSkip)
    (sIf (tNotE (eB (eM (eB (aCons (eVar 7) (aCons (eVar 6) (aCons (eVar 8) (aCons (eVar 9) (aCons (eM (eB (aCons (eVar 0) (aCons (eM (eBinO gAdd (eC (.int 3)) (eB (eCa gLen (aCons (eVar 8) aNil)) shD)) viewD) aNil)) (m 12)) viewD) aNil))))) (m 30)) viewD) asB))
    (sRet (eM (eC (.bool false)) Ow.d))
    sSkip)))))
theorem marks_last (o : Tr) (p : List Int) : gIx (.list (marksL o p)) (.int (-1)) = some (labD (atT o p)) := by
  have : marksL o p = ((List.range p.length).map fun i => labD (atT o (p.take i))) ++ [labD (atT o p)] := by
    unfold marksL
    rw [List.range_succ, List.map_append, List.map_singleton, List.take_length]
  rw [this]
  exact atI_last
theorem lwBody_ok {t : Trn} {B L : Nat} {o : Tr} {p : List Int} (hp : WayOk t B L o p) {m : Nat → List PyData → R Ow} {SC NS W TN ND TS TR : PyData} {c3 : Int} {cell : Nat → Int} (hc3 : m 12 [SC, .int 3] = .ok (.d (.int c3))) (hcell : ∀ k : Nat, m 12 [SC, .int (k : Nat)] = .ok (.d (.int (cell k))))
    (h13 : ∀ (c : Int) (j : Nat), j ≤ 1000 → m 13 [.int c, .int (j : Nat)] = .ok (.d (.int (mixI c (j : Nat))))) (h10 : ∀ q : List Int, m 10 [TN, TR, .tuple (q.map PyData.int)] = .ok (.d (labD (atT o q)))) (hl : LabsOk (m 26))
    (h30 : ∀ c : Int, m 30 [TN, TR, .list (p.map PyData.int), .list (marksL o p), .int c] = .ok (.d (.bool true))) (x10 : Option Ow) : ∃ y10, lwBody m [some (.d SC), some (.d NS), some (.d W), some (.d TN), some (.d ND), some (.d TS), some (.d TR), some (.d TN), some (.d (.list (p.map PyData.int))), some (.d (.list (marksL o p))), x10] = .nx [some (.d SC), some (.d NS), some (.d W), some (.d TN), some (.d ND), some (.d TS), some (.d TR), some (.d TN), some (.d (.list (p.map PyData.int))), some (.d (.list (marksL o p))), y10] := by
  have ml : gLen [.list (marksL o p)] = some (.d (.int (p.length + 1 : Nat))) := by rw [gLen_list, marksL_len]
  have pl : gLen [.list (p.map PyData.int)] = some (.d (.int (p.length : Nat))) := by rw [gLen_list, List.length_map]
  have mx := h13 c3 p.length (by have := hp.1; omega)
  generalize mixI c3 (p.length : Nat) = z at mx
  obtain ⟨s, hs, sl⟩ := emod_nat (c := z) (n := p.length + 1) (by omega)
  have gm : gMod (.int z) (.int (p.length + 1 : Nat)) = some (.int (s : Nat)) := by rw [gMod_int (by omega), hs]
  have sp : s ≤ p.length := by omega
  refine ⟨some (.d (.int (s : Nat))), ?_⟩
  obtain ⟨nm, kp, ad, ps, u, ks, ha⟩ := hp.2 p.length (Nat.le_refl _)
  rw [List.take_length] at ha
  obtain ⟨nm', kp', ad', ps', u', ks', hs'⟩ := hp.2 s sp
  have e1 := h10 p
  have e2 := h10 (p.take s)
  have e3 := h10 (p ++ [0])
  have e4 := h30 (cell (3 + p.length))
  have e5 := hcell (3 + p.length)
  rw [show ((3 + p.length : Nat) : Int) = 3 + ((p.length : Nat) : Int) from by omega] at e5
  have b1 := ha.lab hl
  have b2 := hs'.lab hl
  have lst := marks_last o p
  have mi : gIx (.list (marksL o p)) (.int (s : Nat)) = some (labD (atT o (p.take s))) := by
    show atI (marksL o p) _ = _
    exact atI_natD (marksL_at sp)
  obtain ⟨lb, hlb⟩ : ∃ x : Int, labD (atT o p) = .tuple [.str nm, .int x, .int (ps.length : Nat)] := by
    rw [ha.at_]
    obtain ⟨n2, mk, bs⟩ := u
    rw [lab_put]
    exact ⟨_, rfl⟩
  have j2 : gIx (labD (atT o p)) (.int 2) = some (.int (ps.length : Nat)) := by rw [hlb]; simp
  have gt1 : gTuple [.list (p.map PyData.int)] = some (.d (.tuple (p.map PyData.int))) := rfl
  have sl1 : gSl (.list (p.map PyData.int)) none (some (s : Int)) = some (.l (((p.take s).map PyData.int).map Ow.d)) := by
    rw [gSl_list, cutL_take, ← List.map_take]
  have sh1 := shD_l ((p.take s).map PyData.int)
  have gt2 : gTuple [.list ((p.take s).map PyData.int)] = some (.d (.tuple ((p.take s).map PyData.int))) := rfl
  have ad1 : gAdd (.list (p.map PyData.int)) (.list [.int 0]) = some (.l (((p ++ [0]).map PyData.int).map Ow.d)) := add_ls PyData.int p [0] (by have := hp.1; simp; omega)
  have sh2 := shD_l ((p ++ [0]).map PyData.int)
  have sh0 := shl1 (.int 0)
  have gt3 : gTuple [.list ((p ++ [0]).map PyData.int)] = some (.d (.tuple ((p ++ [0]).map PyData.int))) := rfl
  have zero : ps.length = 0 → isNone (labD (atT o (p ++ [0]))) = true := fun h => by
    rw [at_bad ha (b := 0) (q := []) (.inr (by omega))]
    rfl
  generalize labD (atT o (p ++ [0])) = L0 at e3 zero
  generalize labD (atT o (p.take s)) = LS at e2 b2 mi
  generalize labD (atT o p) = LP at e1 b1 lst j2
  generalize PyData.tuple ((p ++ [0]).map PyData.int) = T0 at e3 gt3
  generalize PyData.list ((p ++ [0]).map PyData.int) = K0 at sh2 gt3
  generalize ((p ++ [0]).map PyData.int).map Ow.d = O0 at ad1 sh2
  generalize PyData.tuple ((p.take s).map PyData.int) = TS' at e2 gt2
  generalize PyData.list ((p.take s).map PyData.int) = KS at sh1 gt2
  generalize ((p.take s).map PyData.int).map Ow.d = OS at sl1 sh1
  generalize PyData.tuple (p.map PyData.int) = TP at e1 gt1
  generalize PyData.list (p.map PyData.int) = P at pl gt1 sl1 ad1 e4 ⊢
  generalize PyData.list (marksL o p) = M at ml lst mi e4 ⊢
  generalize ((p.length + 1 : Nat) : Int) = PL1 at ml gm
  generalize ((p.length : Nat) : Int) = PL at pl mx e5
  generalize cell (3 + p.length) = cc at e4 e5
  refine seq_nx (env1 := [some (.d SC), some (.d NS), some (.d W), some (.d TN), some (.d ND), some (.d TS), some (.d TR), some (.d TN), some (.d P), some (.d M), some (.d (.int (s : Nat)))]) (by simp [hc3, pl, mx, ml, gm]) ?_
  refine seq_nx (env1 := [some (.d SC), some (.d NS), some (.d W), some (.d TN), some (.d ND), some (.d TS), some (.d TR), some (.d TN), some (.d P), some (.d M), some (.d (.int (s : Nat)))]) (by simp [gt1, e1, lst, b1]) ?_
  refine seq_nx (env1 := [some (.d SC), some (.d NS), some (.d W), some (.d TN), some (.d ND), some (.d TS), some (.d TR), some (.d TN), some (.d P), some (.d M), some (.d (.int (s : Nat)))]) (by simp [sl1, sh1, gt2, e2, mi, b2]) ?_
  refine seq_nx (env1 := [some (.d SC), some (.d NS), some (.d W), some (.d TN), some (.d ND), some (.d TS), some (.d TR), some (.d TN), some (.d P), some (.d M), some (.d (.int (s : Nat)))]) ?_ ?_
  · by_cases c : ps.length = 0
    · have z0 := zero c
      rw [c] at j2
      simp [lst, j2, sh0, ad1, sh2, gt3, e3, z0, sizeLine_eq]
    · have : (((ps.length : Nat) : Int) == 0) = false := by rw [beq_eq_false_iff_ne]; omega
      generalize ((ps.length : Nat) : Int) = q at j2 this
      simp [lst, j2, this]
  · simp [pl, e5, e4]
theorem law_true (M0 : Nat) (hM : 80 ≤ M0) (hM2 : M0 ≤ 1000) (ns : List Int) (hns : ns.length ≤ 63) : mir M0 32 [.list (ns.map PyData.int)] = .ok (.d (.bool true)) := by
  obtain ⟨n, rfl⟩ : ∃ n, M0 = n + 73 := ⟨M0 - 73, by omega⟩
  rw [mir_law, run_law]
  have he : envOf 10 [.list (ns.map PyData.int)] = [some (.d (scD ns)), none, none, none, none, none, none, none, none, none, none] := rfl
  rw [he]
  have cc : ∀ k : Nat, mir (n + 72) 12 [scD ns, .int (k : Nat)] = .ok (.d (.int (scCell ns k))) := fun k => cell_ok (n + 71) ns k
  have c0 : mir (n + 72) 12 [scD ns, .int 0] = .ok (.d (.int (scCell ns 0))) := cc 0
  have c1 : mir (n + 72) 12 [scD ns, .int 1] = .ok (.d (.int (scCell ns 1))) := cc 1
  have c3 : mir (n + 72) 12 [scD ns, .int 3] = .ok (.d (.int (scCell ns 3))) := cc 3
  have m13 : ∀ (c : Int) (j : Nat), j ≤ 1000 → mir (n + 72) 13 [.int c, .int (j : Nat)] = .ok (.d (.int (mixI c (j : Nat)))) := fun c j hj => mixed_ok (n + 71) c j hj
  obtain ⟨NO, WO, NDO, TO, NS, t, os, nds, bare, tf, D⟩ := drawn_all (n + 65) ns ((ns.take 32).drop 16) (by rw [List.length_drop, List.length_take]; omega) 20 (by decide)
  obtain ⟨dn, dnv, dw, dwv, hw, ht, dt, dg, dgv, hI, hl, db, dbv, hg, _⟩ := D
  change mir (n + 72) 14 _ = _ at dn
  change mir (n + 72) 16 _ = _ at dw
  change mir (n + 72) 19 _ = _ at dt
  change mir (n + 72) 21 [_, _, .int 20] = _ at dg
  change mir (n + 72) 22 _ = _ at db
  have snd := drawn_snd hw ht
  have cp : mir (n + 72) 28 [encTn t] = .ok (.d (encTn t)) := copy_ok (n + 71) hw ht
  obtain ⟨n0, e0, k0⟩ := hI.root
  have g0 := (hg 0 n0 e0).1
  have l0 := (List.getElem?_eq_some_iff.mp e0).1
  have lv : ∀ (k : Nat) (m : Nd), nds[k]? = some m → levT (aboveT (tf k)) ≤ 30 := fun k m hm => by
    have a := (hg k m hm).1.lev
    have b := (hI.each k m hm).lev.1
    have : levT (aboveT (tf k)) = levT (tf k) + 1 := by unfold aboveT; rw [levT, levTs, levTs]; omega
    omega
  obtain ⟨p0, hp0⟩ : ∃ p0, t.wood[0]? = some p0 := ⟨_, List.getElem?_eq_getElem (by have := hw.some.1; omega)⟩
  have pk : (t.wood.map (·.1)).getD 0 ("" : Str) = p0.1 := by rw [List.getD_eq_getElem?_getD, List.getElem?_map, hp0]; rfl
  rw [pk] at k0
  have is0 : isOf t.wood (tf 0) p0.1 = true := by rw [← k0]; exact g0.is
  have sg := drawn_good ht.start
  have sf := drawn_fit ht ht.start
  rw [pk] at sf
  have kd : KidsOk t.wood [p0.1] (aboveT (tf 0)) := ⟨rfl, by
    show isOfs t.wood [tf 0] [p0.1] = true
    rw [isOfs, is0, isOfs]; rfl⟩
  have come : ∀ N, Settles t 3 30 (mir (N + 2) 24) := fun N => by
    refine settles_fin snd (by decide) (f5 := mir (N + 1) 23) (fun k p hk nm => lawRule_ok hw ht N hk nm) fun ds => ?_
    rw [mir__law_come, run__law_come]
  have lab : ∀ N nm kp ad ps u, mir (N + 1) 25 [encM (.put nm kp ad ps), encT u] = .ok (.d (labD (some (madT t u (.put nm kp ad ps))))) := fun N nm kp ad ps u => by
    rw [mir__law_label, run__law_label]
    exact lawLabel_fin t nm kp ad ps u
  have labs : ∀ N, LabsOk (mir (N + 2) 26) := fun N => by
    refine ⟨fun z hz a b => ?_, ?_⟩
    · rw [mir__law_labels, run__law_labels]
      exact lawLabels_some z hz a b fun x => whole_ok N x
    · rw [mir__law_labels, run__law_labels]
      exact lawLabels_none
  -- the ways
  obtain ⟨ws, w1, w2, w3⟩ := ways_fin (f13 := mir (n + 71) 13) (f24 := mir (n + 71) 24) (f25 := mir (n + 71) 25) (fun c j hj => mixed_ok (n + 70) c j hj) (come (n + 69)) (by decide) (lab (n + 70)) (lv 0 n0 e0) sf sg kd ((ns.take 76).drop 32) (by rw [List.length_drop, List.length_take]; omega)
  have wy : mir (n + 72) 29 [encTn t, encT (tf 0), .list (((ns.take 76).drop 32).map PyData.int)] = .ok (.l (ws.map fun q => .d (wyD (madT t (aboveT (tf 0)) t.start) q))) := by
    rw [mir__law_ways, run__law_ways]
    exact w3
  have seen : ∀ N, 60 ≤ N → N ≤ 100000 → ∀ q : List Int, mir N 10 [encTn t, encT (tf 0), .tuple (q.map PyData.int)] = .ok (.d (labD (atT (madT t (aboveT (tf 0)) t.start) q))) := fun N h1 h2 q =>
    seen_ok snd N (tf 0) q hp0 (by have := lv 0 n0 e0; have : levT (aboveT (tf 0)) = levT (tf 0) + 1 := by { unfold aboveT; rw [levT, levTs, levTs]; omega }; omega) h2 sf sg is0
  have astr : ∀ q ∈ ws, ∀ c : Int, mir (n + 72) 30 [encTn t, encT (tf 0), .list (q.map PyData.int), .list (marksL (madT t (aboveT (tf 0)) t.start) q), .int c] = .ok (.d (.bool true)) := fun q hq c => by
    rw [mir__law_astray, run__law_astray]
    exact astray_fin (w1 q hq) (encTn t) (encT (tf 0)) c (fun c j hj => mixed_ok (n + 70) c j hj) (seen (n + 71) (by omega) (by omega))
  have inm : mir (n + 72) 31 [encTn t, ndsD nds, .list ((List.range nds.length).map fun k => encT (tf k)), .int (scCell ns 3)] = .ok (.d (.bool true)) := by
    rw [mir__law_in_mode, run__law_in_mode]
    refine inMode_fin (come (n + 69)) (lab (n + 70)) (labs (n + 69)) (by decide) (fun c j hj => mixed_ok (n + 70) c j hj) snd.few l0 (fun k m hm => ⟨(hg k m hm).1.is, lv k m hm⟩) (fun i k m p hm hp e q => ?_) _
    have me : madT t (aboveT (tf k)) (.call (i : Nat) 0) = madT t (tf k) (ruleF t (i : Nat) (trNm (tf k))) := madT_call (i := 0) rfl
    rw [me]
    exact seenIn_ok snd (n + 71) (tf k) q hp (by have := lv k m hm; have : levT (aboveT (tf k)) = levT (tf k) + 1 := by { unfold aboveT; rw [levT, levTs, levTs]; omega }; omega) (by omega) (by decide) (by rw [e]; exact (hg k m hm).1.is)
  obtain ⟨SC, hSC⟩ : ∃ SC, SC = scD ns := ⟨_, rfl⟩
  have cutE : ∀ a b : Nat, gSl (scD ns) (some (a : Int)) (some (b : Int)) = some (.l ((((ns.take b).drop a).map PyData.int).map Ow.d)) := fun a b => by
    show some (Ow.l ((cutL (ns.map PyData.int) (some (a : Int)) (some (b : Int))).map Ow.d)) = _
    have := cutL_both (ns.map PyData.int) a b
    rw [← List.map_take, ← List.map_drop] at this
    rw [← this]
  have cut1 : gSl (scD ns) (some 16) (some 32) = some (.l ((((ns.take 32).drop 16).map PyData.int).map Ow.d)) := cutE 16 32
  have cut2 : gSl (scD ns) (some 32) (some 76) = some (.l ((((ns.take 76).drop 32).map PyData.int).map Ow.d)) := cutE 32 76
  have vc1 : viewD (.l ((((ns.take 32).drop 16).map PyData.int).map Ow.d)) = .list (((ns.take 32).drop 16).map PyData.int) := vw_ls _
  have vc2 : viewD (.l ((((ns.take 76).drop 32).map PyData.int).map Ow.d)) = .list (((ns.take 76).drop 32).map PyData.int) := vw_ls _
  have t0 : gIx (.list ((List.range nds.length).map fun k => encT (tf k))) (.int 0) = some (encT (tf 0)) := rng_ix (i := 0) _ l0
  have ne : gEq (encTn t) (encTn t) = some (.bool true) := by
    have := nice_tnD (drawn_nc hw ht) (by decide)
    rw [gEq_nice this this, eqv_self this]
  have vw : viewD (.l (ws.map fun q => .d (wyD (madT t (aboveT (tf 0)) t.start) q))) = .list (ws.map fun q => wyD (madT t (aboveT (tf 0)) t.start) q) := viewD_of _ _
  have iw : itD (.list (ws.map fun q => wyD (madT t (aboveT (tf 0)) t.start) q)) = .ok (ws.map fun q => wyD (madT t (aboveT (tf 0)) t.start) q) := rfl
  have seen' := seen (n + 72) (by omega) (by omega)
  have labs' := labs (n + 70)
  change LabsOk (mir (n + 72) 26) at labs'
  clear w3
  rw [← hSC] at c0 c1 c3 cc dt cut1 cut2 ⊢
  generalize madT t (aboveT (tf 0)) t.start = o at w1 wy seen' astr vw iw
  generalize (((ns.take 32).drop 16).map PyData.int).map Ow.d = CL at cut1 vc1
  generalize PyData.list (((ns.take 32).drop 16).map PyData.int) = CE at dg vc1
  generalize (((ns.take 76).drop 32).map PyData.int).map Ow.d = CL2 at cut2 vc2
  generalize PyData.list (((ns.take 76).drop 32).map PyData.int) = CE2 at wy vc2
  generalize encT (tf 0) = TR at t0 wy seen' astr
  generalize PyData.list ((List.range nds.length).map fun k => encT (tf k)) = TS at t0 dbv inm
  generalize ndsD nds = ND at dgv db inm
  generalize encWd t.wood = W at dwv dt dg db
  generalize encTn t = TN at dt cp ne wy seen' astr inm
  refine fin_step (env1 := [some (.d SC), some (.d NS), none, none, none, none, none, none, none, none, none]) (by simp [c0, dn, dnv]) ?_
  refine fin_step (env1 := [some (.d SC), some (.d NS), some (.d W), none, none, none, none, none, none, none, none]) (by simp [c1, dw, dwv]) ?_
  refine fin_step (env1 := [some (.d SC), some (.d NS), some (.d W), some (.d TN), none, none, none, none, none, none, none]) (by simp [dt]) ?_
  refine fin_step (env1 := [some (.d SC), some (.d NS), some (.d W), some (.d TN), some (.d ND), none, none, none, none, none, none]) (by simp [cut1, vc1, dg, dgv]) ?_
  refine fin_step (env1 := [some (.d SC), some (.d NS), some (.d W), some (.d TN), some (.d ND), some (.d TS), none, none, none, none, none]) (by simp [db, dbv]) ?_
  refine fin_step (env1 := [some (.d SC), some (.d NS), some (.d W), some (.d TN), some (.d ND), some (.d TS), some (.d TR), none, none, none, none]) (by simp [t0]) ?_
  refine fin_step (env1 := [some (.d SC), some (.d NS), some (.d W), some (.d TN), some (.d ND), some (.d TS), some (.d TR), some (.d TN), none, none, none]) (by simp [cp]) ?_
  obtain ⟨env', e1, x8, x9, x10, e2⟩ := forL_map (g := gtTup 2 (gtCons (gtName 8) (gtCons (gtName 9) gtNil))) (f := lwBody (mir (n + 72))) (wyD o) ws (fun i env => ∃ x8 x9 x10, env = [some (.d SC), some (.d NS), some (.d W), some (.d TN), some (.d ND), some (.d TS), some (.d TR), some (.d TN), x8, x9, x10]) (fun i q env hq ⟨x8, x9, x10, e⟩ => by
    subst e
    have qm := List.mem_of_getElem? hq
    obtain ⟨y10, st⟩ := lwBody_ok (w1 q qm) (m := mir (n + 72)) (NS := NS) (W := W) (ND := ND) (TS := TS) c3 (cell := scCell ns) cc m13 seen' labs' (astr q qm) x10
    exact ⟨_, rfl, _, .inl st, _, _, _, rfl⟩) [some (.d SC), some (.d NS), some (.d W), some (.d TN), some (.d ND), some (.d TS), some (.d TR), some (.d TN), none, none, none] ⟨_, _, _, rfl⟩
  subst e2
  refine fin_step (env1 := [some (.d SC), some (.d NS), some (.d W), some (.d TN), some (.d ND), some (.d TS), some (.d TR), some (.d TN), x8, x9, x10]) (by
    have it : (eB (eM (eB (aCons (eVar 3) (aCons (eVar 6) (aCons (eM (eSl (eVar 0) (eB (eC (.int 32)) asI) (eB (eC (.int 76)) asI)) viewD) aNil))) (mir (n + 72) 29)) viewD) itD) [some (.d SC), some (.d NS), some (.d W), some (.d TN), some (.d ND), some (.d TS), some (.d TR), some (.d TN), none, none, none] = .ok (ws.map fun q => wyD o q) := by
      generalize Ow.l (ws.map fun q => .d (wyD o q)) = WO' at wy vw
      generalize PyData.list (ws.map fun q => wyD o q) = WL at vw iw
      simp [cut2, vc2, wy, vw, iw]
    rw [sFor_eq, it, R.st_ok]
    exact e1) ?_
  simp [c3, inm, ne]
end
end G
open PySem PySem.W PyProof.Rows
set_option maxRecDepth 100000 in
set_option maxHeartbeats 0 in
theorem PySem.Challenge.cw_turnery_k24_places_seen_holds : PySem.Challenge.rw_turnery_k24_places_seen.Holds := by
  w_on; o_law; k_head; (case hw => w_witness2)
  k_fill
  refine Mir.law_end (l := PySem.Challenge.rw_turnery_k24_places_seen) (m := G.mir 100 32) 100 "_law_script" rfl rfl ⟨rfl, by decide, by decide⟩ (fun w h Y => PySem.W.kIn_of Y) (fun ns h _ => G.law_true 100 (by decide) (by decide) ns h) ?F
  case F =>
    intro w mg fa h KX Gn hmg
    refine' G.all_mk 100 KX Gn hmg ?a0 ?l0 ?c0 ?k0 ?a1 ?l1 ?c1 ?k1 ?a2 ?l2 ?c2 ?k2 ?a3 ?l3 ?c3 ?k3 ?a4 ?l4 ?c4 ?k4 ?a5 ?l5 ?c5 ?k5 ?a6 ?l6 ?c6 ?k6 ?a7 ?l7 ?c7 ?k7 ?a8 ?l8 ?c8 ?k8 ?a9 ?l9 ?c9 ?k9 ?a10 ?l10 ?c10 ?k10 ?a11 ?l11 ?c11 ?k11 ?a12 ?l12 ?c12 ?k12 ?a13 ?l13 ?c13 ?k13 ?a14 ?l14 ?c14 ?k14 ?a15 ?l15 ?c15 ?k15 ?a16 ?l16 ?c16 ?k16 ?a17 ?l17 ?c17 ?k17 ?a18 ?l18 ?c18 ?k18 ?a19 ?l19 ?c19 ?k19 ?a20 ?l20 ?c20 ?k20 ?a21 ?l21 ?c21 ?k21 ?a22 ?l22 ?c22 ?k22 ?a23 ?l23 ?c23 ?k23 ?a24 ?l24 ?c24 ?k24 ?a25 ?l25 ?c25 ?k25 ?a26 ?l26 ?c26 ?k26 ?a27 ?l27 ?c27 ?k27 ?a28 ?l28 ?c28 ?k28 ?a29 ?l29 ?c29 ?k29 ?a30 ?l30 ?c30 ?k30 ?a31 ?l31 ?c31 ?k31 ?a32 ?l32 ?c32 ?k32 ?z_bool ?z_dict ?z_enumerate ?z_int ?z_isinstance ?z_len ?z_list ?z_range ?z_reversed ?z_sorted ?z_str ?z_tuple ?z_zip ?e_NoTree ?xb_NoTree ?xt_NoTree ?xd_NoTree ?xs_NoTree ?xe_NoTree ?xk_NoTree
    (case a0 => k_is)
    (case l0 => k_is)
    (case c0 => k_is)
    (case k0 => k_is)
    (case a1 => k_is)
    (case l1 => k_is)
    (case c1 => k_is)
    (case k1 => k_is)
    (case a2 => k_is)
    (case l2 => k_is)
    (case c2 => k_is)
    (case k2 => k_is)
    (case a3 => k_is)
    (case l3 => k_is)
    (case c3 => k_is)
    (case k3 => k_is)
    (case a4 => k_is)
    (case l4 => k_is)
    (case c4 => k_is)
    (case k4 => k_is)
    (case a5 => k_is)
    (case l5 => k_is)
    (case c5 => k_is)
    (case k5 => k_is)
    (case a6 => k_is)
    (case l6 => k_is)
    (case c6 => k_is)
    (case k6 => k_is)
    (case a7 => k_is)
    (case l7 => k_is)
    (case c7 => k_is)
    (case k7 => k_is)
    (case a8 => k_is)
    (case l8 => k_is)
    (case c8 => k_is)
    (case k8 => k_is)
    (case a9 => k_is)
    (case l9 => k_is)
    (case c9 => k_is)
    (case k9 => k_is)
    (case a10 => k_is)
    (case l10 => k_is)
    (case c10 => k_is)
    (case k10 => k_is)
    (case a11 => k_is)
    (case l11 => k_is)
    (case c11 => k_is)
    (case k11 => k_is)
    (case a12 => k_is)
    (case l12 => k_is)
    (case c12 => k_is)
    (case k12 => k_is)
    (case a13 => k_is)
    (case l13 => k_is)
    (case c13 => k_is)
    (case k13 => k_is)
    (case a14 => k_is)
    (case l14 => k_is)
    (case c14 => k_is)
    (case k14 => k_is)
    (case a15 => k_is)
    (case l15 => k_is)
    (case c15 => k_is)
    (case k15 => k_is)
    (case a16 => k_is)
    (case l16 => k_is)
    (case c16 => k_is)
    (case k16 => k_is)
    (case a17 => k_is)
    (case l17 => k_is)
    (case c17 => k_is)
    (case k17 => k_is)
    (case a18 => k_is)
    (case l18 => k_is)
    (case c18 => k_is)
    (case k18 => k_is)
    (case a19 => k_is)
    (case l19 => k_is)
    (case c19 => k_is)
    (case k19 => k_is)
    (case a20 => k_is)
    (case l20 => k_is)
    (case c20 => k_is)
    (case k20 => k_is)
    (case a21 => k_is)
    (case l21 => k_is)
    (case c21 => k_is)
    (case k21 => k_is)
    (case a22 => k_is)
    (case l22 => k_is)
    (case c22 => k_is)
    (case k22 => k_is)
    (case a23 => k_is)
    (case l23 => k_is)
    (case c23 => k_is)
    (case k23 => k_is)
    (case a24 => k_is)
    (case l24 => k_is)
    (case c24 => k_is)
    (case k24 => k_is)
    (case a25 => k_is)
    (case l25 => k_is)
    (case c25 => k_is)
    (case k25 => k_is)
    (case a26 => k_is)
    (case l26 => k_is)
    (case c26 => k_is)
    (case k26 => k_is)
    (case a27 => k_is)
    (case l27 => k_is)
    (case c27 => k_is)
    (case k27 => k_is)
    (case a28 => k_is)
    (case l28 => k_is)
    (case c28 => k_is)
    (case k28 => k_is)
    (case a29 => k_is)
    (case l29 => k_is)
    (case c29 => k_is)
    (case k29 => k_is)
    (case a30 => k_is)
    (case l30 => k_is)
    (case c30 => k_is)
    (case k30 => k_is)
    (case a31 => k_is)
    (case l31 => k_is)
    (case c31 => k_is)
    (case k31 => k_is)
    (case a32 => k_is)
    (case l32 => k_is)
    (case c32 => k_is)
    (case k32 => k_is)
    (case z_bool => k_is)
    (case z_dict => k_is)
    (case z_enumerate => k_is)
    (case z_int => k_is)
    (case z_isinstance => k_is)
    (case z_len => k_is)
    (case z_list => k_is)
    (case z_range => k_is)
    (case z_reversed => k_is)
    (case z_sorted => k_is)
    (case z_str => k_is)
    (case z_tuple => k_is)
    (case z_zip => k_is)
    (case e_NoTree => k_is)
    (case xb_NoTree => k_is)
    (case xt_NoTree => k_is)
    (case xd_NoTree => k_is)
    (case xs_NoTree => k_is)
    (case xe_NoTree => k_exc)
    (case xk_NoTree => k_is)


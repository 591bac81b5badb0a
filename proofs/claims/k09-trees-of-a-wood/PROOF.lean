import PyProof.Rows.All
import Wide.All
import OpenK.AllK
import Wide.FinOn
import HandS.ForMost
import HandS.ForExc
import HandS.Walk
import HandS.TupAny
import HandS.Wide
import HandS.IsInst
import PyProof.P3Eq
import PyProof.NeData
import PyProof.Rows.SeqMore
import KE.GoesNew
import KE.GoesMore
import KE.GoesEnum
import HandS.Zip
import PyProof.AutoSeq1
import HandS.More
import KE.SortData
import HandS.EndBits
import HandS.Steps
import HandS.Rev
import PyProof.StrOps2
import HandS.Text
import HandS.Dict
import KE.KDictSum
import HandS.ExcIs
import HandS.TryOnly
import HandS.RevRange
import HandS.List
import PyProof.StrCalls
import KE.DataMinMax
import PySem.Challenge.RW_turnery_k09_trees_of_a_wood
set_option Elab.async false
set_option linter.all false
set_option maxRecDepth 100000
set_option maxHeartbeats 4000000
noncomputable section
namespace Mir
open PySem PySem.Spec L2

abbrev D := PyData
/-- a value in a mirror: data that stays, or a list or a dict that the def owns -/
inductive Ow where
  | d (x : D)
  | l (xs : List Ow)
  | m (kvs : List (D × D))
abbrev Ev := List (Option Ow)

/-- a pure outcome: none (not mirrored), a value, an exception's class -/
inductive R (α : Type) where
  | no
  | ok (a : α)
  | ex (c : Str)
def R.bind {α β : Type} : R α → (α → R β) → R β
  | .no, _ => .no
  | .ok a, f => f a
  | .ex c, _ => .ex c
@[simp] theorem R.bind_ok {α β : Type} (a : α) (f : α → R β) : (R.ok a).bind f = f a := rfl
@[simp] theorem R.bind_no {α β : Type} (f : α → R β) : (R.no : R α).bind f = .no := rfl
@[simp] theorem R.bind_ex {α β : Type} (c : Str) (f : α → R β) : (R.ex c : R α).bind f = .ex c := rfl
def R.map {α β : Type} (f : α → β) (r : R α) : R β := r.bind fun a => .ok (f a)
@[simp] theorem R.map_ok {α β : Type} (a : α) (f : α → β) : (R.ok a).map f = .ok (f a) := rfl
/-- r where c holds (by a choice that nothing reckons with) -/
def guard (c : Prop) {α : Type} (r : R α) : R α := @ite _ c (Classical.propDecidable c) r .no
@[simp] theorem guard_pos {c : Prop} {α : Type} {r : R α} (h : c) : guard c r = r := @if_pos _ (Classical.propDecidable c) h _ _ _

mutual
def viewD : Ow → D
  | .d x => x
  | .l xs => .list (viewAll xs)
  | .m kvs => .dict kvs
def viewAll : List Ow → List D
  | [] => []
  | x :: xs => viewD x :: viewAll xs
end
@[simp] theorem viewD_d (x : D) : viewD (.d x) = x := by unfold viewD; rfl
@[simp] theorem viewD_m (kvs : List (D × D)) : viewD (.m kvs) = .dict kvs := by rw [viewD]
@[simp] theorem viewD_l (xs : List Ow) : viewD (.l xs) = .list (viewAll xs) := by rw [viewD]
@[simp] theorem viewAll_nil : viewAll [] = [] := by rw [viewAll]
@[simp] theorem viewAll_cons (x : Ow) (xs : List Ow) : viewAll (x :: xs) = viewD x :: viewAll xs := by rw [viewAll]
theorem viewAll_map : ∀ xs : List Ow, viewAll xs = xs.map viewD
  | [] => by rw [viewAll]; rfl
  | x :: xs => by rw [viewAll, viewAll_map xs]; rfl
@[simp] theorem viewAll_mapd : ∀ xs : List D, viewAll (xs.map Ow.d) = xs
  | [] => by simp
  | x :: xs => by simp [viewAll_mapd xs]

/-- a dict's key as data -/
def keyD : Key → D
  | .inl i => .int i
  | .inr z => .str z
mutual
inductive Dp (K : PySem.W.Frag) (H : Hp) : V → PyData → Prop
  | non : Dp K H .non .none
  | bl (b : Bool) : Dp K H (.bl b) (.bool b)
  | int (i : Int) : Dp K H (.int i) (.int i)
  | str (x : Str) : Dp K H (.str x) (.str x)
  | lst {a : Addr} {xs : List V} {ds : List PyData} : SqL K H a xs → DpAll K H xs ds → Dp K H (.ref a) (.list ds)
  | tup {a : Addr} {xs : List V} {ds : List PyData} : SqT K H a xs → DpAll K H xs ds → Dp K H (.ref a) (.tuple ds)
  | dct {a : Addr} {kvs : List (Key × V)} {ps : List (PyData × PyData)} : H a = some (.dK kvs) → DpKv K H kvs ps → Dp K H (.ref a) (.dict ps)
inductive DpAll (K : PySem.W.Frag) (H : Hp) : List V → List PyData → Prop
  | nil : DpAll K H [] []
  | cons {v : V} {vs : List V} {d : PyData} {ds : List PyData} : Dp K H v d → DpAll K H vs ds → DpAll K H (v :: vs) (d :: ds)
inductive DpKv (K : PySem.W.Frag) (H : Hp) : List (Key × V) → List (PyData × PyData) → Prop
  | nil : DpKv K H [] []
  | cons {k : Key} {v : V} {kvs : List (Key × V)} {d : PyData} {ps : List (PyData × PyData)} : Dp K H v d → DpKv K H kvs ps → DpKv K H ((k, v) :: kvs) ((keyD k, d) :: ps)
end
section
variable {K : PySem.W.Frag}
theorem SqT_mono {H H' : Hp} {a : Addr} {xs : List V} (e : Same H H') (h : SqT K H a xs) : SqT K H' a xs := by
  rcases h with (h | ⟨o, h⟩) | h
  · exact .inl (.inl (e _ _ h))
  · exact .inl (.inr ⟨o, e _ _ h⟩)
  · exact .inr h
mutual
theorem Dp.mono {H H' : Hp} (e : Same H H') : ∀ (d : D) (v : V), Dp K H v d → Dp K H' v d
  | .none, _, h => by cases h; exact .non
  | .bool b, _, h => by cases h; exact .bl b
  | .int b, _, h => by cases h; exact .int b
  | .str b, _, h => by cases h; exact .str b
  | .list ds, _, h => by
    cases h with
    | lst hs ha => exact .lst (e.seq hs) (DpAll.mono e ds _ ha)
  | .tuple ds, _, h => by
    cases h with
    | tup hs ha => exact .tup (SqT_mono e hs) (DpAll.mono e ds _ ha)
  | .dict ps, _, h => by
    cases h with
    | dct hs ha => exact .dct (e _ _ hs) (DpKv.mono e ps _ ha)
theorem DpAll.mono {H H' : Hp} (e : Same H H') : ∀ (ds : List D) (vs : List V), DpAll K H vs ds → DpAll K H' vs ds
  | [], _, h => by cases h; exact .nil
  | d :: ds, _, h => by
    cases h with
    | cons h1 h2 => exact .cons (Dp.mono e d _ h1) (DpAll.mono e ds _ h2)
theorem DpKv.mono {H H' : Hp} (e : Same H H') : ∀ (ps : List (D × D)) (kvs : List (Key × V)), DpKv K H kvs ps → DpKv K H' kvs ps
  | [], _, h => by cases h; exact .nil
  | (x, d) :: ps, _, h => by
    cases h with
    | cons h1 h2 => exact .cons (Dp.mono e d _ h1) (DpKv.mono e ps _ h2)
end
mutual
/-- as the kit has it, where no dict is within -/
theorem Dp.kit {H : Hp} : ∀ (d : D) (v : V), Dp K H v d → d.canLay0 = true → L2.Dp K H v d
  | .none, _, h, _ => by cases h; exact .non
  | .bool b, _, h, _ => by cases h; exact .bl b
  | .int b, _, h, _ => by cases h; exact .int b
  | .str b, _, h, _ => by cases h; exact .str b
  | .list ds, _, h, c => by
    cases h with
    | lst hs ha => exact .lst hs (DpAll.kit ds _ ha (by rw [PyData.canLay0] at c; exact c))
  | .tuple ds, _, h, c => by
    cases h with
    | tup hs ha => exact .tup hs (DpAll.kit ds _ ha (by rw [PyData.canLay0] at c; exact c))
  | .dict _, _, _, c => by rw [PyData.canLay0] at c; cases c
theorem DpAll.kit {H : Hp} : ∀ (ds : List D) (vs : List V), DpAll K H vs ds → PyData.canLayAll0 ds = true → L2.DpAll K H vs ds
  | [], _, h, _ => by cases h; exact .nil
  | d :: ds, _, h, c => by
    rw [PyData.canLayAll0, Bool.and_eq_true] at c
    cases h with
    | cons h1 h2 => exact .cons (Dp.kit d _ h1 c.1) (DpAll.kit ds _ h2 c.2)
end
theorem dpUp {H H' : Hp} {v : V} {d : D} (h : Dp K H v d) (e : Same H H') : Dp K H' v d := Dp.mono e d v h
theorem dpaUp {H H' : Hp} {v : List V} {d : List D} (h : DpAll K H v d) (e : Same H H') : DpAll K H' v d := DpAll.mono e d v h
theorem DpAll.len {H : Hp} : ∀ {vs : List V} {ds : List D}, DpAll K H vs ds → vs.length = ds.length
  | _, [], h => by cases h; rfl
  | _, d :: ds, h => by
    cases h with
    | cons h1 h2 => simp [DpAll.len h2]
theorem DpAll.get {H : Hp} : ∀ {vs : List V} {ds : List D} {i : Nat} {d : D}, DpAll K H vs ds → ds[i]? = some d → ∃ v, vs[i]? = some v ∧ Dp K H v d
  | _, [], i, d, h, e => by simp at e
  | _, x :: ds, 0, d, h, e => by
    cases h with
    | cons h1 h2 => simp at e; subst e; exact ⟨_, rfl, h1⟩
  | _, x :: ds, i + 1, d, h, e => by
    cases h with
    | cons h1 h2 =>
      obtain ⟨v, q, r⟩ := DpAll.get (i := i) h2 (by simpa using e)
      exact ⟨v, by simpa using q, r⟩
theorem DpAll.getV {H : Hp} : ∀ {vs : List V} {ds : List D} {i : Nat} {v : V}, DpAll K H vs ds → vs[i]? = some v → ∃ d, ds[i]? = some d ∧ Dp K H v d
  | _, [], i, v, h, e => by cases h; simp at e
  | _, x :: ds, 0, v, h, e => by
    cases h with
    | cons h1 h2 => simp at e; subst e; exact ⟨_, rfl, h1⟩
  | _, x :: ds, i + 1, v, h, e => by
    cases h with
    | cons h1 h2 =>
      obtain ⟨d, q, r⟩ := DpAll.getV (i := i) h2 (by simpa using e)
      exact ⟨d, by simpa using q, r⟩
theorem DpAll.append {H : Hp} : ∀ {vs ws : List V} {ds es : List D}, DpAll K H vs ds → DpAll K H ws es → DpAll K H (vs ++ ws) (ds ++ es)
  | _, _, [], _, h, g => by cases h; exact g
  | _, _, d :: ds, _, h, g => by
    cases h with
    | cons h1 h2 => exact .cons h1 (DpAll.append h2 g)
theorem DpAll.take {H : Hp} : ∀ {vs : List V} {ds : List D} (n : Nat), DpAll K H vs ds → DpAll K H (vs.take n) (ds.take n)
  | _, [], n, h => by cases h; simp; exact .nil
  | _, d :: ds, 0, h => by simp; exact .nil
  | _, d :: ds, n + 1, h => by
    cases h with
    | cons h1 h2 => exact .cons h1 (DpAll.take n h2)
theorem DpAll.drop {H : Hp} : ∀ {vs : List V} {ds : List D} (n : Nat), DpAll K H vs ds → DpAll K H (vs.drop n) (ds.drop n)
  | _, [], n, h => by cases h; simp; exact .nil
  | _, d :: ds, 0, h => h
  | _, d :: ds, n + 1, h => by
    cases h with
    | cons h1 h2 => exact DpAll.drop n h2
theorem DpAll.of_ints {H : Hp} : ∀ (ns : List Int), DpAll K H (ns.map V.int) (ns.map PyData.int)
  | [] => .nil
  | n :: ns => .cons (.int n) (DpAll.of_ints ns)

/-- frozen facts F, the tracked heap H, behind a step that changes nothing that stood -/
structure Ext (F H F' H' : Hp) : Prop where
  ff : Same F F'
  hh : Same H H'
  fn : ∀ b o, F' b = some o → F b = some o ∨ H b = none
  fh : Same F' H'
theorem Ext.refl {F H : Hp} (h : Same F H) : Ext F H F H := ⟨Same.refl _, Same.refl _, fun _ _ h => .inl h, h⟩
theorem Ext.trans {F H F1 H1 F2 H2 : Hp} (a : Ext F H F1 H1) (b : Ext F1 H1 F2 H2) : Ext F H F2 H2 :=
  ⟨a.ff.trans b.ff, a.hh.trans b.hh, fun c o h => by
    rcases b.fn c o h with q | q
    · exact a.fn c o q
    · exact .inr (a.hh.free q), b.fh⟩
theorem free_of {F H : Hp} (s : Same F H) {p : Addr} (h : H p = none) : F p = none := s.free h
theorem same_upd {H : Hp} {p : Addr} (h : H p = none) (o : HO) : Same H (upd H p o) := fun b u q => by rw [upd_ne (ne_of_none q h)]; exact q
theorem same_upd2 {F H : Hp} (s : Same F H) {p : Addr} (h : H p = none) (o : HO) : Same (upd F p o) (upd H p o) := fun b u q => by
  by_cases e : b = p
  · subst e; rw [upd_same] at q ⊢; exact q
  · rw [upd_ne e] at q ⊢; exact s _ _ q
/-- a new object, frozen at once -/
theorem Ext.frz {F H : Hp} (s : Same F H) {p : Addr} (h : H p = none) (o : HO) : Ext F H (upd F p o) (upd H p o) :=
  ⟨same_upd (free_of s h) o, same_upd h o, fun b u q => by
    by_cases e : b = p
    · subst e; exact .inr h
    · rw [upd_ne e] at q; exact .inl q, same_upd2 s h o⟩
/-- a new object of the def's own -/
theorem Ext.own {F H : Hp} (s : Same F H) {p : Addr} (h : H p = none) (o : HO) : Ext F H F (upd H p o) :=
  ⟨Same.refl _, same_upd h o, fun _ _ q => .inl q, s.trans (same_upd h o)⟩

mutual
inductive OwnAt (K : PySem.W.Frag) (F H : Hp) : V → Ow → List Addr → Prop
  | d {v : V} {x : D} : Dp K F v x → OwnAt K F H v (.d x) []
  | l {a : Addr} {vs : List V} {os : List Ow} {fp : List Addr} : F a = none → H a = some (.lst vs) → OwnAll K F H vs os fp → OwnAt K F H (.ref a) (.l os) (a :: fp)
  | m {a : Addr} {kvs : List (Key × V)} {ps : List (D × D)} : F a = none → H a = some (.dK kvs) → DpKv K F kvs ps → OwnAt K F H (.ref a) (.m ps) [a]
inductive OwnAll (K : PySem.W.Frag) (F H : Hp) : List V → List Ow → List Addr → Prop
  | nil : OwnAll K F H [] [] []
  | cons {v : V} {vs : List V} {o : Ow} {os : List Ow} {fp fps : List Addr} : OwnAt K F H v o fp → OwnAll K F H vs os fps → OwnAll K F H (v :: vs) (o :: os) (fp ++ fps)
end
/-- the step of a statement: what is owned (fp) may change -/
structure StepS (F H : Hp) (fp : List Addr) (F' H' : Hp) (fp' : List Addr) : Prop where
  ff : Same F F'
  fr : ∀ b o, H b = some o → b ∉ fp → H' b = some o
  fn : ∀ b o, F' b = some o → F b = some o ∨ b ∈ fp ∨ H b = none
  sub : ∀ b ∈ fp', b ∈ fp ∨ H b = none
theorem StepS.of_ext {F H F' H' : Hp} (e : Ext F H F' H') (fp : List Addr) : StepS F H fp F' H' fp :=
  ⟨e.ff, fun b o h _ => e.hh b o h, fun b o h => (e.fn b o h).imp id .inr, fun b h => .inl h⟩
theorem StepS.trans {F H F1 H1 F2 H2 : Hp} {fp fp1 fp2 : List Addr} (a : StepS F H fp F1 H1 fp1) (b : StepS F1 H1 fp1 F2 H2 fp2) : StepS F H fp F2 H2 fp2 := by
  have nn : ∀ c, H1 c = none → c ∈ fp ∨ H c = none := fun c h => by
    cases q : H c with
    | none => exact .inr rfl
    | some o =>
      by_cases hc : c ∈ fp
      · exact .inl hc
      · rw [a.fr c o q hc] at h; cases h
  refine ⟨a.ff.trans b.ff, fun c o h hc => b.fr c o (a.fr c o h hc) fun z => ?_, fun c o h => ?_, fun c h => ?_⟩
  · rcases a.sub c z with q | q
    · exact hc q
    · rw [h] at q; cases q
  · rcases b.fn c o h with q | q | q
    · exact a.fn c o q
    · exact .inr (a.sub c q)
    · exact .inr (nn c q)
  · rcases b.sub c h with q | q
    · exact a.sub c q
    · exact nn c q
theorem StepS.mono {F H F1 H1 : Hp} {fp fp' fp1 : List Addr} (a : StepS F H fp F1 H1 fp1) (h : ∀ b ∈ fp, b ∈ fp') : StepS F H fp' F1 H1 fp1 :=
  ⟨a.ff, fun b o q n => a.fr b o q fun z => n (h b z), fun b o q => (a.fn b o q).imp id (.imp (h b) id), fun b q => (a.sub b q).imp (h b) id⟩
theorem StepS.subset {F H F1 H1 : Hp} {fp fp1 fp2 : List Addr} (a : StepS F H fp F1 H1 fp1) (h : ∀ b ∈ fp2, b ∈ fp1) : StepS F H fp F1 H1 fp2 :=
  ⟨a.ff, a.fr, a.fn, fun b q => a.sub b (h b q)⟩

mutual
/-- what is owned apart from what changes stays -/
theorem OwnAt.keep {F H F' H' : Hp} {fx fy : List Addr} (s : StepS F H fx F' H' fy) : ∀ (o : Ow) (v : V) (fp : List Addr), OwnAt K F H v o fp → (∀ b ∈ fp, b ∉ fx) → OwnAt K F' H' v o fp
  | .d x, v, fp, h, _ => by
    cases h with
    | d q => exact .d (dpUp q s.ff)
  | .l os, v, fp, h, n => by
    cases h with
    | @l a vs _ fps h1 h2 h3 =>
      have na : a ∉ fx := n a List.mem_cons_self
      refine .l ?_ (s.fr _ _ h2 na) (OwnAll.keep s os vs fps h3 fun b hb => n b (List.mem_cons_of_mem _ hb))
      cases q : F' a with
      | none => rfl
      | some u =>
        rcases s.fn a u q with z | z | z
        · rw [h1] at z; cases z
        · exact absurd z na
        · rw [h2] at z; cases z
  | .m ps, v, fp, h, n => by
    cases h with
    | @m a kvs _ h1 h2 h3 =>
      have na : a ∉ fx := n a List.mem_cons_self
      refine .m ?_ (s.fr _ _ h2 na) (DpKv.mono s.ff ps _ h3)
      cases q : F' a with
      | none => rfl
      | some u =>
        rcases s.fn a u q with z | z | z
        · rw [h1] at z; cases z
        · exact absurd z na
        · rw [h2] at z; cases z
theorem OwnAll.keep {F H F' H' : Hp} {fx fy : List Addr} (s : StepS F H fx F' H' fy) : ∀ (os : List Ow) (vs : List V) (fp : List Addr), OwnAll K F H vs os fp → (∀ b ∈ fp, b ∉ fx) → OwnAll K F' H' vs os fp
  | [], vs, fp, h, _ => by cases h; exact .nil
  | o :: os, vs, fp, h, n => by
    cases h with
    | cons h1 h2 => exact .cons (OwnAt.keep s o _ _ h1 fun b hb => n b (List.mem_append_left _ hb)) (OwnAll.keep s os _ _ h2 fun b hb => n b (List.mem_append_right _ hb))
end
theorem OwnAt.ext {F H F' H' : Hp} {v : V} {o : Ow} {fp : List Addr} (h : OwnAt K F H v o fp) (e : Ext F H F' H') : OwnAt K F' H' v o fp :=
  OwnAt.keep (StepS.of_ext e []) o v fp h fun _ _ => by simp
theorem OwnAll.ext {F H F' H' : Hp} {v : List V} {o : List Ow} {fp : List Addr} (h : OwnAll K F H v o fp) (e : Ext F H F' H') : OwnAll K F' H' v o fp :=
  OwnAll.keep (StepS.of_ext e []) o v fp h fun _ _ => by simp
mutual
theorem OwnAt.there {F H : Hp} : ∀ (o : Ow) (v : V) (fp : List Addr), OwnAt K F H v o fp → ∀ b ∈ fp, F b = none ∧ ∃ o, H b = some o
  | .d x, v, fp, h, b, hb => by cases h; cases hb
  | .l os, v, fp, h, b, hb => by
    cases h with
    | l h1 h2 h3 =>
      rcases List.mem_cons.mp hb with e | e
      · subst e; exact ⟨h1, _, h2⟩
      · exact OwnAll.there os _ _ h3 b e
  | .m ps, v, fp, h, b, hb => by
    cases h with
    | m h1 h2 h3 =>
      rw [List.mem_singleton] at hb
      subst hb; exact ⟨h1, _, h2⟩
theorem OwnAll.there {F H : Hp} : ∀ (o : List Ow) (v : List V) (fp : List Addr), OwnAll K F H v o fp → ∀ b ∈ fp, F b = none ∧ ∃ o, H b = some o
  | [], v, fp, h, b, hb => by cases h; cases hb
  | o :: os, v, fp, h, b, hb => by
    cases h with
    | cons h1 h2 =>
      rcases List.mem_append.mp hb with e | e
      · exact OwnAt.there o _ _ h1 b e
      · exact OwnAll.there os _ _ h2 b e
end
mutual
theorem OwnAt.view {F H : Hp} (s : Same F H) : ∀ (o : Ow) (v : V) (fp : List Addr), OwnAt K F H v o fp → Dp K H v (viewD o)
  | .d x, v, fp, h => by
    cases h with
    | d q => rw [viewD]; exact dpUp q s
  | .l os, v, fp, h => by
    cases h with
    | l h1 h2 h3 => rw [viewD]; exact .lst (SqL.of h2) (OwnAll.view s os _ _ h3)
  | .m ps, v, fp, h => by
    cases h with
    | m h1 h2 h3 => rw [viewD]; exact .dct h2 (DpKv.mono s ps _ h3)
theorem OwnAll.view {F H : Hp} (s : Same F H) : ∀ (o : List Ow) (v : List V) (fp : List Addr), OwnAll K F H v o fp → DpAll K H v (viewAll o)
  | [], v, fp, h => by cases h; rw [viewAll]; exact .nil
  | o :: os, v, fp, h => by
    cases h with
    | cons h1 h2 => rw [viewAll]; exact .cons (OwnAt.view s o _ _ h1) (OwnAll.view s os _ _ h2)
end
theorem OwnAll.len {F H : Hp} : ∀ {os : List Ow} {vs : List V} {fp : List Addr}, OwnAll K F H vs os fp → vs.length = os.length
  | [], _, _, h => by cases h; rfl
  | o :: os, _, _, h => by
    cases h with
    | cons h1 h2 => simp [OwnAll.len h2]
/-- F with the objects at fp as they stand in H -/
def frzAt (F H : Hp) (fp : List Addr) : Hp := fun b => if b ∈ fp then H b else F b
theorem frzAt_same {F H : Hp} {fp : List Addr} (n : ∀ b ∈ fp, F b = none) : Same F (frzAt F H fp) := fun b o h => by
  have : b ∉ fp := fun z => by rw [n b z] at h; cases h
  simp [frzAt, this, h]
theorem frzAt_in {F H : Hp} {fp : List Addr} (s : Same F H) : Same (frzAt F H fp) H := fun b o h => by
  unfold frzAt at h
  split at h
  · exact h
  · exact s _ _ h
theorem frzAt_of {F H : Hp} {fp : List Addr} {b : Addr} {o : HO} (h : frzAt F H fp b = some o) : F b = some o ∨ b ∈ fp := by
  unfold frzAt at h
  split at h
  · exact .inr ‹_›
  · exact .inl h
mutual
theorem OwnAt.frz {F H : Hp} {fx : List Addr} (nx : ∀ b ∈ fx, F b = none) : ∀ (o : Ow) (v : V) (fp : List Addr), OwnAt K F H v o fp → (∀ b ∈ fp, b ∈ fx) → Dp K (frzAt F H fx) v (viewD o)
  | .d x, v, fp, h, _ => by
    cases h with
    | d q => rw [viewD]; exact dpUp q (frzAt_same nx)
  | .l os, v, fp, h, hs => by
    cases h with
    | @l a _ _ _ h1 h2 h3 =>
      rw [viewD]
      have e : frzAt F H fx a = some (.lst _) := (if_pos (hs a List.mem_cons_self)).trans h2
      exact .lst (SqL.of e) (OwnAll.frz nx os _ _ h3 fun b hb => hs b (List.mem_cons_of_mem _ hb))
  | .m ps, v, fp, h, hs => by
    cases h with
    | @m a _ _ h1 h2 h3 =>
      rw [viewD]
      have e : frzAt F H fx a = some (.dK _) := (if_pos (hs a List.mem_cons_self)).trans h2
      exact .dct e (DpKv.mono (frzAt_same nx) ps _ h3)
theorem OwnAll.frz {F H : Hp} {fx : List Addr} (nx : ∀ b ∈ fx, F b = none) : ∀ (o : List Ow) (v : List V) (fp : List Addr), OwnAll K F H v o fp → (∀ b ∈ fp, b ∈ fx) → DpAll K (frzAt F H fx) v (viewAll o)
  | [], v, fp, h, _ => by cases h; rw [viewAll]; exact .nil
  | o :: os, v, fp, h, hs => by
    cases h with
    | cons h1 h2 => rw [viewAll]; exact .cons (OwnAt.frz nx o _ _ h1 fun b hb => hs b (List.mem_append_left _ hb)) (OwnAll.frz nx os _ _ h2 fun b hb => hs b (List.mem_append_right _ hb))
end
/-- a fresh owned value made data -/
theorem Ext.freeze {F H F' H' : Hp} {v : V} {o : Ow} {fp : List Addr} (e : Ext F H F' H') (h : OwnAt K F' H' v o fp) (n : ∀ b ∈ fp, H b = none) :
    ∃ F2, Ext F H F2 H' ∧ Dp K F2 v (viewD o) := by
  have nx : ∀ b ∈ fp, F' b = none := fun b hb => (OwnAt.there o v fp h b hb).1
  refine ⟨frzAt F' H' fp, ⟨e.ff.trans (frzAt_same nx), e.hh, fun b u q => ?_, frzAt_in e.fh⟩, OwnAt.frz nx o v fp h fun _ z => z⟩
  rcases frzAt_of q with z | z
  · exact e.fn b u z
  · exact .inr (n b z)

inductive EnvAt (K : PySem.W.Frag) (F H : Hp) : St → Ev → List Addr → Prop
  | nil : EnvAt K F H [] [] []
  | non {x : Option V} {σ : St} {env : Ev} {fp : List Addr} : EnvAt K F H σ env fp → EnvAt K F H (x :: σ) (none :: env) fp
  | som {v : V} {o : Ow} {σ : St} {env : Ev} {fp fps : List Addr} : OwnAt K F H v o fp → EnvAt K F H σ env fps → EnvAt K F H (some v :: σ) (some o :: env) (fp ++ fps)
theorem EnvAt.keep {F H F' H' : Hp} {fx fy : List Addr} (s : StepS F H fx F' H' fy) : ∀ {σ : St} {env : Ev} {fp : List Addr}, EnvAt K F H σ env fp → (∀ b ∈ fp, b ∉ fx) → EnvAt K F' H' σ env fp := by
  intro σ env fp h
  induction h with
  | nil => intro _; exact .nil
  | non h ih => intro n; exact .non (ih n)
  | som h1 h2 ih => intro n; exact .som (OwnAt.keep s _ _ _ h1 fun b hb => n b (List.mem_append_left _ hb)) (ih fun b hb => n b (List.mem_append_right _ hb))
theorem EnvAt.ext {F H F' H' : Hp} {σ : St} {env : Ev} {fp : List Addr} (h : EnvAt K F H σ env fp) (e : Ext F H F' H') : EnvAt K F' H' σ env fp :=
  h.keep (StepS.of_ext e []) fun _ _ => by simp
theorem EnvAt.there {F H : Hp} {σ : St} {env : Ev} {fp : List Addr} (h : EnvAt K F H σ env fp) : ∀ b ∈ fp, F b = none ∧ ∃ o, H b = some o := by
  induction h with
  | nil => intro b hb; cases hb
  | non h ih => exact ih
  | som h1 h2 ih =>
    intro b hb
    rcases List.mem_append.mp hb with e | e
    · exact OwnAt.there _ _ _ h1 b e
    · exact ih b e
theorem EnvAt.len {F H : Hp} {σ : St} {env : Ev} {fp : List Addr} (h : EnvAt K F H σ env fp) : σ.length = env.length := by
  induction h with
  | nil => rfl
  | non h ih => simp [ih]
  | som h1 h2 ih => simp [ih]
/-- a slot read: its own footprint, and the others' -/
theorem EnvAt.get {F H : Hp} {σ : St} {env : Ev} {fp : List Addr} (h : EnvAt K F H σ env fp) : ∀ {i : Nat} {o : Ow}, env[i]? = some (some o) → ∃ v fo, σ[i]? = some (some v) ∧ OwnAt K F H v o fo ∧ (∀ b ∈ fo, b ∈ fp) := by
  induction h with
  | nil => intro i o e; simp at e
  | non h ih =>
    intro i o e
    cases i with
    | zero => simp at e
    | succ i => simpa using ih (i := i) (by simpa using e)
  | @som v o' σ' env' fp1 fps h1 h2 ih =>
    intro i o e
    cases i with
    | zero =>
      simp at e; subst e
      exact ⟨v, fp1, rfl, h1, fun b hb => List.mem_append_left _ hb⟩
    | succ i =>
      obtain ⟨v2, fo, a, b, c⟩ := ih (i := i) (by simpa using e)
      exact ⟨v2, fo, by simpa using a, b, fun b hb => List.mem_append_right _ (c b hb)⟩
/-- a slot changed: the rest keeps; fo what stood there, fr the rest (F, H may have moved by a step within fo) -/
theorem EnvAt.put {F H : Hp} {σ : St} {env : Ev} {fp : List Addr} (h : EnvAt K F H σ env fp) : ∀ {i : Nat}, i < env.length → fp.Nodup → ∃ fr fo, (∀ b ∈ fr, b ∈ fp) ∧ (∀ b ∈ fo, b ∈ fp) ∧ fr.Nodup ∧ fo.Nodup ∧ (∀ b ∈ fo, b ∉ fr) ∧
    (∀ o, env[i]? = some (some o) → ∃ v, σ[i]? = some (some v) ∧ OwnAt K F H v o fo) ∧
    ∀ (F' H' : Hp) (fx fy : List Addr), StepS F H fx F' H' fy → (∀ b ∈ fr, b ∉ fx) → (∀ (x : Option V), EnvAt K F' H' (σ.set i x) (env.set i none) fr) ∧ ∀ (v : V) (o : Ow) (fn : List Addr), OwnAt K F' H' v o fn → fn.Nodup → (∀ b ∈ fn, b ∉ fr) → ∃ fp', fp'.Nodup ∧ (∀ b ∈ fp', b ∈ fn ∨ b ∈ fr) ∧ EnvAt K F' H' (σ.set i (some v)) (env.set i (some o)) fp' := by
  induction h with
  | nil => intro i hi; simp at hi
  | @non x σ' env' fps h ih =>
    intro i hi hn
    cases i with
    | zero =>
      refine ⟨fps, [], fun b z => z, (fun b z => nomatch z), hn, List.nodup_nil, fun b z => (nomatch z), fun o e => by simp at e, fun F' H' fx fy s n => ⟨fun x => .non (h.keep s n), fun v o fn ho hd hx => ?_⟩⟩
      refine ⟨fn ++ fps, ?_, fun b hb => List.mem_append.mp hb, .som ho (h.keep s n)⟩
      rw [List.nodup_append]
      exact ⟨hd, hn, fun a ha b hb e => hx a ha (e ▸ hb)⟩
    | succ i =>
      obtain ⟨fr, fo, a1, a2, a3, a3', a4, a5, a6⟩ := ih (i := i) (by simpa using hi) hn
      refine ⟨fr, fo, a1, a2, a3, a3', a4, by simpa using a5, fun F' H' fx fy s n => ⟨fun x => .non ((a6 F' H' fx fy s n).1 x), fun v o fn ho hd hx => ?_⟩⟩
      obtain ⟨fp', b1, b2, b3⟩ := (a6 F' H' fx fy s n).2 v o fn ho hd hx
      exact ⟨fp', b1, b2, .non b3⟩
  | @som v0 o0 σ' env' f1 fps h1 h2 ih =>
    intro i hi hn
    rw [List.nodup_append] at hn
    obtain ⟨n1, n2, n3⟩ := hn
    cases i with
    | zero =>
      refine ⟨fps, f1, fun b z => List.mem_append_right _ z, fun b z => List.mem_append_left _ z, n2, n1, fun b z q => n3 b z b q rfl, fun o e => ?_, fun F' H' fx fy s n => ⟨fun x => .non (h2.keep s n), fun v o fn ho hd hx => ?_⟩⟩
      · simp at e; subst e; exact ⟨v0, rfl, h1⟩
      · refine ⟨fn ++ fps, ?_, fun b hb => List.mem_append.mp hb, .som ho (h2.keep s n)⟩
        rw [List.nodup_append]
        exact ⟨hd, n2, fun a ha b hb e => hx a ha (e ▸ hb)⟩
    | succ i =>
      obtain ⟨fr, fo, a1, a2, a3, a3', a4, a5, a6⟩ := ih (i := i) (by simpa using hi) n2
      have dis : ∀ b ∈ f1, b ∉ fr := fun b z q => n3 b z b (a1 b q) rfl
      have key : ∀ (F' H' : Hp) (fx fy : List Addr), StepS F H fx F' H' fy → (∀ b ∈ f1 ++ fr, b ∉ fx) → OwnAt K F' H' v0 o0 f1 := fun F' H' fx fy s n => OwnAt.keep s _ _ _ h1 fun b hb => n b (List.mem_append_left _ hb)
      refine ⟨f1 ++ fr, fo, fun b z => ?_, fun b z => List.mem_append_right _ (a2 b z), ?_, a3', fun b z q => ?_, by simpa using a5, fun F' H' fx fy s n => ⟨fun x => .som (key F' H' fx fy s n) ((a6 F' H' fx fy s fun b hb => n b (List.mem_append_right _ hb)).1 x), fun v o fn ho hd hx => ?_⟩⟩
      · rcases List.mem_append.mp z with z | z
        · exact List.mem_append_left _ z
        · exact List.mem_append_right _ (a1 b z)
      · rw [List.nodup_append]; exact ⟨n1, a3, fun a ha b hb e => dis a ha (e ▸ hb)⟩
      · rcases List.mem_append.mp q with q | q
        · exact n3 b q b (a2 b z) rfl
        · exact a4 b z q
      · obtain ⟨fp', b1, b2, b3⟩ := (a6 F' H' fx fy s fun b hb => n b (List.mem_append_right _ hb)).2 v o fn ho hd fun b hb q => hx b hb (List.mem_append_right _ q)
        have dj : ∀ b ∈ f1, b ∉ fp' := fun b z q => by
          rcases b2 b q with r | r
          · exact hx b r (List.mem_append_left _ z)
          · exact dis b z r
        refine ⟨f1 ++ fp', ?_, fun b hb => ?_, .som (key F' H' fx fy s n) b3⟩
        · rw [List.nodup_append]; exact ⟨n1, b1, fun a ha b hb e => dj a ha (e ▸ hb)⟩
        · rcases List.mem_append.mp hb with r | r
          · exact .inr (List.mem_append_left _ r)
          · exact (b2 b r).imp id (List.mem_append_right _)

structure Sat (K : PySem.W.Frag) (F H : Hp) (σ : St) (env : Ev) (fp : List Addr) : Prop where
  fh : Same F H
  en : EnvAt K F H σ env fp
  nd : fp.Nodup
theorem Sat.ext {F H F' H' : Hp} {σ : St} {env : Ev} {fp : List Addr} (s : Sat K F H σ env fp) (e : Ext F H F' H') : Sat K F' H' σ env fp := ⟨e.fh, s.en.ext e, s.nd⟩
end
end Mir
end
set_option Elab.async false
set_option linter.all false
set_option maxRecDepth 100000
set_option maxHeartbeats 4000000
noncomputable section
namespace Mir
open PySem PySem.Spec L2

def Post (X : Cx) (W : WX) {α β : Type} (P : Hp → α → β → Hp → Hp → Prop) (F H : Hp) (σ : L2.St) : R α → (β → Hp → Prop) → Prop
  | .no, _ => False
  | .ok a, Q => ∀ v F' H', Ext F H F' H' → P H a v F' H' → Q v H'
  | .ex c, _ => ∀ C F' H', X.mg c = some (.ref C) → Ext F H F' H' → W (.ref C) none σ H'
class Anti {α β : Type} (P : Hp → α → β → Hp → Hp → Prop) : Prop where
  anti : ∀ {H H1 : Hp} {a : α} {v : β} {F' H' : Hp}, Same H H1 → P H1 a v F' H' → P H a v F' H'
def PVw (K : PySem.W.Frag) (_ : Hp) (d : D) (v : V) (_ H' : Hp) : Prop := Dp K H' v d
def PFz (K : PySem.W.Frag) (_ : Hp) (d : D) (v : V) (F' _ : Hp) : Prop := Dp K F' v d
def POw (K : PySem.W.Frag) (H : Hp) (r : Ow) (v : V) (F' H' : Hp) : Prop := ∃ fp, OwnAt K F' H' v r fp ∧ fp.Nodup ∧ ∀ b ∈ fp, H b = none
/-- a list or tuple whose items are frozen, though it may itself change; other data -/
def PSq (K : PySem.W.Frag) (_ : Hp) (d : D) (v : V) (F' H' : Hp) : Prop := match d with
  | .list ds => ∃ a vs, v = .ref a ∧ SqL K H' a vs ∧ DpAll K F' vs ds
  | d => Dp K F' v d
def PTb (_ : Hp) (b : Bool) (v : Bool) (_ _ : Hp) : Prop := v = b
def PAv (K : PySem.W.Frag) (_ : Hp) (ds : List D) (vs : List V) (_ H' : Hp) : Prop := DpAll K H' vs ds
def PAf (K : PySem.W.Frag) (_ : Hp) (ds : List D) (vs : List V) (F' _ : Hp) : Prop := DpAll K F' vs ds
variable {K : PySem.W.Frag}
instance : Anti (PVw K) := ⟨fun _ h => h⟩
instance : Anti (PFz K) := ⟨fun _ h => h⟩
instance : Anti (PSq K) := ⟨fun {_ _ _ _ _ _} _ h => h⟩
instance : Anti PTb := ⟨fun _ h => h⟩
instance : Anti (PAv K) := ⟨fun _ h => h⟩
instance : Anti (PAf K) := ⟨fun _ h => h⟩
instance : Anti (POw K) := ⟨fun s ⟨fp, a, b, c⟩ => ⟨fp, a, b, fun x hx => s.free (c x hx)⟩⟩

/-- the semantics: t (a reading) is implied by the mirror f -/
def Sm (X : Cx) (W : WX) {α β : Type} (P : Hp → α → β → Hp → Hp → Prop) (t : L2.St → Hp → (β → Hp → Prop) → Prop) (f : Ev → R α) : Prop :=
  ∀ F H σ env fp Q, Sat X.K F H σ env fp → Post X W P F H σ (f env) Q → t σ H Q
section
variable {X : Cx} {W : WX} {α β γ δ : Type}
theorem Post.ext {P : Hp → α → β → Hp → Hp → Prop} [Anti P] {F H F1 H1 : Hp} {σ : L2.St} {r : R α} {Q : β → Hp → Prop} (h : Post X W P F H σ r Q) (e : Ext F H F1 H1) : Post X W P F1 H1 σ r Q := by
  cases r with
  | no => exact h
  | ok a => exact fun v F' H' e' p => h v F' H' (e.trans e') (Anti.anti e.hh p)
  | ex c => exact fun C F' H' m e' => h C F' H' m (e.trans e')
/-- evaluate one part, go on -/
theorem Sm.go {P : Hp → α → β → Hp → Hp → Prop} {P2 : Hp → γ → δ → Hp → Hp → Prop} [Anti P2] {t : L2.St → Hp → (β → Hp → Prop) → Prop} {f : Ev → R α} (s : Sm X W P t f) {g : α → R γ} {F H : Hp} {σ : L2.St} {env : Ev} {fp : List Addr} {Q : δ → Hp → Prop} {T : β → Hp → Prop}
    (sat : Sat X.K F H σ env fp) (h : Post X W P2 F H σ ((f env).bind g) Q) (k : ∀ a v F1 H1, Sat X.K F1 H1 σ env fp → P H a v F1 H1 → Ext F H F1 H1 → Post X W P2 F1 H1 σ (g a) Q → T v H1) : t σ H T := by
  refine s F H σ env fp T sat ?_
  cases e : f env with
  | no => rw [e] at h; exact h
  | ok a =>
    rw [e] at h
    exact fun v F' H' x p => k a v F' H' (sat.ext x) p x (Post.ext (show Post X W P2 F H σ (g a) Q from h) x)
  | ex c => rw [e] at h; exact h
theorem Post.thru {β' : Type} {P : Hp → α → β → Hp → Hp → Prop} {P2 : Hp → γ → β' → Hp → Hp → Prop} {F H : Hp} {σ : L2.St} {r : R α} {g : α → R γ} {Q : β → Hp → Prop} {Q2 : β' → Hp → Prop} (h : Post X W P2 F H σ (r.bind g) Q2)
    (k : ∀ a, r = .ok a → Post X W P2 F H σ (g a) Q2 → ∀ v F' H', Ext F H F' H' → P H a v F' H' → Q v H') : Post X W P F H σ r Q := by
  cases r with
  | no => exact h
  | ok a => exact k a rfl h
  | ex c => exact h
theorem Sm.map {P : Hp → α → β → Hp → Hp → Prop} {P2 : Hp → γ → β → Hp → Hp → Prop} {t : L2.St → Hp → (β → Hp → Prop) → Prop} {f : Ev → R α} (s : Sm X W P t f) {g : α → R γ} (k : ∀ H a v F' H', Same F' H' → P H a v F' H' → ∃ c, g a = .ok c ∧ P2 H c v F' H') :
    Sm X W P2 t fun env => (f env).bind g := by
  intro F H σ env fp Q sat h
  refine s F H σ env fp Q sat (Post.thru h fun a _ h' v F' H' x p => ?_)
  obtain ⟨c, hc, q⟩ := k H a v F' H' x.fh p
  rw [hc] at h'
  exact h' v F' H' x q
end

def eB {α β : Type} (f : Ev → R α) (g : α → R β) (env : Ev) : R β := (f env).bind g
def eM {α β : Type} (f : Ev → R α) (g : α → β) (env : Ev) : R β := (f env).map g

section
variable (X : Cx) (W : WX)
def DV (e : Expr) (f : Ev → R D) : Prop := ∃ t, PE X e t ∧ Sm X W (PVw X.K) t f
def DF (e : Expr) (f : Ev → R D) : Prop := ∃ t, PE X e t ∧ Sm X W (PFz X.K) t f
def DE (e : Expr) (f : Ev → R Ow) : Prop := ∃ t, PE X e t ∧ Sm X W (POw X.K) t f
def DL (e : Expr) (f : Ev → R D) : Prop := ∃ t, PE X e t ∧ Sm X W (PSq X.K) t f
def DT (e : Expr) (f : Ev → R Bool) : Prop := ∃ t, PT X e t ∧ Sm X W PTb t f
def DW (e : Expr) (f : Ev → R Bool) : Prop := ∃ t, PW X e t ∧ Sm X W PTb t f
def DA (es : List Expr) (f : Ev → R (List D)) : Prop := ∃ t, PA X es t ∧ Sm X W (PAf X.K) t f
end
def unD : Ow → Option D
  | .d x => some x
  | .l _ => none
  | .m _ => none
def unDs : List Ow → Option (List D)
  | [] => some []
  | o :: os => (unD o).bind fun x => (unDs os).map fun xs => x :: xs
@[simp] theorem unDs_map : ∀ ds : List D, unDs (ds.map Ow.d) = some ds
  | [] => rfl
  | d :: ds => by simp [unDs, unD, unDs_map ds]
theorem unDs_eq : ∀ {os : List Ow} {ds : List D}, unDs os = some ds → os = ds.map Ow.d
  | [], ds, h => by simp [unDs] at h; subst h; rfl
  | .d x :: os, ds, h => by
    simp only [unDs, unD, Option.bind_some, Option.map_eq_some_iff] at h
    obtain ⟨xs, h1, h2⟩ := h
    subst h2
    rw [unDs_eq h1]; rfl
  | .l _ :: os, ds, h => by simp [unDs, unD] at h
  | .m _ :: os, ds, h => by simp [unDs, unD] at h
def shD : Ow → R D
  | .d x => .ok x
  | .l os => match unDs os with
    | some ds => .ok (.list ds)
    | none => .no
  | .m _ => .no
@[simp] theorem shD_d (x : D) : shD (.d x) = .ok x := rfl
@[simp] theorem shD_l (ds : List D) : shD (.l (ds.map Ow.d)) = .ok (.list ds) := by simp [shD]
@[simp] theorem shD_nil : shD (.l []) = .ok (.list []) := rfl
theorem OwnAll.dp {F H : Hp} : ∀ {ds : List D} {vs : List V} {fp : List Addr}, OwnAll K F H vs (ds.map Ow.d) fp → DpAll K F vs ds ∧ fp = []
  | [], _, _, h => by cases h; exact ⟨.nil, rfl⟩
  | d :: ds, _, _, h => by
    cases h with
    | cons h1 h2 =>
      cases h1 with
      | d q =>
        obtain ⟨a, b⟩ := OwnAll.dp (ds := ds) h2
        exact ⟨.cons q a, by rw [b]; rfl⟩
theorem OwnAll.of_dp {F H : Hp} : ∀ {ds : List D} {vs : List V}, DpAll K F vs ds → OwnAll K F H vs (ds.map Ow.d) []
  | [], _, h => by cases h; exact .nil
  | d :: ds, _, h => by
    cases h with
    | cons h1 h2 => exact .cons (fp := []) (.d h1) (OwnAll.of_dp h2)
theorem PSq.of {F H : Hp} {v : V} {d : D} {H0 : Hp} (s : Same F H) (h : Dp K F v d) : PSq K H0 d v F H := by
  cases d with
  | list ds =>
    cases h with
    | lst hs ha => exact ⟨_, _, rfl, s.seq hs, ha⟩
  | _ => exact h
theorem PSq.view {F H : Hp} {v : V} {d : D} {H0 : Hp} (s : Same F H) (h : PSq K H0 d v F H) : Dp K H v d := by
  cases d with
  | list ds =>
    obtain ⟨a, vs, rfl, h1, h2⟩ := h
    exact .lst h1 (dpaUp h2 s)
  | _ => exact dpUp (show Dp K F v _ from h) s
theorem PSq.ext {F H F1 H1 : Hp} {v : V} {d : D} {H0 H2 : Hp} (e : Ext F H F1 H1) (h : PSq K H0 d v F H) : PSq K H2 d v F1 H1 := by
  cases d with
  | list ds =>
    obtain ⟨a, vs, rfl, h1, h2⟩ := h
    exact ⟨_, _, rfl, e.hh.seq h1, dpaUp h2 e.ff⟩
  | _ => exact dpUp (show Dp K F v _ from h) e.ff
theorem own_seq {F H : Hp} {v : V} {o : Ow} {fp : List Addr} {d : D} {H0 : Hp} (s : Same F H) (h : OwnAt K F H v o fp) (e : shD o = .ok d) : PSq K H0 d v F H := by
  cases o with
  | d x =>
    cases h with
    | d p =>
      cases e
      exact .of s p
  | l os =>
    cases h with
    | l h1 h2 h3 =>
      have e' : (match unDs os with | some ds => (R.ok (.list ds) : R D) | none => .no) = .ok d := e
      clear e
      cases u : unDs os with
      | none => rw [u] at e'; cases e'
      | some ds =>
        rw [u] at e'
        cases e'
        rw [unDs_eq u] at h3
        exact ⟨_, _, rfl, SqL.of h2, (OwnAll.dp h3).1⟩
  | m ps => cases e
theorem shD_ex (o : Ow) (c : Str) : shD o ≠ .ex c := fun e => by
  cases o with
  | d x => cases e
  | l os =>
    have e' : (match unDs os with | some ds => (R.ok (.list ds) : R D) | none => .no) = .ex c := e
    split at e' <;> cases e'
  | m ps => cases e
theorem shD_ok {X : Cx} {W : WX} {β : Type} {P : Hp → D → β → Hp → Hp → Prop} {F H : Hp} {σ : L2.St} {o : Ow} {Q : β → Hp → Prop} (h : Post X W P F H σ (shD o) Q) : ∃ r, shD o = .ok r := by
  cases e2 : shD o with
  | no => rw [e2] at h; exact h.elim
  | ex c => exact absurd e2 (shD_ex o c)
  | ok r => exact ⟨r, rfl⟩
section
variable {X : Cx} {W : WX} {e a b : Expr} {es : List Expr} {pos : Pos}
theorem dv_df {f : Ev → R D} (h : DF X W e f) : DV X W e f := by
  obtain ⟨t, p, s⟩ := h
  refine ⟨t, p, fun F H σ env fp Q sat h => s F H σ env fp Q sat ?_⟩
  cases e : f env with
  | no => rw [e] at h; exact h
  | ex c => rw [e] at h; exact h
  | ok d => rw [e] at h; exact fun v F' H' x q => h v F' H' x (dpUp q x.fh)
theorem dv_de {f : Ev → R Ow} (h : DE X W e f) : DV X W e (eM f viewD) := by
  obtain ⟨t, p, s⟩ := h
  refine ⟨t, p, Sm.map s fun H o v F' H' sm ⟨fp, q, _⟩ => ⟨viewD o, rfl, OwnAt.view sm o v fp q⟩⟩
theorem de_df {f : Ev → R D} (h : DF X W e f) : DE X W e (eM f Ow.d) := by
  obtain ⟨t, p, s⟩ := h
  refine ⟨t, p, Sm.map s fun H d v F' H' sm q => ⟨.d d, rfl, [], .d q, List.nodup_nil, fun b z => nomatch z⟩⟩
theorem df_de {f : Ev → R Ow} (h : DE X W e f) : DF X W e (eM f viewD) := by
  obtain ⟨t, p, s⟩ := h
  refine ⟨t, p, fun F H σ env fp Q sat h => s F H σ env fp Q sat (Post.thru h fun d _ h' v F' H' x ⟨fp, q, _, n⟩ => ?_)⟩
  obtain ⟨F2, x2, q2⟩ := x.freeze q n
  exact h' v F2 H' x2 q2
theorem dl_df {f : Ev → R D} (h : DF X W e f) : DL X W e f := by
  obtain ⟨t, p, s⟩ := h
  refine ⟨t, p, fun F H σ env fp Q sat h => s F H σ env fp Q sat ?_⟩
  cases e : f env with
  | no => rw [e] at h; exact h
  | ex c => rw [e] at h; exact h
  | ok d => rw [e] at h; exact fun v F' H' x q => h v F' H' x (.of x.fh q)
theorem dl_de {f : Ev → R Ow} (h : DE X W e f) : DL X W e (eB f shD) := by
  obtain ⟨t, p, s⟩ := h
  refine ⟨t, p, fun F H σ env fp Q sat h => s F H σ env fp Q sat (Post.thru h fun d _ h' v F' H' x ⟨fp, q, _, n⟩ => ?_)⟩
  obtain ⟨r, e2⟩ := shD_ok h'
  rw [e2] at h'
  exact h' v F' H' x (own_seq x.fh q e2)
def eVar (i : Nat) (env : Ev) : R D := match env[i]? with
  | some (some (.d x)) => .ok x
  | _ => .no
def eVarO (i : Nat) (env : Ev) : R Ow := match env[i]? with
  | some (some o) => .ok o
  | _ => .no
theorem eVar_ok {P : Hp → D → V → Hp → Hp → Prop} {F H : Hp} {σ : L2.St} {i : Nat} {env : Ev} {Q : VK} (h : Post X W P F H σ (eVar i env) Q) : ∃ d, env[i]? = some (some (.d d)) ∧ eVar i env = .ok d := by
  unfold eVar at h ⊢
  split at h
  · rename_i d he
    exact ⟨d, he, rfl⟩
  · exact h.elim
theorem eVarO_ok {γ : Type} {P : Hp → γ → V → Hp → Hp → Prop} {F H : Hp} {σ : L2.St} {i : Nat} {env : Ev} {Q : VK} {g : Ow → R γ} (h : Post X W P F H σ ((eVarO i env).bind g) Q) : ∃ d, env[i]? = some (some d) ∧ eVarO i env = .ok d ∧ Post X W P F H σ (g d) Q := by
  unfold eVarO at h ⊢
  cases e : env[i]? with
  | none => rw [e] at h; exact h.elim
  | some o =>
    cases o with
    | none => rw [e] at h; exact h.elim
    | some o => rw [e] at h; exact ⟨o, rfl, rfl, h⟩
theorem df_var (i : Nat) {x : Str} (hN : X.N[i]? = some x := by rfl) (hv : Vis X.env.scope x := by first | exact Or.inl rfl | exact Or.inr (Or.inl rfl) | exact Or.inr (Or.inr rfl)) (hd : (x == ("__debug__" : Str)) = false := by decide)
    (hcd : (x == ("__classdict__" : Str)) = false := by decide) : DF X W (.Name x pos) (eVar i) := by
  refine ⟨_, pe_var hN hv hd hcd, fun F H σ env fp Q sat h => ?_⟩
  obtain ⟨d, he, e2⟩ := eVar_ok h
  rw [e2] at h
  obtain ⟨v, fo, h1, h2, _⟩ := sat.en.get he
  cases h2 with
  | d q => exact ⟨v, h1, h v F H (.refl sat.fh) q⟩
def eC (d : D) (_ : Ev) : R D := .ok d
theorem df_int {i j} : DF X W (.Constant (.int i) j pos) (eC (.int i)) := ⟨_, pe_int, fun F H σ env fp Q sat h => h _ F H (.refl sat.fh) (.int i)⟩
theorem df_bl {i j} : DF X W (.Constant (.bool i) j pos) (eC (.bool i)) := ⟨_, pe_bl, fun F H σ env fp Q sat h => h _ F H (.refl sat.fh) (.bl i)⟩
theorem df_non {j} : DF X W (.Constant .none j pos) (eC .none) := ⟨_, pe_non, fun F H σ env fp Q sat h => h _ F H (.refl sat.fh) .non⟩
theorem df_str {i j} : DF X W (.Constant (.str i) j pos) (eC (.str i)) := ⟨_, pe_str, fun F H σ env fp Q sat h => h _ F H (.refl sat.fh) (.str i)⟩
def aNil (_ : Ev) : R (List D) := .ok []
def aCons (f : Ev → R D) (g : Ev → R (List D)) (env : Ev) : R (List D) := (f env).bind fun d => (g env).map fun ds => d :: ds
theorem da_nil : DA X W [] aNil := ⟨_, pa_nil, fun F H σ env fp Q sat h => h _ F H (.refl sat.fh) .nil⟩
theorem da_cons {f : Ev → R D} {g : Ev → R (List D)} (hf : DF X W e f) (hg : DA X W es g) (hs : starEach (e :: es) X.env = (false, eval e X.env) :: starEach es X.env := by rfl) : DA X W (e :: es) (aCons f g) := by
  obtain ⟨t, p, s⟩ := hf
  obtain ⟨t', p', s'⟩ := hg
  refine ⟨_, pa_cons p p' hs, fun F H σ env fp Q sat h => ?_⟩
  refine s.go sat h fun d v F1 H1 sat1 q _ h1 => ?_
  refine s'.go sat1 h1 fun ds vs F2 H2 sat2 q' x2 h2 => ?_
  exact h2 _ F2 H2 (.refl sat2.fh) (.cons (dpUp q x2.ff) q')
def eTup (f : Ev → R (List D)) (env : Ev) : R D := (f env).bind fun ds => guard (ds.length ≤ sizeLine) (.ok (.tuple ds))
def eLst (f : Ev → R (List D)) (env : Ev) : R Ow := (f env).bind fun ds => guard (ds.length ≤ sizeLine) (.ok (.l (ds.map Ow.d)))
theorem guard_post {P : Hp → α → β → Hp → Hp → Prop} {F H : Hp} {σ : L2.St} {c : Prop} {r : R α} {Q : β → Hp → Prop} (h : Post X W P F H σ (guard c r) Q) : c ∧ Post X W P F H σ r Q := by
  unfold guard at h
  split at h
  · exact ⟨‹_›, h⟩
  · exact h.elim
theorem df_tup {x1} {f : Ev → R (List D)} (hf : DA X W es f) : DF X W (.Tuple es x1 pos) (eTup f) := by
  obtain ⟨t, p, s⟩ := hf
  refine ⟨_, pe_tup p, fun F H σ env fp Q sat h => ?_⟩
  refine s.go sat h fun ds vs F1 H1 sat1 q _ h1 => ?_
  obtain ⟨hl, h2⟩ := guard_post h1
  refine ⟨by rw [DpAll.len q]; exact hl, fun p hp => ?_⟩
  have x := Ext.frz sat1.fh hp (.tup vs)
  exact h2 _ _ _ x (.tup (SqT.of upd_same) (dpaUp q x.ff))
theorem de_lst {f : Ev → R (List D)} (hf : DA X W es f) : DE X W (.List es pos) (eLst f) := by
  obtain ⟨t, p, s⟩ := hf
  refine ⟨_, pe_lst p, fun F H σ env fp Q sat h => ?_⟩
  refine s.go sat h fun ds vs F1 H1 sat1 q _ h1 => ?_
  obtain ⟨hl, h2⟩ := guard_post h1
  refine ⟨by rw [DpAll.len q]; exact hl, fun p hp => ?_⟩
  have x := Ext.own sat1.fh hp (.lst vs)
  exact h2 _ _ _ x ⟨[p], .l (free_of sat1.fh hp) upd_same (OwnAll.of_dp q), by simp, by simpa using hp⟩

def R.of {α : Type} : Option α → R α
  | some a => .ok a
  | none => .no
@[simp] theorem R.of_some (a : α) : R.of (some a) = .ok a := rfl
@[simp] theorem R.of_none : R.of (none : Option α) = .no := rfl
/-- data in, flat data out, the heap as it was -/
def OpS (K : PySem.W.Frag) (r : R2) (g : D → D → Option D) : Prop := ∀ H x y dx dy d Q, Dp K H x dx → Dp K H y dy → g dx dy = some d → (∀ v, (∀ F, Dp K F v d) → Q v H) → r x y H Q
def eBin (g : D → D → Option D) (f h : Ev → R D) (env : Ev) : R D := (f env).bind fun x => (h env).bind fun y => R.of (g x y)
theorem post_of {P : Hp → α → β → Hp → Hp → Prop} {F H : Hp} {σ : L2.St} {o : Option α} {Q : β → Hp → Prop} (h : Post X W P F H σ (R.of o) Q) : ∃ a, o = some a ∧ ∀ v F' H', Ext F H F' H' → P H a v F' H' → Q v H' := by
  cases o with
  | none => exact h.elim
  | some a => exact ⟨a, rfl, h⟩
theorem op_sm {r : R2} {g : D → D → Option D} (hs : OpS X.K r g) {ta tb : TE} {f h : Ev → R D} (sa : Sm X W (PVw X.K) ta f) (sb : Sm X W (PVw X.K) tb h) : Sm X W (PFz X.K) (tOp r ta tb) (eBin g f h) := by
  intro F H σ env fp Q sat hp
  refine sa.go sat hp fun d v F1 H1 sat1 q _ h1 => ?_
  refine sb.go sat1 h1 fun d' v' F2 H2 sat2 q' x2 h2 => ?_
  obtain ⟨z, hz, h3⟩ := post_of h2
  exact hs H2 v v' d d' z Q (dpUp q x2.hh) q' hz fun u hu => h3 u F2 H2 (.refl sat2.fh) (hu _)
theorem df_bin {op : Operator} {r : R2} {g : D → D → Option D} (ho : OpR X (binaryOp op) r) (hs : OpS X.K r g) {f h : Ev → R D} (ha : DV X W a f) (hb : DV X W b h) : DF X W (.BinOp a op b pos) (eBin g f h) := by
  obtain ⟨ta, pa, sa⟩ := ha
  obtain ⟨tb, pb, sb⟩ := hb
  exact ⟨_, pe_op ho pa pb, op_sm hs sa sb⟩
theorem df_cmp {op : CmpOp} {r : R2} {g : D → D → Option D} (ho : OpR X (compareOp op) r) (hs : OpS X.K r g) {f h : Ev → R D} (ha : DV X W a f) (hb : DV X W b h) (hm : behindInMarks op b = false := by first | exact nomark _ | rfl) :
    DF X W (.Compare a [op] [b] pos) (eBin g f h) := by
  obtain ⟨ta, pa, sa⟩ := ha
  obtain ⟨tb, pb, sb⟩ := hb
  exact ⟨_, pe_cmpR ho pa pb hm, op_sm hs sa sb⟩
def asB : D → R Bool
  | .bool b => .ok b
  | _ => .no
@[simp] theorem asB_bool (b : Bool) : asB (.bool b) = .ok b := rfl
theorem tb_sm {t : TE} {f : Ev → R D} (s : Sm X W (PVw X.K) t f) : Sm X W PTb (fun σ H Q => t σ H fun x H' => ∃ k, x = .bl k ∧ Q k H') (eB f asB) := by
  intro F H σ env fp Q sat hp
  refine s.go sat hp fun d v F1 H1 sat1 q _ h1 => ?_
  cases d with
  | bool b =>
    cases q
    exact ⟨b, rfl, h1 b F1 H1 (.refl sat1.fh) rfl⟩
  | _ => exact h1.elim
theorem dt_cmp {op : CmpOp} {r : R2} {g : D → D → Option D} (ho : OpR X (compareOp op) r) (hs : OpS X.K r g) {f h : Ev → R D} (ha : DV X W a f) (hb : DV X W b h) (hm : behindInMarks op b = false := by first | exact nomark _ | rfl) :
    DT X W (.Compare a [op] [b] pos) (eB (eBin g f h) asB) := by
  obtain ⟨ta, pa, sa⟩ := ha
  obtain ⟨tb, pb, sb⟩ := hb
  refine ⟨_, pt_cmpR ho pa pb hm, tb_sm ?_⟩
  intro F H σ env fp Q sat hp
  refine op_sm hs sa sb F H σ env fp Q sat ?_
  cases e : eBin g f h env with
  | no => rw [e] at hp; exact hp
  | ex c => rw [e] at hp; exact hp
  | ok d => rw [e] at hp; exact fun v F' H' x q => hp v F' H' x (dpUp q x.fh)
theorem dt_val {f : Ev → R D} (h : DV X W e f) (he : ∀ whole, isTrue e X.env whole = (do let v ← whole; standAt e.pos; holding [v] (truthy v)) := by intro _; rfl) : DT X W e (eB f asB) := by
  obtain ⟨t, p, s⟩ := h
  exact ⟨_, pt_val p he, tb_sm s⟩
def tNotE (f : Ev → R Bool) (env : Ev) : R Bool := (f env).map (!·)
theorem dt_not {f : Ev → R Bool} (h : DT X W a f) : DT X W (.UnaryOp .Not a pos) (tNotE f) := by
  obtain ⟨t, p, s⟩ := h
  refine ⟨_, pt_not p, fun F H σ env fp Q sat hp => ?_⟩
  refine s.go sat hp fun b v F1 H1 sat1 q _ h1 => ?_
  obtain rfl : v = b := q
  exact h1 _ F1 H1 (.refl sat1.fh) rfl
def tAndE (f g : Ev → R Bool) (env : Ev) : R Bool := (f env).bind fun b => if b = true then g env else .ok false
def tOrE (f g : Ev → R Bool) (env : Ev) : R Bool := (f env).bind fun b => if b = true then .ok true else g env
theorem dw_and1 {f : Ev → R Bool} (h : DT X W a f) : DW X W (.BoolOp .And [a] pos) f := by
  obtain ⟨t, p, s⟩ := h
  exact ⟨_, pw_and1 p, s⟩
theorem dw_or1 {f : Ev → R Bool} (h : DT X W a f) : DW X W (.BoolOp .Or [a] pos) f := by
  obtain ⟨t, p, s⟩ := h
  exact ⟨_, pw_or1 p, s⟩
theorem dw_and {rest : List Expr} {f g : Ev → R Bool} (h : DT X W a f) (h2 : DW X W (.BoolOp .And (b :: rest) pos) g) : DW X W (.BoolOp .And (a :: b :: rest) pos) (tAndE f g) := by
  obtain ⟨t, p, s⟩ := h
  obtain ⟨t', p', s'⟩ := h2
  refine ⟨_, pw_and p p', fun F H σ env fp Q sat hp => ?_⟩
  refine s.go sat hp fun b v F1 H1 sat1 q _ h1 => ?_
  obtain rfl : v = b := q
  cases v with
  | true => exact s' F1 H1 σ env fp Q sat1 h1
  | false => exact h1 false F1 H1 (.refl sat1.fh) rfl
theorem dw_or {rest : List Expr} {f g : Ev → R Bool} (h : DT X W a f) (h2 : DW X W (.BoolOp .Or (b :: rest) pos) g) : DW X W (.BoolOp .Or (a :: b :: rest) pos) (tOrE f g) := by
  obtain ⟨t, p, s⟩ := h
  obtain ⟨t', p', s'⟩ := h2
  refine ⟨_, pw_or p p', fun F H σ env fp Q sat hp => ?_⟩
  refine s.go sat hp fun b v F1 H1 sat1 q _ h1 => ?_
  obtain rfl : v = b := q
  cases v with
  | false => exact s' F1 H1 σ env fp Q sat1 h1
  | true => exact h1 true F1 H1 (.refl sat1.fh) rfl
theorem dt_dw {f : Ev → R Bool} (h : DW X W a f) : DT X W a f := by
  obtain ⟨t, p, s⟩ := h
  exact ⟨_, p.pt, s⟩
def eAnd (f g : Ev → R D) (env : Ev) : R D := ((f env).bind asB).bind fun b => if b = true then g env else .ok (.bool false)
def eOr (f g : Ev → R D) (env : Ev) : R D := ((f env).bind asB).bind fun b => if b = true then .ok (.bool true) else g env
def eNot (f : Ev → R D) (env : Ev) : R D := ((f env).bind asB).bind fun b => .ok (.bool !b)
def eIf (c : Ev → R Bool) (f g : Ev → R D) (env : Ev) : R D := (c env).bind fun b => if b = true then f env else g env
end
end Mir
end
set_option Elab.async false
set_option linter.all false
set_option maxRecDepth 100000
set_option maxHeartbeats 4000000
noncomputable section
namespace Mir
open PySem PySem.Spec L2

section
variable {K : PySem.W.Frag}
theorem dp_int {H : Hp} {v : V} {i : Int} (h : Dp K H v (.int i)) : v = .int i := by cases h; rfl
theorem dp_str {H : Hp} {v : V} {z : Str} (h : Dp K H v (.str z)) : v = .str z := by cases h; rfl
theorem dp_none {H : Hp} {v : V} (h : Dp K H v .none) : v = .non := by cases h; rfl
theorem dp_tup {H : Hp} {v : V} {ds : List D} (h : Dp K H v (.tuple ds)) : ∃ a vs, v = .ref a ∧ SqT K H a vs ∧ DpAll K H vs ds := by cases h with | tup a b => exact ⟨_, _, rfl, a, b⟩
theorem dp_lst {H : Hp} {v : V} {ds : List D} (h : Dp K H v (.list ds)) : ∃ a vs, v = .ref a ∧ SqL K H a vs ∧ DpAll K H vs ds := by cases h with | lst a b => exact ⟨_, _, rfl, a, b⟩

open Classical in
def gI (C : Int → Int → Prop) (f : Int → Int → Int) : D → D → Option D
  | .int i, .int j => if C i j then some (.int (f i j)) else none
  | _, _ => none
def gI0 (f : Int → Int → Int) : D → D → Option D
  | .int i, .int j => some (.int (f i j))
  | _, _ => none
def gIB (f : Int → Int → Bool) : D → D → Option D
  | .int i, .int j => some (.bool (f i j))
  | _, _ => none
theorem opS_I {C : Int → Int → Prop} {f : Int → Int → Int} : OpS K (rI C fun i j => .int (f i j)) (gI C f) := by
  intro H x y dx dy d Q hx hy e q
  unfold gI at e
  split at e
  · rename_i i j
    split at e
    · rename_i c
      cases e
      cases dp_int hx
      cases dp_int hy
      exact ⟨i, j, rfl, rfl, c, q _ fun _ => .int _⟩
    · cases e
  · cases e
theorem opS_I0 {f : Int → Int → Int} : OpS K (rI0 fun i j => .int (f i j)) (gI0 f) := by
  intro H x y dx dy d Q hx hy e q
  unfold gI0 at e
  split at e
  · cases e
    cases dp_int hx
    cases dp_int hy
    exact ⟨_, _, rfl, rfl, q _ fun _ => .int _⟩
  · cases e
theorem opS_IB {f : Int → Int → Bool} : OpS K (rI0 fun i j => .bl (f i j)) (gIB f) := by
  intro H x y dx dy d Q hx hy e q
  unfold gIB at e
  split at e
  · cases e
    cases dp_int hx
    cases dp_int hy
    exact ⟨_, _, rfl, rfl, q _ fun _ => .bl _⟩
  · cases e
def gSub := gI0 fun i j => i - j
def gMul := gI (fun i j => CMul i j ∨ CMulW i j) fun i j => i * j
def gDiv := gI CDivW fun i j => i / j
def gMod := gI (fun _ j => 0 < j) fun i j => i % j
def gPow := gI CPow fun i j => i ^ j.toNat
def gLt := gIB fun i j => decide (i < j)
def gLe := gIB fun i j => decide (i ≤ j)
def gGt := gIB fun i j => decide (j < i)
def gGe := gIB fun i j => decide (j ≤ i)
@[simp] theorem gSub_int (i j : Int) : gSub (.int i) (.int j) = some (.int (i - j)) := rfl
theorem gMul_int {i j : Int} (h : CMulW i j) : gMul (.int i) (.int j) = some (.int (i * j)) := if_pos (.inr h)
theorem gMul_by {i j : Int} (h1 : -(2 ^ 64) < j) (h2 : j < 2 ^ 64) : gMul (.int i) (.int j) = some (.int (i * j)) := if_pos (.inl (.inr ⟨h1, h2⟩))
theorem gDiv_int {i j : Int} (h : CDivW i j) : gDiv (.int i) (.int j) = some (.int (i / j)) := if_pos h
theorem gMod_int {i j : Int} (h : 0 < j) : gMod (.int i) (.int j) = some (.int (i % j)) := if_pos h
theorem gPow_int {i j : Int} (h : CPow i j) : gPow (.int i) (.int j) = some (.int (i ^ j.toNat)) := if_pos h
@[simp] theorem gLt_int (i j : Int) : gLt (.int i) (.int j) = some (.bool (decide (i < j))) := rfl
@[simp] theorem gLe_int (i j : Int) : gLe (.int i) (.int j) = some (.bool (decide (i ≤ j))) := rfl
@[simp] theorem gGt_int (i j : Int) : gGt (.int i) (.int j) = some (.bool (decide (j < i))) := rfl
@[simp] theorem gGe_int (i j : Int) : gGe (.int i) (.int j) = some (.bool (decide (j ≤ i))) := rfl
end

section
variable {X : Cx} {W : WX} {e a b : Expr} {es : List Expr} {pos : Pos} {f g : Ev → R D}
theorem df_sub (ha : DV X W a f) (hb : DV X W b g) : DF X W (.BinOp a .Sub b pos) (eBin gSub f g) := df_bin op_sub opS_I0 ha hb
theorem op_mulV : OpR X (binaryOp .Mult) (rI (fun i j => CMul i j ∨ CMulW i j) fun i j => .int (i * j)) := by
  intro pins s σ H x y v u Q I rx ry h
  obtain ⟨i, j, e1, e2, c, q⟩ := h
  rcases c with c | c
  · exact op_mul pins s σ H x y v u Q I rx ry ⟨i, j, e1, e2, c, q⟩
  · exact op_mulW pins s σ H x y v u Q I rx ry ⟨i, j, e1, e2, c, q⟩
theorem df_mul (ha : DV X W a f) (hb : DV X W b g) : DF X W (.BinOp a .Mult b pos) (eBin gMul f g) := df_bin op_mulV opS_I ha hb
theorem df_div (ha : DV X W a f) (hb : DV X W b g) : DF X W (.BinOp a .FloorDiv b pos) (eBin gDiv f g) := df_bin op_fdivW opS_I ha hb
theorem df_mod (ha : DV X W a f) (hb : DV X W b g) : DF X W (.BinOp a .Mod b pos) (eBin gMod f g) := df_bin op_mod opS_I ha hb
theorem df_pow (ha : DV X W a f) (hb : DV X W b g) : DF X W (.BinOp a .Pow b pos) (eBin gPow f g) := df_bin op_pow opS_I ha hb
theorem dt_lt (ha : DV X W a f) (hb : DV X W b g) : DT X W (.Compare a [.Lt] [b] pos) (eB (eBin gLt f g) asB) := dt_cmp op_lt opS_IB ha hb
theorem dt_ge (ha : DV X W a f) (hb : DV X W b g) : DT X W (.Compare a [.GtE] [b] pos) (eB (eBin gGe f g) asB) := dt_cmp op_ge opS_IB ha hb
def gNeg : D → R D
  | .int i => .ok (.int (-i))
  | _ => .no
theorem df_neg (ha : DV X W a f) : DF X W (.UnaryOp .USub a pos) (eB f gNeg) := by
  obtain ⟨t, p, s⟩ := ha
  refine ⟨_, pe_un un_neg p, fun F H σ env fp Q sat hp => ?_⟩
  refine s.go sat hp fun d v F1 H1 sat1 q _ h1 => ?_
  cases d with
  | int i => cases dp_int q; exact ⟨i, rfl, h1 _ F1 H1 (.refl sat1.fh) (.int _)⟩
  | _ => exact h1.elim

def scalD : D → Bool
  | .none => true
  | .bool _ => true
  | .int _ => true
  | .str _ => true
  | _ => false
/-- a bool beside an int is left to the deep rule -/
def scal2 : D → D → Bool
  | .bool _, .int _ => false
  | .int _, .bool _ => false
  | a, b => scalD a && scalD b
def eqOk (a b : D) : Bool := a.canLay0 && b.canLay0 && decide (a.depth ≤ 130)
def gEq (a b : D) : Option D := if (scal2 a b || eqOk a b) = true then some (.bool (PyData.eqv a b)) else none
def gNe (a b : D) : Option D := if (scal2 a b || eqOk a b) = true then some (.bool (!PyData.eqv a b)) else none
def rEqA (K : PySem.W.Frag) (neg : Bool) : R2 := fun x y H Q => ∃ d e, Dp K H x d ∧ Dp K H y e ∧ eqOk d e = true ∧ Q (.bl (if neg then !PyData.eqv d e else PyData.eqv d e)) H
theorem eqOk_cases {a b : D} (h : eqOk a b = true) : a.canLay0 = true ∧ b.canLay0 = true ∧ a.depth ≤ 130 := by
  unfold eqOk at h
  simp only [Bool.and_eq_true, decide_eq_true_eq] at h
  exact ⟨h.1.1, h.1.2, h.2⟩
theorem op_eqA (hu : X.A.units + 140 < cLine) : OpR X (compareOp .Eq) (rEqA X.K false) := by
  intro pins s σ H x y v u Q I rx ry h
  obtain ⟨d, e, hd, he, sd, q⟩ := h
  obtain ⟨as, r1⟩ := L2.Dp.reads I d x v (Dp.kit _ _ hd (eqOk_cases sd).1) rx
  obtain ⟨bs, r2⟩ := L2.Dp.reads I e y u (Dp.kit _ _ he (eqOk_cases sd).2.1) ry
  obtain ⟨c1, c2, c3⟩ := eqOk_cases sd
  exact SeqAt.compareEq_reads r1 r2 c1 c2 (by have := Nat.min_le_left d.depth e.depth; omega) ⟨.bl _, H, I, rfl, q⟩
theorem op_neA (hu : X.A.units + 140 < cLine) : OpR X (compareOp .NotEq) (rEqA X.K true) := by
  intro pins s σ H x y v u Q I rx ry h
  obtain ⟨d, e, hd, he, sd, q⟩ := h
  obtain ⟨as, r1⟩ := L2.Dp.reads I d x v (Dp.kit _ _ hd (eqOk_cases sd).1) rx
  obtain ⟨bs, r2⟩ := L2.Dp.reads I e y u (Dp.kit _ _ he (eqOk_cases sd).2.1) ry
  obtain ⟨c1, c2, c3⟩ := eqOk_cases sd
  exact SeqAt.compareNe_reads r1 r2 c1 c2 (by have := Nat.min_le_left d.depth e.depth; omega) ⟨.bl _, H, I, rfl, q⟩
theorem scal_dp {K : PySem.W.Frag} {H : Hp} {x y : V} {a b : D} (ha : Dp K H x a) (hb : Dp K H y b) (h : scal2 a b = true) : scal x y = true ∧ decide (x = y) = PyData.eqv a b := by
  cases a <;> cases b <;> first
    | (cases h; done)
    | (cases ha; cases hb; refine ⟨rfl, ?_⟩; simp [PyData.eqv]; try rfl)
    | (cases ha; cases hb; refine ⟨rfl, ?_⟩; simp [PyData.eqv, dec_int, dec_bl, dec_str])
theorem opS_eq {K : PySem.W.Frag} : OpS K (fun x y H Q => rEq x y H Q ∨ rEqA K false x y H Q) gEq := by
  intro H x y dx dy d Q hx hy e q
  unfold gEq at e
  split at e
  · rename_i c
    cases e
    cases c1 : scal2 dx dy with
    | true =>
      obtain ⟨h1, h2⟩ := scal_dp hx hy c1
      exact .inl ⟨h1, by rw [h2]; exact q _ fun _ => .bl _⟩
    | false =>
      rw [c1, Bool.false_or] at c
      exact .inr ⟨dx, dy, hx, hy, c, q _ fun _ => .bl _⟩
  · cases e
theorem opS_ne {K : PySem.W.Frag} : OpS K (fun x y H Q => rNe x y H Q ∨ rEqA K true x y H Q) gNe := by
  intro H x y dx dy d Q hx hy e q
  unfold gNe at e
  split at e
  · rename_i c
    cases e
    cases c1 : scal2 dx dy with
    | true =>
      obtain ⟨h1, h2⟩ := scal_dp hx hy c1
      exact .inl ⟨h1, by rw [h2]; exact q _ fun _ => .bl _⟩
    | false =>
      rw [c1, Bool.false_or] at c
      exact .inr ⟨dx, dy, hx, hy, c, q _ fun _ => .bl _⟩
  · cases e
theorem df_eq (hu : X.A.units + 140 < cLine) (ha : DV X W a f) (hb : DV X W b g) : DF X W (.Compare a [.Eq] [b] pos) (eBin gEq f g) := df_cmp (OpR.or op_eq (op_eqA hu)) opS_eq ha hb
theorem dt_eq (hu : X.A.units + 140 < cLine) (ha : DV X W a f) (hb : DV X W b g) : DT X W (.Compare a [.Eq] [b] pos) (eB (eBin gEq f g) asB) := dt_cmp (OpR.or op_eq (op_eqA hu)) opS_eq ha hb
theorem dt_ne (hu : X.A.units + 140 < cLine) (ha : DV X W a f) (hb : DV X W b g) : DT X W (.Compare a [.NotEq] [b] pos) (eB (eBin gNe f g) asB) := dt_cmp (OpR.or op_ne (op_neA hu)) opS_ne ha hb
def isNone : D → Bool
  | .none => true
  | _ => false
def gIsN : D → D → Option D
  | x, .none => some (.bool (isNone x))
  | _, _ => none
def gNotN : D → D → Option D
  | x, .none => some (.bool (!isNone x))
  | _, _ => none
@[simp] theorem gIsN_none (x : D) : gIsN x .none = some (.bool (isNone x)) := by cases x <;> rfl
@[simp] theorem gNotN_none (x : D) : gNotN x .none = some (.bool (!isNone x)) := by cases x <;> rfl
theorem isNone_dp {K : PySem.W.Frag} {H : Hp} {x : V} {d : D} (h : Dp K H x d) : decide (x = .non) = isNone d := by
  cases h <;> first | rfl | (simp [isNone]; done)
theorem opS_isN {K : PySem.W.Frag} : OpS K (fun x y H Q => y = .non ∧ Q (.bl (decide (x = .non))) H) gIsN := by
  intro H x y dx dy d Q hx hy e q
  cases dy with
  | none =>
    rw [gIsN_none] at e
    cases e
    exact ⟨dp_none hy, by rw [isNone_dp hx]; exact q _ fun _ => .bl _⟩
  | _ => cases dx <;> cases e
theorem opS_notN {K : PySem.W.Frag} : OpS K (fun x y H Q => y = .non ∧ Q (.bl (!decide (x = .non))) H) gNotN := by
  intro H x y dx dy d Q hx hy e q
  cases dy with
  | none =>
    rw [gNotN_none] at e
    cases e
    exact ⟨dp_none hy, by rw [isNone_dp hx]; exact q _ fun _ => .bl _⟩
  | _ => cases dx <;> cases e
theorem dt_isN (ha : DV X W a f) (hb : DV X W b g) : DT X W (.Compare a [.Is] [b] pos) (eB (eBin gIsN f g) asB) := dt_cmp op_isN opS_isN ha hb
theorem dt_notN (ha : DV X W a f) (hb : DV X W b g) : DT X W (.Compare a [.IsNot] [b] pos) (eB (eBin gNotN f g) asB) := dt_cmp op_notN opS_notN ha hb

def gAdd : D → D → Option Ow
  | .int i, .int j => some (.d (.int (i + j)))
  | .str x, .str y => if x.length + y.length ≤ sizeLine then some (.d (.str (x ++ y))) else none
  | .tuple xs, .tuple ys => if xs.length + ys.length ≤ sizeLine then some (.d (.tuple (xs ++ ys))) else none
  | .list xs, .list ys => if xs.length + ys.length ≤ sizeLine then some (.l ((xs ++ ys).map Ow.d)) else none
  | _, _ => none
@[simp] theorem gAdd_int (i j : Int) : gAdd (.int i) (.int j) = some (.d (.int (i + j))) := rfl
theorem gAdd_str {x y : Str} (h : x.length + y.length ≤ sizeLine) : gAdd (.str x) (.str y) = some (.d (.str (x ++ y))) := if_pos h
def rCatL (K : PySem.W.Frag) : R2 := fun x y H Q => ∃ a b xs ys, x = .ref a ∧ y = .ref b ∧ SqL K H a xs ∧ SqL K H b ys ∧ xs.length + ys.length ≤ sizeLine ∧ ∀ p, H p = none → Q (.ref p) (upd H p (.lst (xs ++ ys)))
theorem op_catL : OpR X (binaryOp .Add) (rCatL X.K) := by
  intro pins s σ H x y v u Q I rx ry h
  obtain ⟨l, b, xs, zs, rfl, rfl, hH, hB, hz, q⟩ := h
  cases rx
  cases ry
  obtain ⟨its, r, pl, hl⟩ := I.list hH
  obtain ⟨its2, r2, pl2, hl2⟩ := I.list hB
  obtain ⟨⟨c1, d1, t1, s1⟩, g1, k1, n1, m1⟩ := pl.isList
  obtain ⟨⟨c2, d2, t2, s2⟩, g2, k2, n2, m2⟩ := pl2.isList
  simp only at k1 m1 k2 m2
  subst k1 m1 k2 m2
  refine PySem.concat_meets ⟨_, g1, rfl⟩ ⟨_, g2, rfl⟩ PySem.noFill_list_add PySem.seq_list_add PySem.F.slot_list_add PySem.F.entry_list_add (PySem.F.args_list_add_2 _ _)
    (PyProof.Rows.list_addW l b its.toArray its2.toArray n1 n2 d1 d2 s1 s2 (by rw [List.size_toArray, List.size_toArray, ← r.length, ← r2.length]; exact hz)) ⟨g1, g2, ?_⟩
  have ea : its.toArray ++ its2.toArray = (its ++ its2).toArray := by simp
  rw [ea]
  exact ⟨.ref _, _, I.lnew (t' := s.toks) (r.append r2) (by rw [List.length_append]; omega), rfl, q _ I.fresh⟩
abbrev rAddAll (K : PySem.W.Frag) : R2 := fun x y H Q => rI0 (fun i j => .int (i + j)) x y H Q ∨ (fun x y H Q => (∃ i j, x = V.str i ∧ y = V.str j ∧ i.length + j.length ≤ sizeLine ∧ Q (.str (i ++ j)) H) ∨ (fun x y H Q => rCatA K x y H Q ∨ rCatL K x y H Q) x y H Q) x y H Q
theorem op_addAll : OpR X (binaryOp .Add) (rAddAll X.K) := OpR.or op_add (OpR.or op_add_str (OpR.or op_catA op_catL))
def eBinO (g : D → D → Option Ow) (f h : Ev → R D) (env : Ev) : R Ow := (f env).bind fun x => (h env).bind fun y => R.of (g x y)
/-- two operands with frozen items, a new value -/
def OpG (K : PySem.W.Frag) (r : R2) (g : D → D → Option Ow) : Prop := ∀ F H x y dx dy o Q, Same F H → PSq K H dx x F H → PSq K H dy y F H → g dx dy = some o → (∀ v F' H', Ext F H F' H' → POw K H o v F' H' → Q v H') → r x y H Q
theorem opG_sm {r : R2} {g : D → D → Option Ow} (hs : OpG X.K r g) {ta tb : TE} {f h : Ev → R D} (sa : Sm X W (PSq X.K) ta f) (sb : Sm X W (PSq X.K) tb h) : Sm X W (POw X.K) (tOp r ta tb) (eBinO g f h) := by
  intro F H σ env fp Q sat hp
  refine sa.go sat hp fun d v F1 H1 sat1 q _ h1 => ?_
  refine sb.go sat1 h1 fun d' v' F2 H2 sat2 q' x2 h2 => ?_
  obtain ⟨z, hz, h3⟩ := post_of h2
  exact hs F2 H2 v v' d d' z Q sat2.fh (q.ext x2) q' hz h3
theorem de_bin {op : Operator} {r : R2} {g : D → D → Option Ow} (ho : OpR X (binaryOp op) r) (hs : OpG X.K r g) {f h : Ev → R D} (ha : DL X W a f) (hb : DL X W b h) : DE X W (.BinOp a op b pos) (eBinO g f h) := by
  obtain ⟨ta, pa, sa⟩ := ha
  obtain ⟨tb, pb, sb⟩ := hb
  exact ⟨_, pe_op ho pa pb, opG_sm hs sa sb⟩
theorem own_d {K : PySem.W.Frag} {H0 F H : Hp} {v : V} {d : D} (h : Dp K F v d) : POw K H0 (.d d) v F H := ⟨[], .d h, List.nodup_nil, fun _ z => nomatch z⟩
theorem own_l {K : PySem.W.Frag} {F H : Hp} {p : Addr} {vs : List V} {ds : List D} (s : Same F H) (hp : H p = none) (h : DpAll K F vs ds) : POw K H (.l (ds.map Ow.d)) (.ref p) F (upd H p (.lst vs)) :=
  ⟨[p], .l (free_of s hp) upd_same (OwnAll.of_dp h), by simp, by simpa using hp⟩
theorem opG_add {K : PySem.W.Frag} : OpG K (rAddAll K) gAdd := by
  intro F H x y dx dy o Q s hx hy e q
  unfold gAdd at e
  split at e
  · cases e
    cases dp_int hx
    cases dp_int hy
    exact .inl ⟨_, _, rfl, rfl, q _ _ _ (.refl s) (own_d (.int _))⟩
  · split at e
    · cases e
      cases dp_str hx
      cases dp_str hy
      exact .inr (.inl ⟨_, _, rfl, rfl, ‹_›, q _ _ _ (.refl s) (own_d (.str _))⟩)
    · cases e
  · split at e
    · rename_i xs ys c
      cases e
      obtain ⟨a, vs, rfl, h1, h2⟩ := dp_tup hx
      obtain ⟨b, ws, rfl, g1, g2⟩ := dp_tup hy
      refine .inr (.inr (.inl ⟨a, b, vs, ws, rfl, rfl, SqT_mono s h1, SqT_mono s g1, by rw [DpAll.len h2, DpAll.len g2]; exact c, fun e0 => ?_, fun n0 e0 => ?_, fun n0 n1 p hp => ?_⟩))
      · have l := DpAll.len h2
        rw [e0] at l
        have z : xs = [] := List.length_eq_zero_iff.mp l.symm
        subst z
        exact q _ _ _ (.refl s) (own_d hy)
      · have l := DpAll.len g2
        rw [e0] at l
        have z : ys = [] := List.length_eq_zero_iff.mp l.symm
        subst z
        rw [List.append_nil] at q
        exact q _ _ _ (.refl s) (own_d hx)
      · have x := Ext.frz s hp (.tup (vs ++ ws))
        exact q _ _ _ x (own_d (.tup (SqT.of upd_same) (dpaUp (DpAll.append h2 g2) x.ff)))
    · cases e
  · split at e
    · rename_i xs ys c
      cases e
      obtain ⟨a, vs, rfl, h1, h2⟩ := hx
      obtain ⟨b, ws, rfl, g1, g2⟩ := hy
      refine .inr (.inr (.inr ⟨a, b, vs, ws, rfl, rfl, h1, g1, by rw [DpAll.len h2, DpAll.len g2]; exact c, fun p hp => ?_⟩))
      exact q _ _ _ (Ext.own s hp _) (own_l s hp (DpAll.append h2 g2))
    · cases e
  · cases e
theorem de_add (ha : DL X W a f) (hb : DL X W b g) : DE X W (.BinOp a .Add b pos) (eBinO gAdd f g) := de_bin op_addAll opG_add ha hb
end
end Mir
end
set_option Elab.async false
set_option linter.all false
set_option maxRecDepth 100000
set_option maxHeartbeats 4000000
noncomputable section
namespace Mir
open PySem PySem.Spec L2

section
variable {X : Cx} {W : WX} {e a b : Expr} {es : List Expr} {pos : Pos} {f g : Ev → R D}
theorem atI_dp {K : PySem.W.Frag} {F : Hp} {vs : List V} {ds : List D} {i : Int} {d : D} (h : DpAll K F vs ds) (e : atI ds i = some d) : ∃ v, atI vs i = some v ∧ Dp K F v d := by
  unfold atI at e ⊢
  rw [DpAll.len h]
  cases q : ixN ds.length i with
  | none => rw [q] at e; cases e
  | some j =>
    rw [q] at e
    exact DpAll.get h e
def gIx : D → D → Option D
  | .list ds, .int i => atI ds i
  | .tuple ds, .int i => atI ds i
  | .str z, .int i => if z.length ≤ sizeLine then (atI z.cps.toList i).map fun c => .str ⟨#[c]⟩ else none
  | _, _ => none
@[simp] theorem gIx_list (ds : List D) (i : Int) : gIx (.list ds) (.int i) = atI ds i := rfl
@[simp] theorem gIx_tup (ds : List D) (i : Int) : gIx (.tuple ds) (.int i) = atI ds i := rfl
theorem df_ix (ha : DL X W a f) (hb : DV X W b g) (hs : PlainIx b := by exact fun _ _ => rfl) : DF X W (.Subscript a b pos) (eBin gIx f g) := by
  obtain ⟨ta, pa, sa⟩ := ha
  obtain ⟨tb, pb, sb⟩ := hb
  refine ⟨_, pe_ix ix_seq pa pb hs, fun F H σ env fp Q sat hp => ?_⟩
  refine sa.go sat hp fun d v F1 H1 sat1 q _ h1 => ?_
  refine sb.go sat1 h1 fun d' v' F2 H2 sat2 q' x2 h2 => ?_
  obtain ⟨z, hz, h3⟩ := post_of h2
  unfold gIx at hz
  split at hz
  · rename_i ds i
    cases dp_int q'
    obtain ⟨p, vs, rfl, p1, p2⟩ := q
    obtain ⟨w, w1, w2⟩ := atI_dp p2 hz
    exact .inl ⟨p, vs, i, w, rfl, rfl, x2.hh.seq p1, w1, h3 _ _ _ (.refl sat2.fh) (dpUp w2 x2.ff)⟩
  · rename_i ds i
    cases dp_int q'
    obtain ⟨p, vs, rfl, p1, p2⟩ := dp_tup q
    obtain ⟨w, w1, w2⟩ := atI_dp p2 hz
    exact .inr (.inl ⟨p, vs, i, w, rfl, rfl, SqT_mono (x2.ff.trans sat2.fh) p1, w1, h3 _ _ _ (.refl sat2.fh) (dpUp w2 x2.ff)⟩)
  · split at hz
    · rename_i zz i c
      cases dp_int q'
      cases dp_str q
      obtain ⟨cc, c1, c2⟩ := Option.map_eq_some_iff.mp hz
      subst c2
      exact .inr (.inr ⟨_, _, cc, rfl, rfl, c, c1, h3 _ _ _ (.refl sat2.fh) (.str _)⟩)
    · cases hz
  · cases hz
/-- a slice's part -/
def DO (X : Cx) (W : WX) (e : Option Expr) (f : Ev → R (Option Int)) : Prop := ∃ t, PO X e t ∧ Sm X W (fun _ a v _ _ => v = a) t f
instance : Anti (fun (_ : Hp) (a v : Option Int) (_ _ : Hp) => v = a) := ⟨fun _ h => h⟩
def oNone (_ : Ev) : R (Option Int) := .ok none
def asI : D → R (Option Int)
  | .int i => .ok (some i)
  | _ => .no
@[simp] theorem asI_int (i : Int) : asI (.int i) = .ok (some i) := rfl
theorem do_none : DO X W none oNone := ⟨_, po_none, fun F H σ env fp Q sat hp => hp none F H (.refl sat.fh) rfl⟩
theorem do_some (h : DV X W e f) : DO X W (some e) (eB f asI) := by
  obtain ⟨t, p, s⟩ := h
  refine ⟨_, po_some p, fun F H σ env fp Q sat hp => ?_⟩
  refine s.go sat hp fun d v F1 H1 sat1 q _ h1 => ?_
  cases d with
  | int i => cases dp_int q; exact ⟨i, rfl, h1 _ F1 H1 (.refl sat1.fh) rfl⟩
  | _ => exact h1.elim
def cutL {α : Type} (xs : List α) (lo hi : Option Int) : List α := (xs.drop (HT.sIx xs.length 0 lo)).take (HT.sIx xs.length xs.length hi - HT.sIx xs.length 0 lo)
theorem cutL_dp {K : PySem.W.Frag} {F : Hp} {vs : List V} {ds : List D} {lo hi : Option Int} (h : DpAll K F vs ds) : DpAll K F (cutV vs lo hi) (cutL ds lo hi) := by
  unfold cutV cutL
  rw [DpAll.len h]
  exact DpAll.take _ (DpAll.drop _ h)
def gSl : D → Option Int → Option Int → Option Ow
  | .list ds, lo, hi => some (.l ((cutL ds lo hi).map Ow.d))
  | .tuple ds, lo, hi => some (.d (.tuple (cutL ds lo hi)))
  | .str z, lo, hi => if z.length ≤ sizeLine then some (.d (.str (cutS z lo hi))) else none
  | _, _, _ => none
@[simp] theorem gSl_list (ds : List D) (lo hi : Option Int) : gSl (.list ds) lo hi = some (.l ((cutL ds lo hi).map Ow.d)) := rfl
@[simp] theorem gSl_tup (ds : List D) (lo hi : Option Int) : gSl (.tuple ds) lo hi = some (.d (.tuple (cutL ds lo hi))) := rfl
def eSl (f : Ev → R D) (l h : Ev → R (Option Int)) (env : Ev) : R Ow := (f env).bind fun x => (l env).bind fun i => (h env).bind fun j => R.of (gSl x i j)
theorem de_slice {lo hi : Option Expr} {l h : Ev → R (Option Int)} {p2 : Pos} (ha : DL X W a f) (hl : DO X W lo l) (hh : DO X W hi h) : DE X W (.Subscript a (.Slice lo hi none p2) pos) (eSl f l h) := by
  obtain ⟨ta, pa, sa⟩ := ha
  obtain ⟨tl, pl, sl⟩ := hl
  obtain ⟨th, ph, sh⟩ := hh
  refine ⟨_, pe_slice (SlR.or sl_list (SlR.or sl_tupA sl_str)) pa pl ph, fun F H σ env fp Q sat hp => ?_⟩
  refine sa.go sat hp fun d v F1 H1 sat1 q _ h1 => ?_
  refine sl.go sat1 h1 fun i i' F2 H2 sat2 q' x2 h2 => ?_
  obtain rfl : i' = i := q'
  refine sh.go sat2 h2 fun j j' F3 H3 sat3 q' x3 h3 => ?_
  obtain rfl : j' = j := q'
  obtain ⟨z, hz, h4⟩ := post_of h3
  have x := x2.trans x3
  unfold gSl at hz
  split at hz
  · cases hz
    obtain ⟨p, vs, rfl, p1, p2⟩ := q
    refine .inl ⟨p, vs, rfl, x.hh.seq p1, fun r hr => ?_⟩
    exact h4 _ _ _ (Ext.own sat3.fh hr _) (own_l sat3.fh hr (cutL_dp (dpaUp p2 x.ff)))
  · cases hz
    obtain ⟨p, vs, rfl, p1, p2⟩ := dp_tup q
    have p3 := DpAll.len p2
    refine .inr (.inl ⟨p, vs, rfl, SqT_mono (x.ff.trans sat3.fh) p1, fun c => ?_, fun _ r hr => ?_⟩)
    · refine h4 _ _ _ (.refl sat3.fh) (own_d ?_)
      rename_i ds
      have e : cutL ds i' j' = ds := by
        unfold cutL
        rw [← p3, c.1, c.2, List.drop_zero, Nat.sub_zero, p3, List.take_length]
      rw [e]
      exact dpUp q x.ff
    · have y := Ext.frz sat3.fh hr (.tup (cutV vs i' j'))
      exact h4 _ _ _ y (own_d (.tup (SqT.of upd_same) (cutL_dp (dpaUp p2 (x.ff.trans y.ff)))))
  · split at hz
    · cases hz
      cases dp_str q
      exact .inr (.inr ⟨_, rfl, ‹_›, h4 _ _ _ (.refl sat3.fh) (own_d (.str _))⟩)
    · cases hz
  · cases hz

inductive PSqs (K : PySem.W.Frag) (F H : Hp) : List D → List V → Prop
  | nil : PSqs K F H [] []
  | cons {d : D} {ds : List D} {v : V} {vs : List V} : PSq K H d v F H → PSqs K F H ds vs → PSqs K F H (d :: ds) (v :: vs)
def PAl (K : PySem.W.Frag) (_ : Hp) (ds : List D) (vs : List V) (F' H' : Hp) : Prop := PSqs K F' H' ds vs
instance {K : PySem.W.Frag} : Anti (PAl K) := ⟨fun _ h => h⟩
def DAl (X : Cx) (W : WX) (es : List Expr) (f : Ev → R (List D)) : Prop := ∃ t, PA X es t ∧ Sm X W (PAl X.K) t f
theorem dal_nil : DAl X W [] aNil := ⟨_, pa_nil, fun F H σ env fp Q sat h => h _ F H (.refl sat.fh) .nil⟩
theorem dal_cons {f : Ev → R D} {g : Ev → R (List D)} (hf : DL X W e f) (hg : DAl X W es g) (hs : starEach (e :: es) X.env = (false, eval e X.env) :: starEach es X.env := by rfl) : DAl X W (e :: es) (aCons f g) := by
  obtain ⟨t, p, s⟩ := hf
  obtain ⟨t', p', s'⟩ := hg
  refine ⟨_, pa_cons p p' hs, fun F H σ env fp Q sat h => ?_⟩
  refine s.go sat h fun d v F1 H1 sat1 q _ h1 => ?_
  refine s'.go sat1 h1 fun ds vs F2 H2 sat2 q' x2 h2 => ?_
  exact h2 _ F2 H2 (.refl sat2.fh) (.cons (q.ext x2) q')
def CaG (K : PySem.W.Frag) (r : List V → Hp → VK → Prop) (g : List D → Option Ow) : Prop := ∀ F H vs ds o Q, Same F H → PSqs K F H ds vs → g ds = some o → (∀ v F' H', Ext F H F' H' → POw K H o v F' H' → Q v H') → r vs H Q
def eCa (g : List D → Option Ow) (f : Ev → R (List D)) (env : Ev) : R Ow := (f env).bind fun ds => R.of (g ds)
theorem ca_sm {r : List V → Hp → VK → Prop} {g : List D → Option Ow} {t : TA} {f : Ev → R (List D)} (hs : CaG X.K r g) (s : Sm X W (PAl X.K) t f) : Sm X W (POw X.K) (tCB r t) (eCa g f) := by
  intro F H σ env fp Q sat hp
  refine s.go sat hp fun ds vs F1 H1 sat1 q _ h1 => ?_
  obtain ⟨z, hz, h2⟩ := post_of h1
  exact hs F1 H1 vs ds z Q sat1.fh q hz h2
theorem de_callB {id : String} {r : List V → Hp → VK → Prop} {g : List D → Option Ow} {x : Str} {p : Pos} {f : Ev → R (List D)} (hc : CallR X (.builtin id) r) (hs : CaG X.K r g) (hg : Gl X x) (hm : X.mg x = none) (hv : bootBuiltins x = some (.builtin id)) (ha : DAl X W (e :: es) f)
    (hn : x ≠ "__name__" := by decide) (hdb : (x == ("__debug__" : Str)) = false := by decide)
    (he : starEach (e :: es) X.env = (false, eval e X.env) :: starEach es X.env := by rfl) (hpl : (backTo pos (starEach es X.env)).any (·.1) = false := by rfl) : DE X W (.Call (.Name x p) (e :: es) [] pos) (eCa g f) := by
  obtain ⟨t, pa, s⟩ := ha
  exact ⟨_, pe_callB hc hg hm hv pa hn hdb he hpl, ca_sm hs s⟩
theorem de_callTy {T : String} {r : List V → Hp → VK → Prop} {g : List D → Option Ow} {x : Str} {p : Pos} {f : Ev → R (List D)} (hc : CallR X (.type T) r) (hs : CaG X.K r g) (hg : Gl X x) (hm : X.mg x = none) (hv : bootBuiltins x = some (.type T)) (ha : DAl X W (e :: es) f)
    (hn : x ≠ "__name__" := by decide) (hdb : (x == ("__debug__" : Str)) = false := by decide)
    (he : starEach (e :: es) X.env = (false, eval e X.env) :: starEach es X.env := by rfl) (hpl : (backTo pos (starEach es X.env)).any (·.1) = false := by rfl) : DE X W (.Call (.Name x p) (e :: es) [] pos) (eCa g f) := by
  obtain ⟨t, pa, s⟩ := ha
  exact ⟨_, pe_callTy hc hg hm hv pa hn hdb he hpl, ca_sm hs s⟩
theorem psqs1 {K : PySem.W.Frag} {F H : Hp} {d : D} {vs : List V} (h : PSqs K F H [d] vs) : ∃ v, vs = [v] ∧ PSq K H d v F H := by
  cases h with | cons a b => cases b; exact ⟨_, rfl, a⟩
def gLen : List D → Option Ow
  | [.list ds] => some (.d (.int ds.length))
  | [.tuple ds] => some (.d (.int ds.length))
  | [.str z] => if z.length ≤ sizeLine then some (.d (.int z.length)) else none
  | _ => none
@[simp] theorem gLen_list (ds : List D) : gLen [.list ds] = some (.d (.int ds.length)) := rfl
@[simp] theorem gLen_tup (ds : List D) : gLen [.tuple ds] = some (.d (.int ds.length)) := rfl
theorem caG_len {K : PySem.W.Frag} : CaG K (fun xs H Q => ∃ x n, xs = [x] ∧ LenV K x H n ∧ Q (.int n) H) gLen := by
  intro F H vs ds o Q s h e q
  unfold gLen at e
  split at e
  · cases e
    obtain ⟨v, rfl, p, ws, rfl, p1, p2⟩ := psqs1 h
    exact ⟨_, _, rfl, .inl ⟨ws, p1, (DpAll.len p2).symm⟩, q _ _ _ (.refl s) (own_d (.int _))⟩
  · cases e
    obtain ⟨v, rfl, w⟩ := psqs1 h
    obtain ⟨p, ws, rfl, p1, p2⟩ := dp_tup w
    exact ⟨_, _, rfl, .inr ⟨ws, SqT_mono s p1, (DpAll.len p2).symm⟩, q _ _ _ (.refl s) (own_d (.int _))⟩
  · split at e
    · rename_i c
      cases e
      obtain ⟨v, rfl, w⟩ := psqs1 h
      cases dp_str w
      exact ⟨_, _, rfl, ⟨c, rfl⟩, q _ _ _ (.refl s) (own_d (.int _))⟩
    · cases e
  · cases e
def gMax2 : List D → Option Ow
  | [.int i, .int j] => some (.d (.int (if j > i then j else i)))
  | _ => none
def gMin2 : List D → Option Ow
  | [.int i, .int j] => some (.d (.int (if j < i then j else i)))
  | _ => none
@[simp] theorem gMax2_int (i j : Int) : gMax2 [.int i, .int j] = some (.d (.int (if j > i then j else i))) := rfl
@[simp] theorem gMin2_int (i j : Int) : gMin2 [.int i, .int j] = some (.d (.int (if j < i then j else i))) := rfl
def intsD : List D → Option (List Int)
  | [] => some []
  | .int i :: ds => (intsD ds).map fun is => i :: is
  | _ :: _ => none
@[simp] theorem intsD_map : ∀ ns : List Int, intsD (ns.map PyData.int) = some ns
  | [] => rfl
  | n :: ns => by simp [intsD, intsD_map ns]
def gList : List D → Option Ow
  | [.list ds] => some (.l (ds.map Ow.d))
  | [.tuple ds] => some (.l (ds.map Ow.d))
  | _ => none
@[simp] theorem gList_list (ds : List D) : gList [.list ds] = some (.l (ds.map Ow.d)) := rfl
@[simp] theorem gList_tup (ds : List D) : gList [.tuple ds] = some (.l (ds.map Ow.d)) := rfl
theorem caG_list {K : PySem.W.Frag} : CaG K (fun xs H Q => ∃ p ys, xs = [.ref p] ∧ (SqL K H p ys ∨ SqT K H p ys) ∧ ∀ l, H l = none → Q (.ref l) (upd H l (.lst ys))) gList := by
  intro F H vs ds o Q s h e q
  unfold gList at e
  split at e
  · cases e
    obtain ⟨v, rfl, p, ws, rfl, p1, p2⟩ := psqs1 h
    exact ⟨p, ws, rfl, .inl p1, fun l hl => q _ _ _ (Ext.own s hl _) (own_l s hl p2)⟩
  · cases e
    obtain ⟨v, rfl, w⟩ := psqs1 h
    obtain ⟨p, ws, rfl, p1, p2⟩ := dp_tup w
    exact ⟨p, ws, rfl, .inr (SqT_mono s p1), fun l hl => q _ _ _ (Ext.own s hl _) (own_l s hl p2)⟩
  · cases e
def gTuple : List D → Option Ow
  | [.list ds] => some (.d (.tuple ds))
  | [.tuple ds] => some (.d (.tuple ds))
  | _ => none
@[simp] theorem gTuple_list (ds : List D) : gTuple [.list ds] = some (.d (.tuple ds)) := rfl
@[simp] theorem gTuple_tup (ds : List D) : gTuple [.tuple ds] = some (.d (.tuple ds)) := rfl
theorem caG_tuple {K : PySem.W.Frag} : CaG K (fun xs H Q => ∃ p ys, xs = [.ref p] ∧ ((SqL K H p ys ∧ ∀ l, H l = none → Q (.ref l) (upd H l (.tup ys))) ∨ (SqT K H p ys ∧ Q (.ref p) H))) gTuple := by
  intro F H vs ds o Q s h e q
  unfold gTuple at e
  split at e
  · cases e
    obtain ⟨v, rfl, p, ws, rfl, p1, p2⟩ := psqs1 h
    refine ⟨p, ws, rfl, .inl ⟨p1, fun l hl => ?_⟩⟩
    have y := Ext.frz s hl (.tup ws)
    exact q _ _ _ y (own_d (.tup (SqT.of upd_same) (dpaUp p2 y.ff)))
  · cases e
    obtain ⟨v, rfl, w⟩ := psqs1 h
    obtain ⟨p, ws, rfl, p1, p2⟩ := dp_tup w
    exact ⟨p, ws, rfl, .inr ⟨SqT_mono s p1, q _ _ _ (.refl s) (own_d (.tup p1 p2))⟩⟩
  · cases e
def gInt : List D → Option Ow
  | [.int i] => some (.d (.int i))
  | [.bool b] => some (.d (.int (if b then 1 else 0)))
  | [.str z] => if z.length ≤ 640 then (PySem.intText? z).map fun n => .d (.int n) else none
  | _ => none
@[simp] theorem gInt_int (i : Int) : gInt [.int i] = some (.d (.int i)) := rfl
@[simp] theorem gInt_bool (b : Bool) : gInt [.bool b] = some (.d (.int (if b then 1 else 0))) := rfl
theorem de_len {x : Expr} {p : Pos} {f : Ev → R (List D)} (hg : Gl X "len") (hm : X.mg "len" = none) (ha : DAl X W [x] f) (hpl : starEach [x] X.env = (false, eval x X.env) :: starEach [] X.env := by rfl) : DE X W (.Call (.Name "len" p) [x] [] pos) (eCa gLen f) :=
  de_callB call_len caG_len hg hm PySem.boot_len ha (he := hpl)
theorem de_list {x : Expr} {p : Pos} {f : Ev → R (List D)} (hg : Gl X "list") (hm : X.mg "list" = none) (ha : DAl X W [x] f) (he : starEach [x] X.env = (false, eval x X.env) :: starEach [] X.env := by rfl) : DE X W (.Call (.Name "list" p) [x] [] pos) (eCa gList f) :=
  de_callTy call_list_of caG_list hg hm (by decide +kernel) ha (he := he)
theorem de_tuple {x : Expr} {p : Pos} {f : Ev → R (List D)} (hg : Gl X "tuple") (hm : X.mg "tuple" = none) (ha : DAl X W [x] f) (he : starEach [x] X.env = (false, eval x X.env) :: starEach [] X.env := by rfl) : DE X W (.Call (.Name "tuple" p) [x] [] pos) (eCa gTuple f) :=
  de_callTy call_tuple_of caG_tuple hg hm (by decide +kernel) ha (he := he)
def dTy : D → String
  | .none => "NoneType"
  | .bool _ => "bool"
  | .int _ => "int"
  | .str _ => "str"
  | .list _ => "list"
  | .tuple _ => "tuple"
  | .dict _ => "dict"
theorem sqL_ty {K : PySem.W.Frag} {H : Hp} {a : Addr} {xs : List V} (h : SqL K H a xs) : TyX K H (.ref a) (.type "list") := by
  rcases h with (h | ⟨o, h⟩) | ⟨o, its, n, hk, hc, _⟩
  · exact .base (.lst h)
  · exact .base (.frz h)
  · exact .kList hk hc
theorem sqT_ty {K : PySem.W.Frag} {H : Hp} {a : Addr} {xs : List V} (h : SqT K H a xs) : TyX K H (.ref a) (.type "tuple") := by
  rcases h with (h | ⟨o, h⟩) | ⟨o, its, n, hk, hc, _⟩
  · exact .base (.tup h)
  · exact .fTuple h
  · exact .kTuple hk hc
theorem dp_ty {K : PySem.W.Frag} {H : Hp} {v : V} {d : D} (h : Dp K H v d) : TyX K H v (.type (dTy d)) := by
  cases h with
  | non => exact .base .non
  | bl b => exact .base (.bl b)
  | int i => exact .base (.int i)
  | str i => exact .base (.str i)
  | lst a b => exact sqL_ty a
  | tup a b => exact sqT_ty a
  | dct a b => exact .base (.dK a)
def gIsi (T : String) (d : D) : R D := match kitB (dTy d) T with
  | some b => .ok (.bool b)
  | none => .no
theorem df_isi {T : String} {y : Str} {p p2 : Pos} (ha : DV X W a f) (hg : Gl X "isinstance") (hm : X.mg "isinstance" = none) (gT : Gl X y) (mT : X.mg y = none) (bT : bootBuiltins y = some (.type T))
    (he : starEach [a, .Name y p2] X.env = (false, eval a X.env) :: starEach [.Name y p2] X.env := by rfl) (he2 : starEach [.Name y p2] X.env = (false, eval (.Name y p2) X.env) :: starEach [] X.env := by rfl) (hpl : (backTo pos (starEach [.Name y p2] X.env)).any (·.1) = false := by rfl)
    (hn : y ≠ "__name__" := by decide) (hd : (y == ("__debug__" : Str)) = false := by decide) : DF X W (.Call (.Name "isinstance" p) [a, .Name y p2] [] pos) (eB f (gIsi T)) := by
  obtain ⟨t, pa, s⟩ := ha
  refine ⟨_, pe_callB call_isi hg hm (by decide +kernel) (pa_cons pa (pa_cons (pe_bltn (v := .ty T) gT mT bT rfl hn hd) pa_nil he2) he) (he := he) (hpl := hpl), fun F H σ env fp Q sat hp => ?_⟩
  refine s.go sat hp fun d v F1 H1 sat1 q _ h1 => ?_
  unfold gIsi at h1
  split at h1
  · rename_i b hb
    exact ⟨v, .ty T, _, _, b, rfl, .ty T, dp_ty q, hb, h1 _ F1 H1 (.refl sat1.fh) (.bl _)⟩
  · exact h1.elim
end
end Mir
end
set_option Elab.async false
set_option linter.all false
set_option maxRecDepth 100000
set_option maxHeartbeats 4000000
noncomputable section
namespace Mir
open PySem PySem.Spec L2

def ItP (t : Bool) (h : Heap) (it a : Addr) (i : Nat) : Prop := match t with
  | true => h.IsTupleIter it a i
  | false => h.IsListIter it a i
def CoP (t : Bool) (h : Heap) (a : Addr) (its : Array Value) : Prop := match t with
  | true => h.IsTuple a its
  | false => h.IsList a its
def Sqq (t : Bool) (K : PySem.W.Frag) (H : Hp) (a : Addr) (vs : List V) : Prop := match t with
  | true => SqT K H a vs
  | false => SqL K H a vs
theorem Sqq.mono {t : Bool} {K : PySem.W.Frag} {H H' : Hp} {a : Addr} {vs : List V} (s : Same H H') (h : Sqq t K H a vs) : Sqq t K H' a vs := by
  cases t with
  | true => exact SqT_mono s h
  | false => exact s.seq h
section
variable {X : Cx} {pins : List (Addr × Obj)} {σ : L2.St} {H : Hp} {s : Shared} {a : Addr} {xs ys : List V} {t : Bool}
theorem Sqq.at (I : Inv X pins σ H s) (h : Sqq t X.K H a xs) : ∃ its : List Value, Vals xs its ∧ CoP t s.heap a its.toArray := by
  cases t with
  | true =>
    obtain ⟨its, r, p, _⟩ := I.tuple h
    exact ⟨its, r, p⟩
  | false =>
    obtain ⟨its, r, p, _⟩ := I.list h
    exact ⟨its, r, p.isList⟩
theorem Sqq.inj (I : Inv X pins σ H s) (h : Sqq t X.K H a xs) (h' : Sqq t X.K H a ys) : xs = ys := by
  cases t with
  | true => exact I.tuple_inj h h'
  | false => exact I.list_inj h h'
end
theorem it_obj {t : Bool} {h : Heap} {it a : Addr} {i : Nat} (p : ItP t h it a i) : ∃ o, h.get? it = some o ∧ ∀ v, o.data ≠ .cell v := by
  cases t with
  | true => obtain ⟨o, e, _, d⟩ := p; exact ⟨o, e, fun v z => by rw [d] at z; cases z⟩
  | false => obtain ⟨o, e, _, d⟩ := p; exact ⟨o, e, fun v z => by rw [d] at z; cases z⟩
theorem ItP.at {t : Bool} {h h' : Heap} {it a : Addr} {i : Nat} (p : ItP t h it a i) (k : ∀ o, h.get? it = some o → h'.get? it = some o) : ItP t h' it a i := by
  cases t with
  | true => obtain ⟨o, e, q⟩ := p; exact ⟨o, k o e, q⟩
  | false => obtain ⟨o, e, q⟩ := p; exact ⟨o, k o e, q⟩
theorem drawsP {P : Program} {w : World} {A : Around} (hh : A.handled = none) (t : Bool) {it a : Addr} (hne : a ≠ it) (its : Array Value) :
    Draws P w A it [it, a] its.size (fun i v => its[i]? = some v) (fun i h => ItP t h it a i ∧ CoP t h a its) := by
  cases t with
  | true => exact Draws.tuple hh it a hne its
  | false => exact Draws.list hh it a hne its
def objP (t : Bool) (a : Addr) : Obj := match t with
  | true => { cls := .type "tuple_iterator", data := .fields #[.ref a, .int 0 0] }
  | false => { cls := .type "list_iterator", data := .fields #[.ref a, .int 0 0] }
theorem beginsP (t : Bool) (a : Addr) (its : Array Value) : Begins (.ref a) (objP t a) (fun h => CoP t h a its) := by
  cases t with
  | true => exact begins_tuple a its
  | false => exact begins_list a its
theorem itP_new {t : Bool} {h : Heap} {it a : Addr} (e : h.get? it = some (objP t a)) : ItP t h it a 0 := by
  cases t with
  | true => exact ⟨_, e, rfl, rfl⟩
  | false => exact ⟨_, e, rfl, rfl⟩

end Mir
end
set_option Elab.async false
set_option linter.all false
set_option maxRecDepth 100000
set_option maxHeartbeats 4000000
noncomputable section
namespace Mir
open PySem PySem.Spec L2

theorem fp_ne {X : Cx} {pins : List (Addr × Obj)} {σ : L2.St} {H : Hp} {s : Shared} {t : Bool} {a b : Addr} {xs : List V} (I : Inv X pins σ H s) (hf : FpOk X pins H b) (hq : Sqq t X.K H a xs) : a ≠ b := by
  rintro rfl
  have kk : ∀ o, X.K.lookup a = some o → False := fun o e => by
    have e1 := I.mod.kin a o e
    obtain ⟨_, _, _, q, _, _⟩ := hf
    rcases q with q | q
    · exact I.ok.noex a o e1 q
    · exact absurd (Nat.lt_of_lt_of_le (Heap.lt_size e1) (Nat.le_trans I.ok.bsz q)) (Nat.lt_irrefl _)
  cases t with
  | true =>
    rcases hq with (h | ⟨o, h⟩) | ⟨o, its, n, h, _⟩
    · rw [hf.1] at h; cases h
    · rw [hf.1] at h; cases h
    · exact kk o h
  | false =>
    rcases hq with (h | ⟨o, h⟩) | ⟨o, its, n, h, _⟩
    · rw [hf.1] at h; cases h
    · rw [hf.1] at h; cases h
    · exact kk o h

def Jzp (t u : Bool) (K : PySem.W.Frag) (a b : Addr) : It :=
  ⟨fun i H => ∃ xs ys x y, Sqq t K H a xs ∧ Sqq u K H b ys ∧ xs[i]? = some x ∧ ys[i]? = some y,
    fun i H v H' => ∃ T x y, v = .ref T ∧ H T = none ∧ H' = upd H T (.tup [x, y]) ∧ (∀ xs, Sqq t K H a xs → xs[i]? = some x) ∧ ∀ ys, Sqq u K H b ys → ys[i]? = some y,
    fun i H => ∃ xs ys, Sqq t K H a xs ∧ Sqq u K H b ys ∧ min xs.length ys.length = i⟩
theorem turn_zp {P : Program} {w : World} {K : PySem.W.Frag} {elts : List Expr} {kk : Nat} {tpos : Pos} (t u : Bool) (a b z TI TO i1 i2 : Addr) (nd : [z, TI, TO, i1, i2].Nodup) :
    Turn P w K (.Tuple elts kk tpos) (Jzp t u K a b) [z, TI, TO, i1, i2] z (fun i h => IsZip h z TI TO .none ∧ IsTupOf2 h TI (.ref i1) (.ref i2) ∧ (∃ a1 a2, IsTupOf2 h TO a1 a2) ∧ ItP t h i1 a i ∧ ItP u h i2 b i) := by
  have sep : a ∉ [z, TI, TO, i1, i2] → b ∉ [z, TI, TO, i1, i2] → ZipSep2 z TI TO i1 i2 [i1, a] [i2, b] := fun ha hb => by
    simp only [List.nodup_cons, List.mem_cons, List.not_mem_nil, or_false, not_or, List.nodup_nil, and_true, not_false_eq_true] at nd ha hb
    obtain ⟨⟨n1, n2, n3, n4⟩, ⟨n5, n6, n7⟩, ⟨n8, n9⟩, n10⟩ := nd
    obtain ⟨a1, a2, a3, a4, a5⟩ := ha
    obtain ⟨b1, b2, b3, b4, b5⟩ := hb
    refine ⟨Ne.symm n1, Ne.symm n2, n5, n6, by simp, ?_, ?_, n7, by simp, ?_, ?_, ?_, ?_⟩ <;> simp only [List.mem_cons, List.not_mem_nil, or_false, not_or]
    · exact ⟨n3, Ne.symm a1⟩
    · exact ⟨n8, Ne.symm a3⟩
    · exact ⟨n4, Ne.symm b1⟩
    · exact ⟨n9, Ne.symm b3⟩
    · exact ⟨n10, Ne.symm b4⟩
    · exact ⟨Ne.symm n10, Ne.symm a5⟩
  have live : ∀ {i : Nat} {h : Heap}, (IsZip h z TI TO .none ∧ IsTupOf2 h TI (.ref i1) (.ref i2) ∧ (∃ a1 a2, IsTupOf2 h TO a1 a2) ∧ ItP t h i1 a i ∧ ItP u h i2 b i) → ∀ c ∈ [z, TI, TO, i1, i2], ∃ o, h.get? c = some o ∧ ∀ v, o.data ≠ .cell v := fun st c hc => by
    obtain ⟨h1, h2, ⟨x1, x2, h3⟩, h4, h5⟩ := st
    simp only [List.mem_cons, List.not_mem_nil, or_false] at hc
    rcases hc with rfl | rfl | rfl | rfl | rfl
    · exact ⟨_, h1, fun v q => nomatch q⟩
    · exact ⟨_, h2, fun v q => nomatch q⟩
    · exact ⟨_, h3, fun v q => nomatch q⟩
    · exact it_obj h4
    · exact it_obj h5
  have wrs : ∀ c ∈ [z, TO, i1, i2], c ∈ [z, TI, TO, i1, i2] := fun c hc => by
    simp only [List.mem_cons, List.not_mem_nil, or_false] at hc ⊢
    rcases hc with rfl | rfl | rfl | rfl <;> simp
  refine ⟨by simp, fun i h st => live st, fun i h h' st k => ?_, ?_, ?_, fun A i s Q E st h => wpAny_pyIter_zip st.1 h⟩
  · obtain ⟨h1, h2, ⟨x1, x2, h3⟩, h4, h5⟩ := st
    exact ⟨k z (by simp) _ h1, k TI (by simp) _ h2, ⟨x1, x2, k TO (by simp) _ h3⟩, h4.at fun o q => k i1 (by simp) o q, h5.at fun o q => k i2 (by simp) o q⟩
  · intro X hP hw hK hc i pins s σ H E I hf st hg
    subst hP hw hK
    have hst := live st
    obtain ⟨h1, h2, h3, h4, h5⟩ := st
    obtain ⟨xs, ys, x, y, hq, hr, hx, hy⟩ := hg
    obtain ⟨its, rv, hco⟩ := hq.at I
    obtain ⟨jts, rw', hco'⟩ := hr.at I
    obtain ⟨u1, hu, ru⟩ := rv.get hx
    obtain ⟨u2, hu', ru'⟩ := rw'.get hy
    have S := sep (fun z => fp_ne I (hf a z) hq rfl) (fun z => fp_ne I (hf b z) hr rfl)
    have n1 : i < its.toArray.size := by rw [List.size_toArray]; exact (List.getElem?_eq_some_iff.mp hu).1
    have n2 : i < jts.toArray.size := by rw [List.size_toArray]; exact (List.getElem?_eq_some_iff.mp hu').1
    refine (GoesN.zip2 (prog := X.prog) (w := X.w) (elts := elts) (x1 := kk) (pos := tpos) S (drawsP (A := X.A.in1) (I.ok.hd hc) t (fp_ne I (hf i1 (by simp)) hq) its.toArray) (drawsP (A := X.A.in1) (I.ok.hd hc) u (fp_ne I (hf i2 (by simp)) hr) jts.toArray)).goes i s _ _ (by omega) ⟨h1, h2, h3, ⟨h4, hco⟩, h5, hco'⟩
      fun v h' tk ⟨T, p, q, ev, hT, hp, hq', hTup⟩ st' hk _ => ?_
    subst ev
    have e1 : p = u1 := by
      have hp' : its[i]? = some p := by simpa using hp
      rw [hu] at hp'
      exact (Option.some.inj hp').symm
    have e2 : q = u2 := by
      have hp' : jts[i]? = some q := by simpa using hq'
      rw [hu'] at hp'
      exact (Option.some.inj hp').symm
    subst e1 e2
    have new : ObjOk X.prog X.w (upd H T (.tup [x, y])) h' T (.tup [x, y]) := ⟨by show 2 ≤ sizeLine; decide, [p, q], .cons ru (.cons ru' .nil), hTup⟩
    refine ⟨.ref T, _, I.turnedNew (ch := [z, TI, TO, i1, i2]) (fun b o hb e => hk b o (fun m => hb (wrs b m)) e) hf hT new, rfl, ⟨T, x, y, rfl, I.hok.fresh hT, rfl, fun zs hz => by rw [hz.inj I hq]; exact hx, fun zs hz => by rw [hz.inj I hr]; exact hy⟩,
      ⟨st'.1, st'.2.1, st'.2.2.1, st'.2.2.2.1.1, st'.2.2.2.2.1⟩, fun c hc => ?_⟩
    obtain ⟨o, g, _⟩ := hst c hc
    rw [upd_ne (Nat.ne_of_lt (Nat.lt_of_lt_of_le (Heap.lt_size g) hT))]
    exact (hf c hc).1
  · intro X hP hw hK hc i pins s σ H E I hf st hg
    subst hP hw hK
    obtain ⟨h1, h2, h3, h4, h5⟩ := st
    obtain ⟨xs, ys, hq, hr, hl⟩ := hg
    obtain ⟨its, rv, hco⟩ := hq.at I
    obtain ⟨jts, rw', hco'⟩ := hr.at I
    have S := sep (fun z => fp_ne I (hf a z) hq rfl) (fun z => fp_ne I (hf b z) hr rfl)
    have hs : i = min its.toArray.size jts.toArray.size := by rw [List.size_toArray, List.size_toArray, ← rv.length, ← rw'.length]; exact hl.symm
    subst hs
    exact (GoesN.zip2 (prog := X.prog) (w := X.w) (elts := elts) (x1 := kk) (pos := tpos) S (drawsP (A := X.A.in1) (I.ok.hd hc) t (fp_ne I (hf i1 (by simp)) hq) its.toArray) (drawsP (A := X.A.in1) (I.ok.hd hc) u (fp_ne I (hf i2 (by simp)) hr) jts.toArray)).stops s _ _ ⟨h1, h2, h3, ⟨h4, hco⟩, h5, hco'⟩
      fun h' tk hk _ => I.turnedL (ch := [z, TI, TO, i1, i2]) (fun b o hb e => hk b o (fun m => hb (wrs b m)) e) hf
def iZp (K : PySem.W.Frag) (ta : TA) : TI := fun σ H R => ta σ H fun vs H1 => ∃ t u a b xs ys, vs = [.ref a, .ref b] ∧ Sqq t K H1 a xs ∧ Sqq u K H1 b ys ∧ R (Jzp t u K a b) H1
theorem pi_zp {X : Cx} {e e2 : Expr} {ta : TA} {p pos tpos : Pos} {elts : List Expr} {kk : Nat} (hg : Gl X "zip") (hm : X.mg "zip" = none) (ha : PA X [e, e2] ta) (hs : starEach [e, e2] X.env = (false, eval e X.env) :: starEach [e2] X.env := by rfl)
    (hpl : (backTo pos (starEach [e2] X.env)).any (·.1) = false := by rfl) : PI X (.Tuple elts kk tpos) (.Call (.Name "zip" p) [e, e2] [] pos) (iZp X.K ta) := by
  refine ⟨fun pins s σ H R I h => ?_⟩
  refine PyProof.Rows.Call_ (ld_blt I hg hm PyProof.Rows.boot_zip (PyProof.Rows.callWith_type1 (thn (ha.run pos pins s σ H _ I h) fun us s1 ⟨vs, H1, I1, r1, t, u, a, b, xs, ys, ex, hq, hr, q⟩ => ?_) hs hpl))
  subst ex
  cases r1 with
  | cons r rr =>
    cases rr with
    | cons r' rr =>
      cases rr
      cases r
      cases r'
      obtain ⟨its, rv, hco⟩ := hq.at I1
      obtain ⟨jts, rw', hco'⟩ := hr.at I1
      refine zip_begins2 (beginsP t a its.toArray) (beginsP u b jts.toArray) hco hco' fun h' hz hTI hTO g1 g2 _ hk => wpAny_pyIter_zip hz ?_
      have I2 : Inv X pins σ H1 { s1 with heap := h' } := I1.kept (t' := s1.toks) hk
      have le5 : ∀ c ∈ [s1.heap.objs.size + 4, s1.heap.objs.size + 2, s1.heap.objs.size + 3, s1.heap.objs.size, s1.heap.objs.size + 1], s1.heap.objs.size ≤ c := fun c hc => by
        simp only [List.mem_cons, List.not_mem_nil, or_false] at hc
        rcases hc with z | z | z | z | z <;> (rw [z]; first | exact Nat.le_refl _ | exact Nat.le_add_right _ _)
      have nd5 : ∀ n : Nat, [n + 4, n + 2, n + 3, n, n + 1].Nodup := fun n => by
        simp only [List.nodup_cons, List.mem_cons, List.not_mem_nil, or_false, not_or, List.nodup_nil, and_true, not_false_eq_true]
        omega
      exact ⟨_, _, _, _, H1, rfl, I2, turn_zp t u a b _ _ _ _ _ (nd5 s1.heap.objs.size), ⟨hz, hTI, ⟨_, _, hTO⟩, itP_new g1, itP_new g2⟩, fun c hc => I1.fpOk (le5 c hc) (I1.hok.fresh (le5 c hc)), q⟩
end Mir
end
set_option Elab.async false
set_option linter.all false
set_option maxRecDepth 100000
set_option maxHeartbeats 4000000
noncomputable section
namespace Mir
open PySem PySem.Spec L2

structure WalkF (K : PySem.W.Frag) (J : It) (F0 : Hp) (items : List D) : Prop where
  go : ∀ i F H, i < items.length → Same F0 F → Same F H → J.go i H
  yld : ∀ i F H x H', i < items.length → Same F0 F → Same F H → J.yld i H x H' → ∃ d F', items[i]? = some d ∧ Ext F H F' H' ∧ Dp K F' x d
  stop : ∀ F H, Same F0 F → Same F H → J.stop items.length H
def PIt (K : PySem.W.Frag) (_ : Hp) (items : List D) (J : It) (F' _ : Hp) : Prop := WalkF K J F' items
instance {K : PySem.W.Frag} : Anti (PIt K) := ⟨fun _ h => h⟩
def DI (X : Cx) (W : WX) (tg e : Expr) (f : Ev → R (List D)) : Prop := ∃ wi, PI X tg e wi ∧ Sm X W (PIt X.K) wi f
section
variable {K : PySem.W.Frag} {F0 : Hp} {a b : Addr} {vs ws : List V} {ds es : List D}
theorem walkF_l (h1 : SqL K F0 a vs) (h2 : DpAll K F0 vs ds) : WalkF K (Itl K a) F0 ds where
  go := fun i F H hi s1 s2 => by
    rw [← DpAll.len h2] at hi
    exact ⟨vs, vs[i], (s1.trans s2).seq h1, by simp [hi]⟩
  yld := fun i F H x H' hi s1 s2 ⟨e, q⟩ => by
    subst e
    obtain ⟨d, e1, e2⟩ := DpAll.getV h2 (q vs ((s1.trans s2).seq h1))
    exact ⟨d, F, e1, .refl s2, dpUp e2 s1⟩
  stop := fun F H s1 s2 => ⟨vs, (s1.trans s2).seq h1, by rw [DpAll.len h2]; exact Nat.le_refl _⟩
theorem walkF_t (h1 : SqT K F0 a vs) (h2 : DpAll K F0 vs ds) : WalkF K (Itt K a) F0 ds where
  go := fun i F H hi s1 s2 => by
    rw [← DpAll.len h2] at hi
    exact ⟨vs, vs[i], SqT_mono (s1.trans s2) h1, by simp [hi]⟩
  yld := fun i F H x H' hi s1 s2 ⟨e, q⟩ => by
    subst e
    obtain ⟨d, e1, e2⟩ := DpAll.getV h2 (q vs (SqT_mono (s1.trans s2) h1))
    exact ⟨d, F, e1, .refl s2, dpUp e2 s1⟩
  stop := fun F H s1 s2 => ⟨vs, SqT_mono (s1.trans s2) h1, by rw [DpAll.len h2]; exact Nat.le_refl _⟩
def charsD (z : Str) : List D := z.cps.toList.map fun c => .str ⟨#[c]⟩
theorem walkF_s (z : Str) : WalkF K (Its z) F0 (charsD z) where
  go := fun i F H hi s1 s2 => walk_str.goes i H (by simpa [charsD] using hi) trivial
  yld := fun i F H x H' hi s1 s2 h => by
    have hi' : i < z.cps.size := by simpa [charsD] using hi
    obtain ⟨e, c, e1, e2⟩ := walk_str.yields i H x H' hi' trivial h
    subst e e2
    exact ⟨_, F, by simp [charsD, e1], .refl s2, .str _⟩
  stop := fun F H s1 s2 => by
    have := (walk_str (z := z)).stops H trivial
    simpa [charsD] using this
def rangeD (lo : Int) (n : Nat) : List D := (List.range n).map fun i => .int (lo + (i : Nat))
def rangeCD (lo c : Int) (n : Nat) : List D := (List.range n).map fun i => .int (lo + (i : Nat) * c)
theorem walkF_r (lo : Int) (n : Nat) : WalkF K (Itr lo n) F0 (rangeD lo n) where
  go := fun i F H hi s1 s2 => walk_range.goes i H (by simpa [rangeD] using hi) trivial
  yld := fun i F H x H' hi s1 s2 h => by
    have hi' : i < n := by simpa [rangeD] using hi
    obtain ⟨e, e1⟩ := walk_range.yields i H x H' hi' trivial h
    subst e e1
    exact ⟨_, F, by simp [rangeD, hi'], .refl s2, .int _⟩
  stop := fun F H s1 s2 => by
    have := (walk_range (lo := lo) (n := n)).stops H trivial
    simpa [rangeD] using this
theorem walkF_rc (lo c : Int) (n : Nat) : WalkF K (Itc lo c n) F0 (rangeCD lo c n) where
  go := fun i F H hi s1 s2 => walk_rangeC.goes i H (by simpa [rangeCD] using hi) trivial
  yld := fun i F H x H' hi s1 s2 h => by
    have hi' : i < n := by simpa [rangeCD] using hi
    obtain ⟨e, e1⟩ := walk_rangeC.yields i H x H' hi' trivial h
    subst e e1
    exact ⟨_, F, by simp [rangeCD, hi'], .refl s2, .int _⟩
  stop := fun F H s1 s2 => by
    have := (walk_rangeC (lo := lo) (c := c) (n := n)).stops H trivial
    simpa [rangeCD] using this
def enumD : Nat → List D → List D
  | _, [] => []
  | n, d :: ds => .tuple [.int n, d] :: enumD (n + 1) ds
def zipD : List D → List D → List D
  | x :: xs, y :: ys => .tuple [x, y] :: zipD xs ys
  | _, _ => []
@[simp] theorem zipD_nil (ys : List D) : zipD [] ys = [] := by cases ys <;> rfl
@[simp] theorem zipD_nil2 (ys : List D) : zipD ys [] = [] := by cases ys <;> rfl
@[simp] theorem zipD_cons (x y : D) (xs ys : List D) : zipD (x :: xs) (y :: ys) = .tuple [x, y] :: zipD xs ys := rfl
theorem zipD_len : ∀ (xs ys : List D), (zipD xs ys).length = min xs.length ys.length
  | [], ys => by simp
  | x :: xs, [] => by simp
  | x :: xs, y :: ys => by simp [zipD_len xs ys]
theorem zipD_get : ∀ (i : Nat) (xs ys : List D) (x y : D), xs[i]? = some x → ys[i]? = some y → (zipD xs ys)[i]? = some (.tuple [x, y])
  | i, [], ys, x, y, h, g => by simp at h
  | i, x :: xs, [], _, y, h, g => by simp at g
  | 0, a :: xs, b :: ys, x, y, h, g => by simp at h g; subst h g; rfl
  | i + 1, a :: xs, b :: ys, x, y, h, g => by
    have := zipD_get i xs ys x y (by simpa using h) (by simpa using g)
    simpa using this
theorem walkF_zp {t u : Bool} (h1 : Sqq t K F0 a vs) (h2 : DpAll K F0 vs ds) (g1 : Sqq u K F0 b ws) (g2 : DpAll K F0 ws es) : WalkF K (Jzp t u K a b) F0 (zipD ds es) where
  go := fun i F H hi s1 s2 => by
    rw [zipD_len, ← DpAll.len h2, ← DpAll.len g2] at hi
    exact ⟨vs, ws, vs[i]'(by omega), ws[i]'(by omega), h1.mono (s1.trans s2), g1.mono (s1.trans s2), by simp, by simp⟩
  yld := fun i F H x H' hi s1 s2 ⟨T, y, z, e, hT, eH, q, q'⟩ => by
    subst e eH
    obtain ⟨d, e1, e2⟩ := DpAll.getV h2 (q vs (h1.mono (s1.trans s2)))
    obtain ⟨d', e1', e2'⟩ := DpAll.getV g2 (q' ws (g1.mono (s1.trans s2)))
    have x := Ext.frz s2 hT (.tup [y, z])
    exact ⟨_, _, zipD_get i ds es d d' e1 e1', x, .tup (SqT.of upd_same) (.cons (dpUp e2 (s1.trans x.ff)) (.cons (dpUp e2' (s1.trans x.ff)) .nil))⟩
  stop := fun F H s1 s2 => ⟨vs, ws, h1.mono (s1.trans s2), g1.mono (s1.trans s2), by rw [zipD_len, DpAll.len h2, DpAll.len g2]⟩
end
section
variable {X : Cx} {W : WX} {tg e e2 : Expr} {es : List Expr} {pos p : Pos} {f g : Ev → R D}
theorem PI.or {wi wj : TI} (h : PI X tg e wi) (h' : PI X tg e wj) : PI X tg e (fun σ H R => wi σ H R ∨ wj σ H R) := ⟨fun pins s σ H R I q => by
  rcases q with q | q
  · exact h.run pins s σ H R I q
  · exact h'.run pins s σ H R I q⟩
def itD : D → R (List D)
  | .list ds => .ok ds
  | .tuple ds => .ok ds
  | .str z => .ok (charsD z)
  | _ => .no
@[simp] theorem itD_list (ds : List D) : itD (.list ds) = .ok ds := rfl
@[simp] theorem itD_tup (ds : List D) : itD (.tuple ds) = .ok ds := rfl
@[simp] theorem itD_str (z : Str) : itD (.str z) = .ok (charsD z) := rfl
/-- go on by what the first part is -/
theorem Sm.choose {α β γ δ : Type} {P : Hp → α → β → Hp → Hp → Prop} {P2 : Hp → γ → δ → Hp → Hp → Prop} [Anti P2] {t : L2.St → Hp → (β → Hp → Prop) → Prop} {f : Ev → R α} (s : Sm X W P t f) {g : α → R γ} {F H : Hp} {σ : L2.St} {env : Ev} {fp : List Addr} {Q : δ → Hp → Prop} {G : Prop}
    (sat : Sat X.K F H σ env fp) (h : Post X W P2 F H σ ((f env).bind g) Q) (no : (∀ T, t σ H T) → G)
    (k : ∀ a, f env = .ok a → (∀ T, (∀ v F1 H1, Sat X.K F1 H1 σ env fp → P H a v F1 H1 → Ext F H F1 H1 → Post X W P2 F1 H1 σ (g a) Q → T v H1) → t σ H T) → G) : G := by
  cases e : f env with
  | no => rw [e] at h; exact h.elim
  | ok a =>
    refine k a e fun T hT => s F H σ env fp T sat ?_
    rw [e] at h ⊢
    exact fun v F' H' x p => hT v F' H' (sat.ext x) p x (Post.ext (show Post X W P2 F H σ (g a) Q from h) x)
  | ex c =>
    refine no fun T => s F H σ env fp T sat ?_
    rw [e] at h ⊢
    exact h
theorem di_seq (h : DF X W e f) : DI X W tg e (eB f itD) := by
  obtain ⟨t, p, s⟩ := h
  refine ⟨_, PI.or (pi_list p) (PI.or (pi_tup p) (pi_str p)), fun F H σ env fp Q sat hp => ?_⟩
  refine s.choose sat hp (fun z => .inl (z _)) fun d e k => ?_
  cases d with
  | list ds =>
    refine .inl (k _ fun v F1 H1 sat1 q _ h1 => ?_)
    obtain ⟨a, vs, rfl, q1, q2⟩ := dp_lst q
    exact ⟨a, rfl, ⟨vs, sat1.fh.seq q1⟩, h1 _ F1 H1 (.refl sat1.fh) (walkF_l q1 q2)⟩
  | tuple ds =>
    refine .inr (.inl (k _ fun v F1 H1 sat1 q _ h1 => ?_))
    obtain ⟨a, vs, rfl, q1, q2⟩ := dp_tup q
    exact ⟨a, rfl, ⟨vs, SqT_mono sat1.fh q1⟩, h1 _ F1 H1 (.refl sat1.fh) (walkF_t q1 q2)⟩
  | str z =>
    refine .inr (.inr (k _ fun v F1 H1 sat1 q _ h1 => ?_))
    cases dp_str q
    exact ⟨z, rfl, h1 _ F1 H1 (.refl sat1.fh) (walkF_s z)⟩
  | _ =>
    refine .inl (k _ fun v F1 H1 sat1 q _ h1 => h1.elim)
def rg1 : List D → R (List D)
  | [.int j] => guard (-(2 ^ 62) ≤ j ∧ j < 2 ^ 62) (.ok (rangeD 0 j.toNat))
  | _ => .no
def rg2 : List D → R (List D)
  | [.int i, .int j] => guard (-(2 ^ 62) ≤ i ∧ i < 2 ^ 62 ∧ -(2 ^ 62) ≤ j ∧ j < 2 ^ 62) (.ok (rangeD i (j - i).toNat))
  | _ => .no
def rg3 : List D → R (List D)
  | [.int i, .int j, .int c] => guard (c = -1 ∧ -(2 ^ 62) ≤ i ∧ i < 2 ^ 62 ∧ -(2 ^ 62) ≤ j ∧ j < 2 ^ 62) (.ok (rangeCD i (-1) (i - j).toNat))
  | _ => .no
theorem daf1 {K : PySem.W.Frag} {F : Hp} {d : D} {vs : List V} (h : DpAll K F vs [d]) : ∃ v, vs = [v] ∧ Dp K F v d := by
  cases h with | cons a b => cases b; exact ⟨_, rfl, a⟩
theorem daf2 {K : PySem.W.Frag} {F : Hp} {d d' : D} {vs : List V} (h : DpAll K F vs [d, d']) : ∃ v w, vs = [v, w] ∧ Dp K F v d ∧ Dp K F w d' := by
  cases h with | cons a b => cases b with | cons a' b' => cases b'; exact ⟨_, _, rfl, a, a'⟩
theorem daf3 {K : PySem.W.Frag} {F : Hp} {d d' d2 : D} {vs : List V} (h : DpAll K F vs [d, d', d2]) : ∃ v w u, vs = [v, w, u] ∧ Dp K F v d ∧ Dp K F w d' ∧ Dp K F u d2 := by
  cases h with | cons a b => cases b with | cons a' b' => cases b' with | cons a2 b2 => cases b2; exact ⟨_, _, _, rfl, a, a', a2⟩
variable {fa : Ev → R (List D)}
theorem di_range1 (hg : Gl X "range") (hm : X.mg "range" = none) (h : DA X W [e] fa) (hs : starEach [e] X.env = [(false, eval e X.env)] := by rfl) : DI X W tg (.Call (.Name "range" p) [e] [] pos) (eB fa rg1) := by
  obtain ⟨t, pa, s⟩ := h
  refine ⟨_, pi_range1 hg hm pa hs, fun F H σ env fp Q sat hp => ?_⟩
  refine s.go sat hp fun ds vs F1 H1 sat1 q _ h1 => ?_
  unfold rg1 at h1
  split at h1
  · obtain ⟨c, h2⟩ := guard_post h1
    obtain ⟨v, rfl, w⟩ := daf1 q
    cases dp_int w
    exact ⟨_, rfl, c.1, c.2, h2 _ F1 H1 (.refl sat1.fh) (walkF_r _ _)⟩
  · exact h1.elim
theorem di_range2 (hg : Gl X "range") (hm : X.mg "range" = none) (h : DA X W [e, e2] fa) (hs : starEach [e, e2] X.env = [(false, eval e X.env), (false, eval e2 X.env)] := by rfl) (hs2 : starEach [e2] X.env = [(false, eval e2 X.env)] := by rfl) : DI X W tg (.Call (.Name "range" p) [e, e2] [] pos) (eB fa rg2) := by
  obtain ⟨t, pa, s⟩ := h
  refine ⟨_, pi_range2 hg hm pa hs hs2, fun F H σ env fp Q sat hp => ?_⟩
  refine s.go sat hp fun ds vs F1 H1 sat1 q _ h1 => ?_
  unfold rg2 at h1
  split at h1
  · obtain ⟨c, h2⟩ := guard_post h1
    obtain ⟨v, w, rfl, w1, w2⟩ := daf2 q
    cases dp_int w1
    cases dp_int w2
    exact ⟨_, _, rfl, c, h2 _ F1 H1 (.refl sat1.fh) (walkF_r _ _)⟩
  · exact h1.elim
theorem di_range3 {e3 : Expr} (hg : Gl X "range") (hm : X.mg "range" = none) (h : DA X W [e, e2, e3] fa) (hs : starEach [e, e2, e3] X.env = (false, eval e X.env) :: starEach [e2, e3] X.env := by rfl) (hs2 : (backTo pos (starEach [e2, e3] X.env)).any (·.1) = false := by rfl) : DI X W tg (.Call (.Name "range" p) [e, e2, e3] [] pos) (eB fa rg3) := by
  obtain ⟨t, pa, s⟩ := h
  refine ⟨_, pi_range3 hg hm pa hs hs2, fun F H σ env fp Q sat hp => ?_⟩
  refine s.go sat hp fun ds vs F1 H1 sat1 q _ h1 => ?_
  unfold rg3 at h1
  split at h1
  · obtain ⟨⟨c, c1, c2, c3, c4⟩, h2⟩ := guard_post h1
    obtain ⟨v, w, u, rfl, w1, w2, w3⟩ := daf3 q
    cases dp_int w1
    cases dp_int w2
    cases dp_int w3
    subst c
    exact ⟨_, _, _, _, rfl, RgC.neg c1 c2 c3 c4, h2 _ F1 H1 (.refl sat1.fh) (walkF_rc _ _ _)⟩
  · exact h1.elim
def sqqD : D → Option (Bool × List D)
  | .list ds => some (false, ds)
  | .tuple ds => some (true, ds)
  | _ => none
theorem sqq_dp {K : PySem.W.Frag} {F : Hp} {v : V} {d : D} {t : Bool} {ds : List D} (h : Dp K F v d) (e : sqqD d = some (t, ds)) : ∃ a vs, v = .ref a ∧ Sqq t K F a vs ∧ DpAll K F vs ds := by
  cases d with
  | list es => cases e; exact dp_lst h
  | tuple es => cases e; exact dp_tup h
  | _ => cases e
def enArg : List D → R (List D)
  | [d] => match sqqD d with
    | some (_, ds) => .ok (enumD 0 ds)
    | none => .no
  | _ => .no
@[simp] theorem enArg_list (ds : List D) : enArg [.list ds] = .ok (enumD 0 ds) := rfl
@[simp] theorem enArg_tup (ds : List D) : enArg [.tuple ds] = .ok (enumD 0 ds) := rfl
def zpArg : List D → R (List D)
  | [d, e] => match sqqD d, sqqD e with
    | some (_, ds), some (_, es) => .ok (zipD ds es)
    | _, _ => .no
  | _ => .no
theorem di_zip {elts : List Expr} {kk : Nat} {tpos : Pos} (hg : Gl X "zip") (hm : X.mg "zip" = none) (h : DA X W [e, e2] fa) (hs : starEach [e, e2] X.env = (false, eval e X.env) :: starEach [e2] X.env := by rfl)
    (hpl : (backTo pos (starEach [e2] X.env)).any (·.1) = false := by rfl) : DI X W (.Tuple elts kk tpos) (.Call (.Name "zip" p) [e, e2] [] pos) (eB fa zpArg) := by
  obtain ⟨t, pa, s⟩ := h
  refine ⟨_, pi_zp hg hm pa hs hpl, fun F H σ env fp Q sat hp => ?_⟩
  refine s.go sat hp fun ds vs F1 H1 sat1 q _ h1 => ?_
  unfold zpArg at h1
  split at h1
  · split at h1
    · rename_i t es u gs e2 e3
      obtain ⟨v, w, rfl, w1, w2⟩ := daf2 q
      obtain ⟨a, us, rfl, q1, q2⟩ := sqq_dp w1 e2
      obtain ⟨b, us', rfl, q3, q4⟩ := sqq_dp w2 e3
      exact ⟨t, u, a, b, us, us', rfl, q1.mono sat1.fh, q3.mono sat1.fh, h1 _ F1 H1 (.refl sat1.fh) (walkF_zp q1 q2 q3 q4)⟩
    · exact h1.elim
  · exact h1.elim
end
end Mir
end
set_option Elab.async false
set_option linter.all false
set_option maxRecDepth 100000
set_option maxHeartbeats 4000000
noncomputable section
namespace Mir
open PySem PySem.Spec L2

section
variable {K : PySem.W.Frag} {F H : Hp} {σ : L2.St} {env : Ev} {fp : List Addr}
/-- store an own value; fx: the value's new footprint -/
theorem Sat.put (s : Sat K F H σ env fp) {i : Nat} (hi : i < env.length) {v : V} {o : Ow} {fx : List Addr} (h : OwnAt K F H v o fx) (nd : fx.Nodup) (dj : ∀ b ∈ fx, b ∉ fp) :
    ∃ fp', Sat K F H (σ.set i (some v)) (env.set i (some o)) fp' ∧ ∀ b ∈ fp', b ∈ fx ∨ b ∈ fp := by
  obtain ⟨fr, fo, a1, a2, a3, a4, a5, a6, a7⟩ := s.en.put hi s.nd
  obtain ⟨fp', b1, b2, b3⟩ := (a7 F H [] [] (StepS.of_ext (.refl s.fh) []) fun _ _ => by simp).2 v o fx h nd fun b hb z => dj b hb (a1 b z)
  exact ⟨fp', ⟨s.fh, b3, b1⟩, fun b hb => (b2 b hb).imp id (a1 b)⟩
end

def Off (ix : List Nat) (σ σ' : L2.St) : Prop := σ'.length = σ.length ∧ ∀ j, j ∉ ix → σ'[j]? = σ[j]?
theorem Off.refl (σ : L2.St) (ix : List Nat) : Off ix σ σ := ⟨rfl, fun _ _ => rfl⟩
theorem Off.trans {ix jx : List Nat} {σ σ1 σ2 : L2.St} (a : Off ix σ σ1) (b : Off jx σ1 σ2) : Off (ix ++ jx) σ σ2 :=
  ⟨b.1.trans a.1, fun j h => (b.2 j fun z => h (List.mem_append_right _ z)).trans (a.2 j fun z => h (List.mem_append_left _ z))⟩
/-- the reading of a target, by its mirror -/
def tgOf (K : PySem.W.Frag) (ix : List Nat) (g : D → Ev → Option Ev) : TG := fun v σ H Q => ∃ F env fp d env', Sat K F H σ env fp ∧ Dp K F v d ∧ g d env = some env' ∧ ∀ σ' fp', Sat K F H σ' env' fp' → (∀ b ∈ fp', b ∈ fp) → Off ix σ σ' → Q σ' H
def tgsOf (K : PySem.W.Frag) (ix : List Nat) (g : List D → Ev → Option Ev) : TGs := fun v σ H Q => ∃ F env fp d env', Sat K F H σ env fp ∧ DpAll K F v d ∧ g d env = some env' ∧ ∀ σ' fp', Sat K F H σ' env' fp' → (∀ b ∈ fp', b ∈ fp) → Off ix σ σ' → Q σ' H
def DG (X : Cx) (tg : Expr) (ix : List Nat) (g : D → Ev → Option Ev) : Prop := PG X tg (tgOf X.K ix g)
def DGs (X : Cx) (tg : List Expr) (ix : List Nat) (g : List D → Ev → Option Ev) : Prop := PGs X tg (tgsOf X.K ix g)
theorem PG.imp {X : Cx} {tg : Expr} {t t' : TG} (h : PG X tg t) (k : ∀ v σ H Q, t' v σ H Q → t v σ H Q) : PG X tg t' := ⟨fun pins s σ H v u Q I r q => h.run pins s σ H v u Q I r (k v σ H Q q)⟩
theorem PGs.imp {X : Cx} {tg : List Expr} {t t' : TGs} (h : PGs X tg t) (k : ∀ v σ H Q, t' v σ H Q → t v σ H Q) : PGs X tg t' := ⟨fun pins s σ H v u Q I r q => h.run pins s σ H v u Q I r (k v σ H Q q)⟩
def gtName (i : Nat) (d : D) (env : Ev) : Option Ev := if i < env.length then some (env.set i (some (.d d))) else none
def gtNil : List D → Ev → Option Ev
  | [], env => some env
  | _, _ => none
def gtCons (g : D → Ev → Option Ev) (h : List D → Ev → Option Ev) : List D → Ev → Option Ev
  | d :: ds, env => (g d env).bind (h ds)
  | _, _ => none
def gtTup (n : Nat) (h : List D → Ev → Option Ev) : D → Ev → Option Ev
  | .tuple ds, env => if ds.length = n then h ds env else none
  | _, _ => none
section
variable {X : Cx} {e : Expr} {es : List Expr} {pos : Pos}
theorem dg_name (i : Nat) {x : Str} (hN : X.N.Nodup) (hi : X.N[i]? = some x := by rfl) (hx : Loc X.env.scope x := by first | exact Or.inl rfl | exact Or.inr rfl) (hf : X.fn x = true ∨ X.env.scope.names.lookup x = some .local := by first | exact .inl rfl | exact .inr rfl | assumption) : DG X (.Name x pos) [i] (gtName i) := by
  refine PG.imp (pg_name hN hi hx hf) ?_
  rintro v σ H Q ⟨F, env, fp, d, env', sat, hd, he, q⟩
  unfold gtName at he
  split at he
  · cases he
    obtain ⟨fp', s', h'⟩ := sat.put ‹_› (OwnAt.d hd) List.nodup_nil (fun _ z => nomatch z)
    exact q _ fp' s' (fun b hb => (h' b hb).elim (fun z => nomatch z) id) ⟨by simp, fun j hj => List.getElem?_set_ne (fun z => hj (by simp [z]))⟩
  · cases he
theorem dgs_nil : DGs X [] [] gtNil := by
  refine PGs.imp pgs_nil ?_
  rintro v σ H Q ⟨F, env, fp, d, env', sat, hd, he, q⟩
  cases d with
  | nil => cases hd; cases he; exact ⟨rfl, q σ fp sat (fun _ z => z) (.refl _ _)⟩
  | cons d ds => cases he
theorem dgs_cons {ix jx : List Nat} {g : D → Ev → Option Ev} {h : List D → Ev → Option Ev} (h1 : DG X e ix g) (h2 : DGs X es jx h) (hs : (assignEach (e :: es) X.env).map (·.2) = assign e X.env :: (assignEach es X.env).map (·.2) := by rfl) : DGs X (e :: es) (ix ++ jx) (gtCons g h) := by
  refine PGs.imp (pgs_cons h1 h2 hs) ?_
  rintro v σ H Q ⟨F, env, fp, d, env', sat, hd, he, q⟩
  cases d with
  | nil => cases he
  | cons d ds =>
    cases hd with
    | cons d1 d2 =>
      cases e1 : g d env with
      | none => unfold gtCons at he; simp only at he; rw [e1] at he; cases he
      | some env1 =>
        unfold gtCons at he; simp only at he; rw [e1] at he
        refine ⟨_, _, rfl, F, env, fp, d, env1, sat, d1, e1, fun σ1 fp1 sat1 sub1 o1 => ?_⟩
        exact ⟨F, env1, fp1, ds, env', sat1, d2, he, fun σ2 fp2 sat2 sub2 o2 => q σ2 fp2 sat2 (fun b hb => sub1 b (sub2 b hb)) (o1.trans o2)⟩
theorem dg_tup {k n : Nat} {ix : List Nat} {h : List D → Ev → Option Ev} (hc : X.calm = true) (hs : DGs X es ix h) (hn : (assignEach es X.env).length = n := by rfl) (hst : (assignEach es X.env).findIdx? (·.1) = none := by rfl) : DG X (.Tuple es k pos) ix (gtTup n h) := by
  refine PG.imp (pg_tup hc hs hn hst) ?_
  rintro v σ H Q ⟨F, env, fp, d, env', sat, hd, he, q⟩
  unfold gtTup at he
  split at he
  · split at he
    · rename_i ds c
      obtain ⟨a, vs, rfl, h1, h2⟩ := dp_tup hd
      exact ⟨a, vs, rfl, SqT_mono sat.fh h1, (DpAll.len h2).trans c, F, env, fp, ds, env', sat, h2, he, q⟩
    · cases he
  · cases he
end

inductive SR where
  | no
  | nx (env : Ev)
  | rt (r : Ow) (env : Ev)
  | bk (env : Ev)
  | ct (env : Ev)
  | ex (c : Str) (env : Ev)
def SR.andThen : SR → (Ev → SR) → SR
  | .nx env, f => f env
  | r, _ => r
@[simp] theorem SR.andThen_nx (env : Ev) (f : Ev → SR) : (SR.nx env).andThen f = f env := rfl
@[simp] theorem SR.andThen_rt (r : Ow) (env : Ev) (f : Ev → SR) : (SR.rt r env).andThen f = .rt r env := rfl
@[simp] theorem SR.andThen_ex (c : Str) (env : Ev) (f : Ev → SR) : (SR.ex c env).andThen f = .ex c env := rfl
@[simp] theorem SR.andThen_bk (env : Ev) (f : Ev → SR) : (SR.bk env).andThen f = .bk env := rfl
@[simp] theorem SR.andThen_ct (env : Ev) (f : Ev → SR) : (SR.ct env).andThen f = .ct env := rfl
@[simp] theorem SR.andThen_no (f : Ev → SR) : SR.no.andThen f = .no := rfl
/-- a pure part, then a statement's outcome -/
def R.st {α : Type} (env : Ev) : R α → (α → SR) → SR
  | .no, _ => .no
  | .ok a, f => f a
  | .ex c, _ => .ex c env
@[simp] theorem R.st_ok {α : Type} (env : Ev) (a : α) (f : α → SR) : (R.ok a).st env f = f a := rfl
@[simp] theorem R.st_ex {α : Type} (env : Ev) (c : Str) (f : α → SR) : (R.ex c : R α).st env f = .ex c env := rfl
/-- S: the slots that may be stored -/
def OffS (S : Nat → Bool) (σ σ' : L2.St) : Prop := ∀ j, S j = false → σ'[j]? = σ[j]?
theorem OffS.refl (S : Nat → Bool) (σ : L2.St) : OffS S σ σ := fun _ _ => rfl
theorem OffS.trans {S : Nat → Bool} {σ σ1 σ2 : L2.St} (a : OffS S σ σ1) (b : OffS S σ1 σ2) : OffS S σ σ2 := fun j h => (b j h).trans (a j h)
theorem OffS.set {S : Nat → Bool} {σ : L2.St} {i : Nat} (h : S i = true) (x : Option V) : OffS S σ (σ.set i x) := fun j hj => List.getElem?_set_ne fun z => by rw [z, hj] at h; cases h
theorem OffS.of {S : Nat → Bool} {σ σ' : L2.St} {ix : List Nat} (h : Off ix σ σ') (k : ix.all S = true) : OffS S σ σ' := fun j hj => h.2 j fun z => by
  rw [List.all_eq_true] at k
  rw [k j z] at hj; cases hj
def PostS (X : Cx) (W : WX) (S : Nat → Bool) (σ0 : L2.St) (F H : Hp) (fp : List Addr) (D : Ends) : SR → Prop
  | .no => False
  | .nx env => ∀ σ F' H' fp', OffS S σ0 σ → StepS F H fp F' H' fp' → Sat X.K F' H' σ env fp' → D.nx σ H'
  | .bk env => ∀ σ F' H' fp', OffS S σ0 σ → StepS F H fp F' H' fp' → Sat X.K F' H' σ env fp' → D.bk σ H'
  | .ct env => ∀ σ F' H' fp', OffS S σ0 σ → StepS F H fp F' H' fp' → Sat X.K F' H' σ env fp' → D.ct σ H'
  | .rt r env => ∀ v σ F' H' fx fp', OffS S σ0 σ → StepS F H fp F' H' (fx ++ fp') → Sat X.K F' H' σ env fp' → OwnAt X.K F' H' v r fx → (fx ++ fp').Nodup → D.rt v H'
  | .ex c env => ∀ C σ F' H' fp', X.mg c = some (.ref C) → OffS S σ0 σ → StepS F H fp F' H' fp' → Sat X.K F' H' σ env fp' → W (.ref C) none σ H'
def SmS (X : Cx) (W : WX) (S : Nat → Bool) (t : TS) (f : Ev → SR) : Prop := ∀ F H σ env fp D, Sat X.K F H σ env fp → PostS X W S σ F H fp D (f env) → t D σ H
def DS (X : Cx) (W : WX) (S : Nat → Bool) (st : Stmt) (f : Ev → SR) : Prop := ∃ t, PS X st t ∧ SmS X W S t f
def DSs (X : Cx) (W : WX) (S : Nat → Bool) (st : List Stmt) (f : Ev → SR) : Prop := ∃ t, PSs X st t ∧ SmS X W S t f
section
variable {X : Cx} {W : WX} {S : Nat → Bool} {σ0 σ1 : L2.St} {F H F1 H1 : Hp} {fp fp1 : List Addr} {D : Ends}
theorem PostS.step {r : SR} (h : PostS X W S σ0 F H fp D r) (o : OffS S σ0 σ1) (s : StepS F H fp F1 H1 fp1) : PostS X W S σ1 F1 H1 fp1 D r := by
  cases r with
  | no => exact h
  | nx env => exact fun σ F' H' fp' o' s' => h σ F' H' fp' (o.trans o') (s.trans s')
  | bk env => exact fun σ F' H' fp' o' s' => h σ F' H' fp' (o.trans o') (s.trans s')
  | ct env => exact fun σ F' H' fp' o' s' => h σ F' H' fp' (o.trans o') (s.trans s')
  | rt r env => exact fun v σ F' H' fx fp' o' s' => h v σ F' H' fx fp' (o.trans o') (s.trans s')
  | ex c env => exact fun C σ F' H' fp' m o' s' => h C σ F' H' fp' m (o.trans o') (s.trans s')
theorem PostS.ext {r : SR} (h : PostS X W S σ0 F H fp D r) (e : Ext F H F1 H1) : PostS X W S σ0 F1 H1 fp D r := h.step (.refl _ _) (StepS.of_ext e fp)
theorem PostS.sub {S' : Nat → Bool} {r : SR} (h : PostS X W S σ0 F H fp D r) (k : ∀ j, S j = false → S' j = false) : PostS X W S' σ0 F H fp D r := by
  have o : ∀ {σ : L2.St}, OffS S' σ0 σ → OffS S σ0 σ := fun o j hj => o j (k j hj)
  cases r with
  | no => exact h
  | nx env => exact fun σ F' H' fp' o' s' => h σ F' H' fp' (o o') s'
  | bk env => exact fun σ F' H' fp' o' s' => h σ F' H' fp' (o o') s'
  | ct env => exact fun σ F' H' fp' o' s' => h σ F' H' fp' (o o') s'
  | rt r env => exact fun v σ F' H' fx fp' o' s' => h v σ F' H' fx fp' (o o') s'
  | ex c env => exact fun C σ F' H' fp' m o' s' => h C σ F' H' fp' m (o o') s'
/-- a pure part within a statement -/
theorem Sm.st {α β : Type} {P : Hp → α → β → Hp → Hp → Prop} {t : L2.St → Hp → (β → Hp → Prop) → Prop} {f : Ev → R α} (s : Sm X W P t f) {g : α → SR} {σ : L2.St} {env : Ev} {T : β → Hp → Prop} (sat : Sat X.K F H σ env fp)
    (h : PostS X W S σ F H fp D ((f env).st env g)) (k : ∀ a v F1 H1, Sat X.K F1 H1 σ env fp → P H a v F1 H1 → Ext F H F1 H1 → PostS X W S σ F1 H1 fp D (g a) → T v H1) : t σ H T := by
  refine s F H σ env fp T sat ?_
  cases e : f env with
  | no => rw [e] at h; exact h
  | ok a =>
    rw [e] at h
    exact fun v F' H' x p => k a v F' H' (sat.ext x) p x (PostS.ext (show PostS X W S σ F H fp D (g a) from h) x)
  | ex c =>
    rw [e] at h
    exact fun C F' H' m x => h C σ F' H' fp m (.refl _ _) (StepS.of_ext x fp) (sat.ext x)
end
section
variable {X : Cx} {W : WX} {S : Nat → Bool} {st : Stmt} {sts : List Stmt} {e : Expr} {pos : Pos} {fs gs : Ev → SR}
def sSkip (env : Ev) : SR := .nx env
def sSeq (f g : Ev → SR) (env : Ev) : SR := (f env).andThen g
theorem dss_nil : DSs X W S [] sSkip := ⟨_, pss_nil, fun F H σ env fp D sat h => h σ F H fp (.refl _ _) (StepS.of_ext (.refl sat.fh) fp) sat⟩
theorem dss_one (h : DS X W S st fs) : DSs X W S [st] fs := by
  obtain ⟨t, p, s⟩ := h
  exact ⟨_, pss_one p, s⟩
theorem seq_sm {t u : TS} (s : SmS X W S t fs) (s' : SmS X W S u gs) : SmS X W S (tSeq t u) (sSeq fs gs) := by
  intro F H σ env fp D sat h
  refine s F H σ env fp _ sat ?_
  unfold sSeq at h
  cases e : fs env with
  | no => rw [e] at h; exact h
  | nx env1 =>
    rw [e] at h
    exact fun σ1 F1 H1 fp1 o1 st1 sat1 => s' F1 H1 σ1 env1 fp1 D sat1 (PostS.step (show PostS X W S σ F H fp D (gs env1) from h) o1 st1)
  | bk env1 => rw [e] at h; exact h
  | ct env1 => rw [e] at h; exact h
  | rt r env1 => rw [e] at h; exact h
  | ex c env1 => rw [e] at h; exact h
theorem dss_cons (h : DS X W S st fs) (h2 : DSs X W S sts gs) : DSs X W S (st :: sts) (sSeq fs gs) := by
  obtain ⟨t, p, s⟩ := h
  obtain ⟨t', p', s'⟩ := h2
  exact ⟨_, pss_cons p p', seq_sm s s'⟩
/-- name = e -/
def sSet (i : Nat) (f : Ev → R Ow) (env : Ev) : SR := (f env).st env fun r => if i < env.length then .nx (env.set i (some r)) else .no
theorem fresh_dj {K : PySem.W.Frag} {H F' H' : Hp} {F : Hp} {σ : L2.St} {env : Ev} {fp fx : List Addr} (sat : Sat K F H σ env fp) (n : ∀ b ∈ fx, H b = none) : ∀ b ∈ fx, b ∉ fp := fun b hb z => by
  obtain ⟨_, vs, e⟩ := sat.en.there b z
  rw [n b hb] at e
  cases e
theorem put_step {K : PySem.W.Frag} {F H F1 H1 : Hp} {σ : L2.St} {env : Ev} {fp fx : List Addr} {i : Nat} {v : V} {r : Ow} (sat : Sat K F H σ env fp) (x : Ext F H F1 H1) (h : OwnAt K F1 H1 v r fx) (nd : fx.Nodup) (n : ∀ b ∈ fx, H b = none) (hi : i < env.length) :
    ∃ fp', StepS F H fp F1 H1 fp' ∧ Sat K F1 H1 (σ.set i (some v)) (env.set i (some r)) fp' := by
  obtain ⟨fp', s', h'⟩ := (sat.ext x).put hi h nd (fresh_dj (F' := F) (H' := H) sat n)
  exact ⟨fp', ⟨x.ff, fun b o e _ => x.hh b o e, fun b o e => (x.fn b o e).imp id .inr, fun b hb => (h' b hb).elim (fun z => .inr (n b z)) .inl⟩, s'⟩
theorem ds_set {f : Ev → R Ow} {x : Str} {pos' : Pos} (i : Nat) (hN : X.N.Nodup) (he : DE X W e f) (hi : X.N[i]? = some x := by rfl) (hx : Loc X.env.scope x := by first | exact Or.inl rfl | exact Or.inr rfl)
    (hs : swapsWith e (some (.Name x pos')) pos.line X.env = pure false := by rfl) (hf : X.fn x = true ∨ X.env.scope.names.lookup x = some .local := by first | exact .inl rfl | exact .inr rfl | assumption) (hS : S i = true := by rfl) : DS X W S (.Assign [.Name x pos'] e pos) (sSet i f) := by
  obtain ⟨t, p, s⟩ := he
  refine ⟨_, ps_set hN hi hx p hs hf, fun F H σ env fp D sat h => ?_⟩
  refine s F H σ env fp _ sat ?_
  unfold sSet at h
  cases e : f env with
  | no => rw [e] at h; exact h
  | ex c => rw [e] at h; exact fun C F' H' m x => h C σ F' H' fp m (.refl _ _) (StepS.of_ext x fp) (sat.ext x)
  | ok r =>
    rw [e] at h
    intro v F' H' x ⟨fx, q, nd, n⟩
    have h' : PostS X W S σ F H fp D (if i < env.length then .nx (env.set i (some r)) else .no) := h
    split at h'
    · obtain ⟨fp', s1, s2⟩ := put_step sat x q nd n ‹_›
      exact h' _ F' H' fp' (.set hS _) s1 s2
    · exact h'.elim
/-- targets = e, e frozen -/
def sAsg (g : D → Ev → Option Ev) (f : Ev → R D) (env : Ev) : SR := (f env).st env fun d => match g d env with
  | some env' => .nx env'
  | none => .no
theorem ds_asg {f : Ev → R D} {g : D → Ev → Option Ev} {tg : Expr} {ix : List Nat} (he : DF X W e f) (hg : DG X tg ix g) (hs : swapsWithSole [tg] e pos.line X.env = pure false := by rfl) (hw : swappedStores [tg] e X.env = pure none := by rfl)
    (h1 : (assignEach [tg] X.env).map (·.2) = [assign tg X.env] := by rfl) (hS : ix.all S = true := by rfl) : DS X W S (.Assign [tg] e pos) (sAsg g f) := by
  obtain ⟨t, p, s⟩ := he
  refine ⟨_, ps_asg p hg hs hw h1, fun F H σ env fp D sat h => ?_⟩
  refine s.st sat h fun d v F1 H1 sat1 q _ h1 => ?_
  split at h1
  · rename_i env' e
    exact ⟨F1, env, fp, d, env', sat1, q, e, fun σ' fp' sat' sub off => h1 σ' F1 H1 fp' (.of off hS) ((StepS.of_ext (.refl sat1.fh) fp).subset sub) sat'⟩
  · exact h1.elim
/-- an expression whose value is dropped -/
def sDrop (f : Ev → R D) (env : Ev) : SR := (f env).st env fun _ => .nx env
def sRet (f : Ev → R Ow) (env : Ev) : SR := (f env).st env fun r => .rt r env
theorem ds_ret {f : Ev → R Ow} (he : DE X W e f) : DS X W S (.Return (some e) pos) (sRet f) := by
  obtain ⟨t, p, s⟩ := he
  refine ⟨_, ps_ret p, fun F H σ env fp D sat h => ?_⟩
  refine s F H σ env fp _ sat ?_
  unfold sRet at h
  cases e : f env with
  | no => rw [e] at h; exact h
  | ex c => rw [e] at h; exact fun C F' H' m x => h C σ F' H' fp m (.refl _ _) (StepS.of_ext x fp) (sat.ext x)
  | ok r =>
    rw [e] at h
    intro v F' H' x ⟨fx, q, nd, n⟩
    have dj := fresh_dj (F' := F) (H' := H) sat n
    refine h v σ F' H' fx fp (.refl _ _) ⟨x.ff, fun b o e _ => x.hh b o e, fun b o e => (x.fn b o e).imp id .inr, fun b hb => ?_⟩ (sat.ext x) q ?_
    · rcases List.mem_append.mp hb with z | z
      · exact .inr (n b z)
      · exact .inl z
    · rw [List.nodup_append]; exact ⟨nd, sat.nd, fun a ha b hb e => dj a ha (e ▸ hb)⟩
def sRetN (env : Ev) : SR := .rt (.d .none) env
/-- return x, x given away -/
def sRetV (i : Nat) (env : Ev) : SR := match env[i]? with
  | some (some o) => .rt o (env.set i none)
  | _ => .no
theorem ds_retV (i : Nat) {x : Str} {pos' : Pos} (hN : X.N[i]? = some x := by rfl) (hv : Vis X.env.scope x := by first | exact Or.inl rfl | exact Or.inr (Or.inl rfl) | exact Or.inr (Or.inr rfl)) (hd : (x == ("__debug__" : Str)) = false := by decide)
    (hcd : (x == ("__classdict__" : Str)) = false := by decide) : DS X W S (.Return (some (.Name x pos')) pos) (sRetV i) := by
  refine ⟨_, ps_ret (pe_var hN hv hd hcd), fun F H σ env fp D sat h => ?_⟩
  unfold sRetV at h
  split at h
  · rename_i o he
    have hi : i < env.length := (List.getElem?_eq_some_iff.mp he).1
    obtain ⟨fr, fo, a1, a2, a3, a3', a4, a5, a6⟩ := sat.en.put hi sat.nd
    obtain ⟨v, e1, e2⟩ := a5 o he
    have e3 := (a6 F H [] [] (StepS.of_ext (.refl sat.fh) []) fun _ _ => by simp).1 (some v)
    have es : σ.set i (some v) = σ := by
      refine List.ext_getElem? fun j => ?_
      by_cases hj : i = j
      · subst hj
        rw [List.getElem?_set_self (List.getElem?_eq_some_iff.mp e1).1]
        exact e1.symm
      · rw [List.getElem?_set_ne hj]
    rw [es] at e3
    refine ⟨v, e1, h v _ F H fo fr (.refl _ _) ((StepS.of_ext (.refl sat.fh) fp).subset fun b hb => ?_) ⟨sat.fh, e3, a3⟩ e2 ?_⟩
    · exact (List.mem_append.mp hb).elim (a2 b) (a1 b)
    · rw [List.nodup_append]; exact ⟨a3', a3, fun a ha b hb e => a4 a ha (e ▸ hb)⟩
  · exact h.elim
def sIf (c : Ev → R Bool) (f g : Ev → SR) (env : Ev) : SR := (c env).st env fun b => if b = true then f env else g env
theorem ds_if {c : Expr} {a b : List Stmt} {fc : Ev → R Bool} (hc : DT X W c fc) (ha : DSs X W S a fs) (hb : DSs X W S b gs) : DS X W S (.If c a b pos) (sIf fc fs gs) := by
  obtain ⟨t, p, s⟩ := hc
  obtain ⟨ta, pa, sa⟩ := ha
  obtain ⟨tb, pb, sb⟩ := hb
  refine ⟨_, ps_if p pa pb, fun F H σ env fp D sat h => ?_⟩
  refine s.st sat h fun k v F1 H1 sat1 q _ h1 => ?_
  obtain rfl : v = k := q
  cases v with
  | true => exact sa F1 H1 σ env fp D sat1 h1
  | false => exact sb F1 H1 σ env fp D sat1 h1
/-- for target in ..: body -/
def forL (g : D → Ev → Option Ev) (f : Ev → SR) : List D → Ev → SR
  | [], env => .nx env
  | d :: ds, env => match g d env with
    | none => .no
    | some env1 => match f env1 with
      | .nx env2 => forL g f ds env2
      | .ct env2 => forL g f ds env2
      | .bk env2 => .nx env2
      | .rt r env2 => .rt r env2
      | .ex c env2 => .ex c env2
      | .no => .no
def sFor (it : Ev → R (List D)) (g : D → Ev → Option Ev) (f : Ev → SR) (env : Ev) : SR := (it env).st env fun ds => forL g f ds env
theorem ds_for {tg iter : Expr} {body : List Stmt} {fi : Ev → R (List D)} {g : D → Ev → Option Ev} (hp : PassesOwn (model X.prog X.w) X.A X.env X.xe) (hc : X.calm = true) {ix : List Nat} (hi : DI X W tg iter fi) (hg : DG X tg ix g) (hb : DSs X W S body fs)
    (hs : ∀ x, foldedSetIterable iter X.env x = pure x := by intro _; rfl) (hS : ix.all S = true := by rfl) : DS X W S (.For tg iter body [] pos) (sFor fi g fs) := by
  obtain ⟨wi, pi, si⟩ := hi
  obtain ⟨tb, pb, sb⟩ := hb
  refine ⟨_, ps_for hp hc pi hg pb hs, fun F H σ env fp D sat h => ?_⟩
  refine si.st sat h fun items J F1 H1 sat1 wk _ h1 => ?_
  have wk : WalkF X.K J F1 items := wk
  refine ⟨fun i m σ' H' => m = items.length - i ∧ i ≤ items.length ∧ ∃ F' env' fp', Same F1 F' ∧ Sat X.K F' H' σ' env' fp' ∧ PostS X W S σ' F' H' fp' D (forL g fs (items.drop i) env'),
    ⟨items.length, by simp, Nat.zero_le _, F1, env, fp, Same.refl _, sat1, h1⟩, ?_⟩
  rintro i m σ' H' ⟨rfl, hi, F', env', fp', st, sat', h2⟩
  by_cases hlt : i < items.length
  · refine .inr ⟨wk.go i F' H' hlt st sat'.fh, fun σ2 H2 => ∃ F2 env2 fp2, Same F1 F2 ∧ Sat X.K F2 H2 σ2 env2 fp2 ∧ PostS X W S σ2 F2 H2 fp2 D (forL g fs (items.drop (i + 1)) env2), ?_, ?_⟩
    · rintro σ2 H2 ⟨F2, env2, fp2, a, b, c⟩
      exact ⟨items.length - (i + 1), by omega, rfl, hlt, F2, env2, fp2, a, b, c⟩
    · intro x H3 y
      obtain ⟨d, F3, e1, x3, dp⟩ := wk.yld i F' H' x H3 hlt st sat'.fh y
      have ed : items.drop i = d :: items.drop (i + 1) := by
        rw [List.drop_eq_getElem_cons hlt]
        have : items[i] = d := by rw [List.getElem?_eq_getElem hlt] at e1; exact Option.some.inj e1
        rw [this]
      rw [ed] at h2
      unfold forL at h2
      cases eg : g d env' with
      | none => rw [eg] at h2; exact h2.elim
      | some env1 =>
        rw [eg] at h2
        simp only at h2
        refine ⟨F3, env', fp', d, env1, sat'.ext x3, dp, eg, fun σ4 fp4 sat4 sub4 off4 => ?_⟩
        have st4 : StepS F' H' fp' F3 H3 fp4 := (StepS.of_ext x3 fp').subset sub4
        have h4 := PostS.step h2 (.of off4 hS) st4
        refine sb F3 H3 σ4 env1 fp4 _ sat4 ?_
        cases ef : fs env1 with
        | no => rw [ef] at h4; exact h4
        | nx env2 => rw [ef] at h4; exact fun σ5 F5 H5 fp5 o5 s5 sat5 => ⟨F5, env2, fp5, st.trans (x3.ff.trans s5.ff), sat5, PostS.step h4 o5 s5⟩
        | ct env2 => rw [ef] at h4; exact fun σ5 F5 H5 fp5 o5 s5 sat5 => ⟨F5, env2, fp5, st.trans (x3.ff.trans s5.ff), sat5, PostS.step h4 o5 s5⟩
        | bk env2 => rw [ef] at h4; exact h4
        | rt r env2 => rw [ef] at h4; exact h4
        | ex c env2 => rw [ef] at h4; exact h4
  · have e : i = items.length := by omega
    subst e
    rw [List.drop_length] at h2
    exact .inl ⟨wk.stop F' H' st sat'.fh, h2 σ' F' H' fp' (.refl _ _) (StepS.of_ext (.refl sat'.fh) fp') sat'⟩
/-- while c: body, at most n turns -/
def whileN (c : Ev → R Bool) (f : Ev → SR) : Nat → Ev → SR
  | 0, _ => .no
  | n + 1, env => (c env).st env fun b => if b = true then (match f env with
      | .nx env2 => whileN c f n env2
      | .ct env2 => whileN c f n env2
      | .bk env2 => .nx env2
      | .rt r env2 => .rt r env2
      | .ex c env2 => .ex c env2
      | .no => .no) else .nx env
theorem ds_while {c : Expr} {body : List Stmt} {fc : Ev → R Bool} (n : Nat) (hp : PassesOwn (model X.prog X.w) X.A X.env X.xe) (hc : DT X W c fc) (hb : DSs X W S body fs) : DS X W S (.While c body [] pos) (whileN fc fs n) := by
  obtain ⟨tc, pc, sc⟩ := hc
  obtain ⟨tb, pb, sb⟩ := hb
  refine ⟨_, ps_while hp pc pb, fun F H σ env fp D sat h => ?_⟩
  refine ⟨fun m σ' H' => ∃ F' env' fp', Sat X.K F' H' σ' env' fp' ∧ PostS X W S σ' F' H' fp' D (whileN fc fs m env'), ⟨n, F, env, fp, sat, h⟩, ?_⟩
  rintro m σ' H' ⟨F', env', fp', sat', h2⟩
  cases m with
  | zero => exact h2.elim
  | succ m =>
    unfold whileN at h2
    refine sc.st sat' h2 fun k v F1 H1 sat1 q x1 h3 => ?_
    obtain rfl : v = k := q
    cases v with
    | false => exact h3 σ' F1 H1 fp' (.refl _ _) (StepS.of_ext (.refl sat1.fh) fp') sat1
    | true =>
      rw [if_pos rfl] at h3 ⊢
      refine ⟨fun σ5 H5 => ∃ F5 env2 fp5, Sat X.K F5 H5 σ5 env2 fp5 ∧ PostS X W S σ5 F5 H5 fp5 D (whileN fc fs m env2), fun σ5 H5 z => ⟨m, Nat.lt_succ_self m, z⟩, ?_⟩
      refine sb F1 H1 σ' env' fp' _ sat1 ?_
      cases ef : fs env' with
      | no => rw [ef] at h3; exact h3
      | nx env2 => rw [ef] at h3; exact fun σ5 F5 H5 fp5 o5 s5 sat5 => ⟨F5, env2, fp5, sat5, PostS.step h3 o5 s5⟩
      | ct env2 => rw [ef] at h3; exact fun σ5 F5 H5 fp5 o5 s5 sat5 => ⟨F5, env2, fp5, sat5, PostS.step h3 o5 s5⟩
      | bk env2 => rw [ef] at h3; exact h3
      | rt r env2 => rw [ef] at h3; exact h3
      | ex c env2 => rw [ef] at h3; exact h3
end
end Mir
end
set_option Elab.async false
set_option linter.all false
set_option maxRecDepth 100000
set_option maxHeartbeats 4000000
noncomputable section
namespace Mir
open PySem PySem.Spec L2

def PostF (K : PySem.W.Frag) (mg : Str → Option Value) (F H : Hp) : R Ow → VK → XK → Prop
  | .no, _, _ => False
  | .ok r, Q, _ => ∀ v F' H', Ext F H F' H' → POw K H r v F' H' → Q v H'
  | .ex c, _, E => ∀ C F' H', mg c = some (.ref C) → Ext F H F' H' → E (.ref C) none H'
def spM (K : PySem.W.Frag) (mg : Str → Option Value) (n : Nat) (m : List D → R Ow) : Sp := fun vs H Q E => ∃ F ds, Same F H ∧ DpAll K F vs ds ∧ ds.length = n ∧ PostF K mg F H (m ds) Q E
theorem spM_len {K : PySem.W.Frag} {mg : Str → Option Value} {n : Nat} {m : List D → R Ow} {vs : List V} {H : Hp} {Q : VK} {E : XK} (h : spM K mg n m vs H Q E) : vs.length = n := by
  obtain ⟨F, ds, _, h1, h2, _⟩ := h
  rw [DpAll.len h1, h2]
def envOf (k : Nat) (ds : List D) : Ev := ds.map (fun d => some (Ow.d d)) ++ List.replicate k none
def runB (k : Nat) (f : Ev → SR) (ds : List D) : R Ow := match f (envOf k ds) with
  | .nx _ => .ok (.d .none)
  | .rt r _ => .ok r
  | .ex c _ => .ex c
  | _ => .no
theorem env_start {K : PySem.W.Frag} {F H : Hp} (k : Nat) : ∀ {vs : List V} {ds : List D}, DpAll K F vs ds → EnvAt K F H (vs.map some ++ List.replicate k none) (envOf k ds) []
  | vs, [], h => by
    cases h
    show EnvAt K F H (List.replicate k none) (List.replicate k none) []
    induction k with
    | zero => exact .nil
    | succ k ih => exact .non ih
  | vs, d :: ds, h => by
    cases h with
    | cons h1 h2 => exact .som (fp := []) (.d h1) (env_start k h2)
section
variable {P : Program} {w : World} {K : PySem.W.Frag} {mg : Str → Option Value} {base : Heap}
theorem mk_fn {x qual : Str} {st : Stmt} {f : Addr} {fd : FuncData} {N ps : List Str} {k l : Nat} {fb : Ev → SR} {m : List D → R Ow} (F : Fun K x qual st f fd) (S : FnScope N ps (defScope st)) (hl : N.length = ps.length + l) (hm : ∀ ds, m ds = runB l fb ds)
    (hb : ∀ (cdv : Value) (A : Around) (outer : List Env) (s : Shared) (H : Hp) (E : XK), Room k (A.deeper (PyProof.Rows.envOfC qual (defScope st) s.heap.objs.size f cdv)) →
      DSs (cxOf (L2.CX P w) P w K mg base N qual (defScope st) f cdv A outer s H E) (fun cls d _ H => E cls d H) (fun _ => true) (defBody st) fb) : FnOk P w K mg base (L2.CX P w) (k + 1) f fd ps (spM K mg ps.length m) := by
  refine F.okX S (fun vs H Q E h => spM_len h) (fun cdv A outer s H vs Q E hr h => ?_)
  obtain ⟨t, p, sm⟩ := hb cdv A outer s H E hr
  refine ⟨t, p, ?_⟩
  have hlen := spM_len h
  obtain ⟨F0, ds, s1, s2, s3, s4⟩ := h
  have e0 : start N vs = vs.map some ++ List.replicate l none := by
    show vs.map some ++ List.replicate (N.length - vs.length) none = _
    rw [hl, hlen, Nat.add_sub_cancel_left]
  rw [e0]
  have sat : Sat K F0 H (vs.map some ++ List.replicate l none) (envOf l ds) [] := ⟨s1, env_start l s2, List.nodup_nil⟩
  rw [hm] at s4
  unfold runB at s4
  have ext : ∀ {F' H' : Hp} {fp' : List Addr}, StepS F0 H [] F' H' fp' → Same F' H' → Ext F0 H F' H' := fun st sf => ⟨st.ff, fun b o e => st.fr b o e (by simp), fun b o e => (st.fn b o e).imp id fun z => z.elim (fun z => nomatch z) id, sf⟩
  refine sm F0 H _ _ [] _ sat ?_
  cases e : fb (envOf l ds) with
  | no => rw [e] at s4; exact s4
  | bk env => rw [e] at s4; exact s4.elim
  | ct env => rw [e] at s4; exact s4.elim
  | nx env => rw [e] at s4; exact fun σ' F' H' fp' _ st sat' => s4 .non F' H' (ext st sat'.fh) (own_d .non)
  | rt r env =>
    rw [e] at s4
    intro v σ' F' H' fx fp' _ st sat' ow nd
    refine s4 v F' H' (ext st sat'.fh) ⟨fx, ow, (List.nodup_append.mp nd).1, fun b hb => ?_⟩
    exact (st.sub b (List.mem_append_left _ hb)).elim (fun z => nomatch z) id
  | ex c env => rw [e] at s4; exact fun C σ' F' H' fp' m _ st sat' => s4 C F' H' m (ext st sat'.fh)
end
section
variable {X : Cx} {W : WX} {e : Expr} {es : List Expr} {pos p : Pos}
theorem de_call {k n : Nat} {f : Addr} {fd : FuncData} {ps : List Str} {x : Str} {m : List D → R Ow} {fa : Ev → R (List D)} (F : FnOk X.prog X.w X.K X.mg X.base (L2.CX X.prog X.w) k f fd ps (spM X.K X.mg n m)) (tk : Takes X W) (hr : Room k X.A) (hg : Gl X x) (hm : X.mg x = some (.ref f))
    (hk : PySem.W.keepIn X.K (.ref f) = true) (hb : Binds X.K fd ps []) (ha : DA X W (e :: es) fa) (hn : ∀ ds env, fa env = .ok ds → ds.length = n)
    (hdb : (x == ("__debug__" : Str)) = false := by decide) (he : starEach (e :: es) X.env = (false, eval e X.env) :: starEach es X.env := by rfl) (hpl : (backTo pos (starEach es X.env)).any (·.1) = false := by rfl) :
    DE X W (.Call (.Name x p) (e :: es) [] pos) (eB fa m) := by
  obtain ⟨t, pa, s⟩ := ha
  refine ⟨_, pe_callS F hr hg hm hk hb (fun σ => passAt tk σ) pa hdb he hpl, fun F0 H σ env fp Q sat hp => ?_⟩
  refine s.choose sat hp (fun z => z _) fun ds ed k => k _ fun vs F1 H1 sat1 q _ h1 => ?_
  refine ⟨F1, ds, sat1.fh, q, hn ds env ed, ?_⟩
  cases em : m ds with
  | no => rw [em] at h1; exact h1
  | ok r => rw [em] at h1; exact h1
  | ex c => rw [em] at h1; exact h1
theorem aNil_len {ds : List D} {env : Ev} (h : aNil env = .ok ds) : ds.length = 0 := by cases h; rfl
theorem aCons_len {n : Nat} {f : Ev → R D} {g : Ev → R (List D)} (ih : ∀ ds env, g env = .ok ds → ds.length = n) : ∀ ds env, aCons f g env = .ok ds → ds.length = n + 1 := fun ds env h => by
  unfold aCons at h
  cases e1 : f env with
  | no => rw [e1] at h; cases h
  | ex c => rw [e1] at h; cases h
  | ok d =>
    rw [e1] at h
    have h' : (g env).map (fun ds => d :: ds) = .ok ds := h
    cases e2 : g env with
    | no => rw [e2] at h'; cases h'
    | ex c => rw [e2] at h'; cases h'
    | ok es =>
      rw [e2] at h'
      cases h'
      simp [ih es env e2]

/-- the reading that a mirror is -/
def tOf (K : PySem.W.Frag) (Pst : Hp → Hp → L2.St → R α → (β → Hp → Prop) → Prop) (f : Ev → R α) : L2.St → Hp → (β → Hp → Prop) → Prop := fun σ H Q => ∃ F env fp, Sat K F H σ env fp ∧ Pst F H σ (f env) Q
def W0 : WX := fun _ _ _ _ => False
theorem PE.imp {X : Cx} {e : Expr} {t t' : TE} (h : PE X e t) (k : ∀ σ H Q, t' σ H Q → t σ H Q) : PE X e t' := ⟨fun pins s σ H Q I q => h.run pins s σ H Q I (k σ H Q q)⟩
theorem PTs.imp {X : Cx} {e : List Expr} {t t' : TT} (h : PTs X e t) (k : ∀ σ H Q, t' σ H Q → t σ H Q) : PTs X e t' := ⟨fun pins s σ H Q I q => h.run pins s σ H Q I (k σ H Q q)⟩
theorem DE.can {X : Cx} {W : WX} {e : Expr} {f : Ev → R Ow} (h : DE X W e f) : PE X e (tOf X.K (Post X W (POw X.K)) f) := by
  obtain ⟨t, p, s⟩ := h
  refine PE.imp p ?_
  rintro σ H Q ⟨F, env, fp, sat, h⟩
  exact s F H σ env fp Q sat h
/-- a clause's tests -/
def DTs (X : Cx) (W : WX) (ifs : List Expr) (f : Ev → R Bool) : Prop := ∃ t, PTs X ifs t ∧ Sm X W PTb t f
def cYes (_ : Ev) : R Bool := .ok true
theorem dts_nil : DTs X W [] cYes := ⟨_, pts_nil, fun F H σ env fp Q sat h => h true F H (.refl sat.fh) rfl⟩
theorem dts_one {f : Ev → R Bool} (h : DT X W e f) : DTs X W [e] f := by
  obtain ⟨t, p, s⟩ := h
  exact ⟨_, pts_one p, s⟩
theorem DTs.can {X : Cx} {W : WX} {e : List Expr} {f : Ev → R Bool} (h : DTs X W e f) : L2.PTs X e (tOf X.K (Post X W PTb) f) := by
  obtain ⟨t, p, s⟩ := h
  refine PTs.imp p ?_
  rintro σ H Q ⟨F, env, fp, sat, h⟩
  exact s F H σ env fp Q sat h
def wipeE (env : Ev) : List Nat → Ev
  | [] => env
  | v :: vs => (wipeE env vs).set v none
theorem set_none_len {α : Type} {l : List (Option α)} {i : Nat} (h : ¬ i < l.length) (x : Option α) : l.set i x = l := List.set_eq_of_length_le (by omega)
theorem wipe_sat {K : PySem.W.Frag} {F H : Hp} {σ : L2.St} {env : Ev} {fp : List Addr} (sat : Sat K F H σ env fp) : ∀ vs : List Nat, ∃ fp', Sat K F H (wipe σ vs) (wipeE env vs) fp' ∧ ∀ b ∈ fp', b ∈ fp
  | [] => ⟨fp, sat, fun _ z => z⟩
  | v :: vs => by
    obtain ⟨fp1, s1, h1⟩ := wipe_sat sat vs
    by_cases hi : v < (wipeE env vs).length
    · obtain ⟨fr, fo, a1, a2, a3, a3', a4, a5, a6⟩ := s1.en.put hi s1.nd
      have e3 := (a6 F H [] [] (StepS.of_ext (.refl sat.fh) []) fun _ _ => by simp).1 none
      exact ⟨fr, ⟨sat.fh, e3, a3⟩, fun b hb => h1 b (a1 b hb)⟩
    · refine ⟨fp1, ?_, h1⟩
      show Sat K F H ((wipe σ vs).set v none) ((wipeE env vs).set v none) fp1
      rw [set_none_len hi, set_none_len (by rw [s1.en.len]; exact hi)]
      exact s1
theorem wipe_get : ∀ (σ : L2.St) (vs : List Nat) (j : Nat), (wipe σ vs)[j]? = if j ∈ vs then (σ[j]?).map (fun _ => none) else σ[j]?
  | σ, [], j => by simp [wipe]
  | σ, v :: vs, j => by
    show ((wipe σ vs).set v none)[j]? = _
    by_cases hj : v = j
    · subst hj
      by_cases hl : v < (wipe σ vs).length
      · rw [List.getElem?_set_self hl]
        rw [wipe_length] at hl
        simp [List.getElem?_eq_getElem hl]
      · rw [set_none_len hl, wipe_get σ vs v]
        rw [wipe_length] at hl
        have e : σ[v]? = none := List.getElem?_eq_none (by omega)
        simp [e]
    · rw [List.getElem?_set_ne hj, wipe_get σ vs j]
      simp [Ne.symm hj]
theorem wipe_off {σ σ' : L2.St} {ix vs : List Nat} (h : Off ix (wipe σ vs) σ') (hs : ∀ i ∈ ix, i ∈ vs) : wipe σ' vs = wipe σ vs := by
  refine List.ext_getElem? fun j => ?_
  rw [wipe_get σ', wipe_get σ]
  by_cases hj : j ∈ vs
  · rw [if_pos hj, if_pos hj]
    have hl := h.1
    rw [wipe_length] at hl
    by_cases hb : j < σ.length
    · rw [List.getElem?_eq_getElem hb, List.getElem?_eq_getElem (by omega : j < σ'.length)]; rfl
    · rw [List.getElem?_eq_none (by omega), List.getElem?_eq_none (by omega)]
  · rw [if_neg hj, if_neg hj, h.2 j fun z => hj (hs j z), wipe_get σ, if_neg hj]
def noEx {α : Type} : R α → R α
  | .ex _ => .no
  | r => r
@[simp] theorem noEx_ok {α : Type} (a : α) : noEx (.ok a) = .ok a := rfl
def lcR (g : D → Ev → Option Ev) (c : Ev → R Bool) (e : Ev → R Ow) (env : Ev) : List D → R (List Ow)
  | [] => .ok []
  | d :: ds => match g d env with
    | none => .no
    | some env1 => (noEx (c env1)).bind fun b => if b = true then (noEx (e env1)).bind fun r => (lcR g c e env ds).map fun rs => r :: rs else lcR g c e env ds
def eLc (it : Ev → R (List D)) (g : D → Ev → Option Ev) (c : Ev → R Bool) (e : Ev → R Ow) (vs : List Nat) (env : Ev) : R Ow := (it env).bind fun ds => guard (ds.length ≤ sizeLine) ((noEx (lcR g c e (wipeE env vs) ds)).map Ow.l)
theorem OwnAll.snoc {K : PySem.W.Frag} {F H : Hp} {v : V} {r : Ow} {fr : List Addr} : ∀ {os : List Ow} {vs : List V} {fp : List Addr}, OwnAll K F H vs os fp → OwnAt K F H v r fr → fp.Nodup → fr.Nodup → (∀ b ∈ fr, b ∉ fp) → ∃ fp', OwnAll K F H (vs ++ [v]) (os ++ [r]) fp' ∧ fp'.Nodup ∧ ∀ b ∈ fp', b ∈ fp ∨ b ∈ fr
  | [], _, _, h, g, n1, n2, dj => by
    cases h
    exact ⟨fr ++ [], .cons g .nil, by simpa using n2, fun b hb => .inr (by simpa using hb)⟩
  | o :: os, _, _, h, g, n1, n2, dj => by
    cases h with
    | @cons _ _ _ _ f1 fs h1 h2 =>
      rw [List.nodup_append] at n1
      obtain ⟨m1, m2, m3⟩ := n1
      obtain ⟨fp', a, b, c⟩ := OwnAll.snoc h2 g m2 n2 fun b hb z => dj b hb (List.mem_append_right _ z)
      refine ⟨f1 ++ fp', .cons h1 a, ?_, fun x hx => ?_⟩
      · rw [List.nodup_append]
        refine ⟨m1, b, fun x hx y hy e => ?_⟩
        subst e
        rcases c x hy with z | z
        · exact m3 x hx x z rfl
        · exact dj x z (List.mem_append_left _ hx)
      · rcases List.mem_append.mp hx with z | z
        · exact .inl (List.mem_append_left _ z)
        · exact (c x z).imp (List.mem_append_right _) id
theorem de_lc_core {wi : TI} {g : D → Ev → Option Ev} {fi : Ev → R (List D)} {fc : Ev → R Bool} {fe : Ev → R Ow} {ix vs : List Nat} (si : Sm X W (PIt X.K) wi fi) (hix : ∀ i ∈ ix, i ∈ vs) :
    Sm X W (POw X.K) (tLc wi (tgOf X.K ix g) (tOf X.K (Post X W0 PTb) fc) (tOf X.K (Post X W0 (POw X.K)) fe) vs) (eLc fi g fc fe vs) := by
  intro F H σ env fp Q sat hp
  refine si.go sat hp fun items J F1 H1 sat1 wk _ h1 => ?_
  have wk : WalkF X.K J F1 items := wk
  obtain ⟨hz, h2⟩ := guard_post h1
  intro Dd hD
  have hD1 : F1 Dd = none := free_of sat1.fh hD
  cases el : lcR g fc fe (wipeE env vs) items with
  | no => rw [el] at h2; exact h2.elim
  | ex c => rw [el] at h2; exact h2.elim
  | ok all =>
  rw [el] at h2
  have h2 : ∀ v F' H', Ext F1 H1 F' H' → POw X.K H1 (.l all) v F' H' → Q v H' := h2
  let Iv : Nat → Hp → Prop := fun i H' => ∃ F' acc accO fa rest, Ext F1 H1 F' H' ∧ F' Dd = none ∧ H' Dd = some (.lst acc) ∧ OwnAll X.K F' H' acc accO fa ∧ fa.Nodup ∧ Dd ∉ fa ∧ accO.length ≤ i ∧ (∀ b ∈ fa, H1 b = none) ∧ lcR g fc fe (wipeE env vs) (items.drop i) = .ok rest ∧ all = accO ++ rest
  refine ⟨fun i m H' => m = items.length - i ∧ i ≤ items.length ∧ Iv i H', ⟨items.length, by simp, Nat.zero_le _, F1, [], [], [], all, Ext.own sat1.fh hD _, hD1, upd_same, .nil, List.nodup_nil, by simp, Nat.le_refl _, (fun b z => nomatch z), el, rfl⟩, ?_⟩
  rintro i m H' ⟨rfl, hi, F', acc, accO, fa, rest, x, fD, hDd, ow, nd, nD, hl, fr, er, ea⟩
  by_cases hlt : i < items.length
  · refine .inr ⟨wk.go i F' H' hlt x.ff x.fh, Iv (i + 1), fun H2 z => ⟨items.length - (i + 1), by omega, rfl, hlt, z⟩, fun v H3 y => ?_⟩
    obtain ⟨d, F3, e1, x3, dp⟩ := wk.yld i F' H' v H3 hlt x.ff x.fh y
    have ed : items.drop i = d :: items.drop (i + 1) := by
      rw [List.drop_eq_getElem_cons hlt]
      have : items[i] = d := by rw [List.getElem?_eq_getElem hlt] at e1; exact Option.some.inj e1
      rw [this]
    rw [ed] at er
    unfold lcR at er
    cases eg : g d (wipeE env vs) with
    | none => rw [eg] at er; cases er
    | some env1 =>
    rw [eg] at er
    simp only at er
    obtain ⟨fpw, satw, subw⟩ := wipe_sat (sat1.ext (x.trans x3)) vs
    refine ⟨F3, _, fpw, d, env1, satw, dp, eg, fun σ2 fp2 sat2 sub2 off2 => ⟨wipe_off off2 hix, F3, env1, fp2, sat2, ?_⟩⟩
    cases ec : fc env1 with
    | no => rw [ec] at er; cases er
    | ex c => rw [ec] at er; cases er
    | ok b =>
    rw [ec] at er
    simp only [noEx_ok, R.bind_ok] at er
    intro v4 F4 H4 x4 ev4
    obtain rfl : v4 = b := ev4
    have xx4 := x3.trans x4
    cases v4 with
    | false =>
      rw [if_neg Bool.false_ne_true] at er ⊢
      have g1 := x.trans xx4
      refine ⟨F4, acc, accO, fa, rest, g1, ?_, xx4.hh _ _ hDd, ow.ext xx4, nd, nD, Nat.le_succ_of_le hl, fr, er, ea⟩
      cases q : F4 Dd with
      | none => rfl
      | some u =>
        rcases xx4.fn Dd u q with z | z
        · rw [fD] at z; cases z
        · rw [hDd] at z; cases z
    | true =>
      rw [if_pos rfl] at er ⊢
      refine ⟨F4, env1, fp2, sat2.ext x4, ?_⟩
      cases ee : fe env1 with
      | no => rw [ee] at er; cases er
      | ex c => rw [ee] at er; cases er
      | ok r =>
      rw [ee] at er
      simp only [noEx_ok, R.bind_ok] at er
      intro y5 F5 H5 x5 ⟨fr5, ow5, nd5, fresh5⟩
      have xx := xx4.trans x5
      have hD5 : H5 Dd = some (.lst acc) := xx.hh _ _ hDd
      have fD5 : F5 Dd = none := by
        cases q : F5 Dd with
        | none => rfl
        | some u =>
          rcases xx.fn Dd u q with z | z
          · rw [fD] at z; cases z
          · rw [hDd] at z; cases z
      have nD5 : Dd ∉ fr5 := fun z => by
        have := fresh5 Dd z
        rw [xx4.hh _ _ hDd] at this; cases this
      cases er2 : lcR g fc fe (wipeE env vs) (items.drop (i + 1)) with
      | no => rw [er2] at er; cases er
      | ex c => rw [er2] at er; cases er
      | ok rest2 =>
      rw [er2] at er
      cases er
      have la := OwnAll.len ow
      have stp : StepS F5 H5 [Dd] F5 (upd H5 Dd (.lst (acc ++ [y5]))) [] := ⟨Same.refl _, fun b o e n => by rw [upd_ne (fun z => n (by simp [z]))]; exact e, fun b o e => .inl e, fun b z => nomatch z⟩
      obtain ⟨fa', ow', nd', sub'⟩ := OwnAll.snoc (OwnAll.keep stp _ _ _ (ow.ext xx) fun b hb => by simp; exact fun z => nD (z ▸ hb)) (OwnAt.keep stp _ _ _ ow5 fun b hb => by simp; exact fun z => nD5 (z ▸ hb)) nd nd5 fun b hb z => by
        obtain ⟨_, vs', e⟩ := OwnAll.there _ _ _ ow b z
        have := xx4.hh.free (fresh5 b hb)
        rw [e] at this; cases this
      refine ⟨acc, hD5, by omega, F5, acc ++ [y5], accO ++ [r], fa', rest2, ⟨(x.trans xx).ff, fun b o e => ?_, (x.trans xx).fn, fun b o e => ?_⟩, fD5, upd_same, ow', nd', ?_, by simp; omega, fun b hb => ?_, er2, by simp [ea]⟩
      · rw [upd_ne (ne_of_none e hD)]; exact (x.trans xx).hh b o e
      · rw [upd_ne (ne_of_none e fD5)]; exact xx.fh b o e
      · intro z
        rcases sub' _ z with q | q
        · exact nD q
        · exact nD5 q
      · rcases sub' b hb with q | q
        · exact fr b q
        · exact x.hh.free (xx4.hh.free (fresh5 b q))
  · have e : i = items.length := by omega
    subst e
    rw [List.drop_length] at er
    cases er
    refine .inl ⟨wk.stop F' H' x.ff x.fh, h2 _ F' H' x ⟨Dd :: fa, ?_, List.nodup_cons.mpr ⟨nD, nd⟩, fun b hb => ?_⟩⟩
    · rw [ea, List.append_nil]; exact .l fD hDd ow
    · rcases List.mem_cons.mp hb with z | z
      · rw [z]; exact hD
      · exact fr b z
theorem de_lc {elt tg iter : Expr} {ifs : List Expr} {scope : Scope} {own : List (Str × Nat)} {g : D → Ev → Option Ev} {fi : Ev → R (List D)} {fc : Ev → R Bool} {fe : Ev → R Ow} {ix : List Nat} (hc : X.calm = true) (hN : X.N.Nodup) (hi : DI X W tg iter fi) (ok : BlkOk X.N X.env.scope scope own)
    (hg : ∀ (s : Shared) (H : Hp) (C : Addr) (cl : List (Str × Addr)) (fp : List Addr), DG (X.blk s H scope (compEnvC scope cl C X.env) fp) tg ix g) (ht : ∀ (s : Shared) (H : Hp) (C : Addr) (cl : List (Str × Addr)) (fp : List Addr), DTs (X.blk s H scope (compEnvC scope cl C X.env) fp) W0 ifs fc)
    (he : ∀ (s : Shared) (H : Hp) (C : Addr) (cl : List (Str × Addr)) (fp : List Addr), DE (X.blk s H scope (compEnvC scope cl C X.env) fp) W0 elt fe) (hix : ∀ i ∈ ix, i ∈ own.map (·.2) := by decide) (hs : ∀ x, foldedSetIterable iter X.env x = pure x := by intro _; rfl) :
    DE X W (.ListComp elt [⟨tg, iter, ifs, 0⟩] scope pos) (eLc fi g fc fe (own.map (·.2))) := by
  obtain ⟨wi, pi, si⟩ := hi
  exact ⟨_, pe_lc (g := tgOf X.K ix g) hc hN pi ok (fun s H C cl fp => hg s H C cl fp) (fun s H C cl fp => (ht s H C cl fp).can) (fun s H C cl fp => (he s H C cl fp).can) hs, de_lc_core si hix⟩
end
end Mir
end
set_option Elab.async false
set_option linter.all false
set_option maxRecDepth 100000
set_option maxHeartbeats 4000000
noncomputable section
namespace Mir
open PySem PySem.Spec L2

section
variable {K : PySem.W.Frag} {F H : Hp} {σ : L2.St} {env : Ev} {fp : List Addr}
theorem set_self {σ : L2.St} {i : Nat} {v : V} (h : σ[i]? = some (some v)) : σ.set i (some v) = σ := by
  refine List.ext_getElem? fun j => ?_
  by_cases hj : i = j
  · subst hj
    rw [List.getElem?_set_self (List.getElem?_eq_some_iff.mp h).1]
    exact h.symm
  · rw [List.getElem?_set_ne hj]
theorem mut_step {F H F1 H1 : Hp} {a : Addr} {vs vs' : List V} (x : Ext F H F1 H1) (h : H a = some (.lst vs)) : StepS F H [a] F1 (upd H1 a (.lst vs')) [] :=
  ⟨x.ff, fun b o e n => by rw [upd_ne (fun z => n (by simp [z]))]; exact x.hh b o e, fun b o e => (x.fn b o e).imp id .inr, fun b z => nomatch z⟩
theorem mut_free {F H F1 H1 : Hp} {a : Addr} {vs : List V} (x : Ext F H F1 H1) (hf : F a = none) (h : H a = some (.lst vs)) : F1 a = none := by
  cases q : F1 a with
  | none => rfl
  | some u =>
    rcases x.fn a u q with z | z
    · rw [hf] at z; cases z
    · rw [h] at z; cases z
theorem mut_same {F1 H1 : Hp} {a : Addr} {o : HO} (s : Same F1 H1) (hf : F1 a = none) : Same F1 (upd H1 a o) := fun b u e => by
  rw [upd_ne (ne_of_none e hf)]; exact s b u e
/-- the list in slot i, and what is left when it is changed -/
theorem Sat.mut (sat : Sat K F H σ env fp) {i : Nat} {os : List Ow} (hi : env[i]? = some (some (.l os))) : ∃ a vs fo, σ[i]? = some (some (.ref a)) ∧ F a = none ∧ H a = some (.lst vs) ∧ OwnAll K F H vs os fo ∧ fo.Nodup ∧ a ∉ fo ∧ (∀ b ∈ a :: fo, b ∈ fp) ∧
    ∀ F1 H1 vs' os' fo', Ext F H F1 H1 → OwnAll K F1 (upd H1 a (.lst vs')) vs' os' fo' → fo'.Nodup → (∀ b ∈ fo', b ∈ fo ∨ H b = none) → ∃ fp', StepS F H fp F1 (upd H1 a (.lst vs')) fp' ∧ Sat K F1 (upd H1 a (.lst vs')) σ (env.set i (some (.l os'))) fp' := by
  have hl : i < env.length := (List.getElem?_eq_some_iff.mp hi).1
  obtain ⟨fr, fo0, a1, a2, a3, a3', a4, a5, a6⟩ := sat.en.put hl sat.nd
  obtain ⟨v, e1, e2⟩ := a5 _ hi
  cases e2 with
  | @l a vs _ fo h1 h2 h3 =>
    obtain ⟨nd1, nd2⟩ := List.nodup_cons.mp a3'
    refine ⟨a, vs, fo, e1, h1, h2, h3, nd2, nd1, a2, fun F1 H1 vs' os' fo' x ow nd sub => ?_⟩
    have hf1 := mut_free x h1 h2
    have na' : a ∉ fo' := fun z => by
      rcases sub a z with q | q
      · exact nd1 q
      · rw [h2] at q; cases q
    have fresh : ∀ b, H b = none → b ∉ fr := fun b q z => by
      obtain ⟨_, w, e⟩ := sat.en.there b (a1 b z)
      rw [q] at e; cases e
    obtain ⟨fp', b1, b2, b3⟩ := (a6 F1 (upd H1 a (.lst vs')) [a] [] (mut_step x h2) fun b hb z => a4 b (by rw [List.mem_singleton.mp z]; exact List.mem_cons_self) hb).2 (.ref a) (.l os') (a :: fo') (.l hf1 upd_same ow) (List.nodup_cons.mpr ⟨na', nd⟩) fun b hb z => by
      rcases List.mem_cons.mp hb with q | q
      · subst q; exact a4 b List.mem_cons_self z
      · rcases sub b q with q | q
        · exact a4 b (List.mem_cons_of_mem _ q) z
        · exact fresh b q z
    rw [set_self e1] at b3
    refine ⟨fp', (mut_step x h2).mono (fun b hb => by rw [List.mem_singleton.mp hb]; exact a2 a List.mem_cons_self) |> fun s => ⟨s.ff, s.fr, s.fn, fun b hb => ?_⟩, mut_same x.fh hf1, b3, b1⟩
    rcases b2 b hb with q | q
    · rcases List.mem_cons.mp q with q | q
      · rw [q]; exact .inl (a2 a List.mem_cons_self)
      · rcases sub b q with q | q
        · exact .inl (a2 b (List.mem_cons_of_mem _ q))
        · exact .inr q
    · exact .inl (a1 b q)
/-- the items of an own list, behind a change at the list itself -/
theorem own_mut {F1 H1 : Hp} {a : Addr} {vs vs' : List V} {os : List Ow} {fo : List Addr} (x : Ext F H F1 H1) (h : H a = some (.lst vs)) (ow : OwnAll K F H vs os fo) (na : a ∉ fo) : OwnAll K F1 (upd H1 a (.lst vs')) vs os fo :=
  OwnAll.keep (mut_step x h) _ _ _ ow fun b hb z => na (by rw [← List.mem_singleton.mp z]; exact hb)
theorem own_mut1 {F1 H1 : Hp} {a : Addr} {vs vs' : List V} {v : V} {r : Ow} {fx : List Addr} (s : Same F1 H1) (hf : F1 a = none) (h : H1 a = some (.lst vs)) (ow : OwnAt K F1 H1 v r fx) (na : a ∉ fx) : OwnAt K F1 (upd H1 a (.lst vs')) v r fx :=
  OwnAt.keep (mut_step (.refl s) h) _ _ _ ow fun b hb z => na (by rw [← List.mem_singleton.mp z]; exact hb)
theorem OwnAll.get {F H : Hp} : ∀ {os : List Ow} {vs : List V} {fp : List Addr} {k : Nat} {o : Ow}, OwnAll K F H vs os fp → fp.Nodup → os[k]? = some o → ∃ (v : V) (fo fr : List Addr), vs[k]? = some v ∧ OwnAt K F H v o fo ∧ fo.Nodup ∧ fr.Nodup ∧ (∀ b ∈ fo, b ∈ fp) ∧ (∀ b ∈ fr, b ∈ fp) ∧ (∀ b ∈ fo, b ∉ fr) ∧
    ∀ F' H' fx fy v' o' fn, StepS F H fx F' H' fy → (∀ b ∈ fr, b ∉ fx) → OwnAt K F' H' v' o' fn → fn.Nodup → (∀ b ∈ fn, b ∉ fr) → ∃ fp', OwnAll K F' H' (vs.set k v') (os.set k o') fp' ∧ fp'.Nodup ∧ ∀ b ∈ fp', b ∈ fn ∨ b ∈ fr
  | [], _, _, k, o, h, nd, e => by simp at e
  | x :: os, _, _, 0, o, h, nd, e => by
    cases h with
    | @cons v vs _ _ f1 fs h1 h2 =>
      simp at e; subst e
      obtain ⟨n1, n2, n3⟩ := List.nodup_append.mp nd
      refine ⟨v, f1, fs, rfl, h1, n1, n2, fun b z => List.mem_append_left _ z, fun b z => List.mem_append_right _ z, fun b z q => n3 b z b q rfl, fun F' H' fx fy v' o' fn st dj ow nf df => ?_⟩
      refine ⟨fn ++ fs, .cons ow (OwnAll.keep st _ _ _ h2 dj), ?_, fun b hb => List.mem_append.mp hb⟩
      rw [List.nodup_append]
      exact ⟨nf, n2, fun a ha b hb e => df a ha (e ▸ hb)⟩
  | x :: os, _, _, k + 1, o, h, nd, e => by
    cases h with
    | @cons v vs _ _ f1 fs h1 h2 =>
      obtain ⟨n1, n2, n3⟩ := List.nodup_append.mp nd
      obtain ⟨v0, fo, fr, g1, g2, g3, g4, g5, g6, g7, g8⟩ := OwnAll.get (k := k) h2 n2 (by simpa using e)
      refine ⟨v0, fo, f1 ++ fr, by simpa using g1, g2, g3, ?_, fun b z => List.mem_append_right _ (g5 b z), fun b z => ?_, fun b z q => ?_, fun F' H' fx fy v' o' fn st dj ow nf df => ?_⟩
      · rw [List.nodup_append]; exact ⟨n1, g4, fun a ha b hb e => n3 a ha b (g6 b hb) e⟩
      · exact (List.mem_append.mp z).elim (List.mem_append_left _) fun z => List.mem_append_right _ (g6 b z)
      · rcases List.mem_append.mp q with q | q
        · exact n3 b q b (g5 b z) rfl
        · exact g7 b z q
      · obtain ⟨fp', c1, c2, c3⟩ := g8 F' H' fx fy v' o' fn st (fun b hb => dj b (List.mem_append_right _ hb)) ow nf fun b hb z => df b hb (List.mem_append_right _ z)
        refine ⟨f1 ++ fp', .cons (OwnAt.keep st _ _ _ h1 fun b hb => dj b (List.mem_append_left _ hb)) c1, ?_, fun b hb => ?_⟩
        · rw [List.nodup_append]
          refine ⟨n1, c2, fun a ha b hb e => ?_⟩
          subst e
          rcases c3 a hb with z | z
          · exact df a z (List.mem_append_left _ ha)
          · exact n3 a ha a (g6 a z) rfl
        · rcases List.mem_append.mp hb with z | z
          · exact .inr (List.mem_append_left _ z)
          · exact (c3 b z).imp id (List.mem_append_right _)
end
section
variable {X : Cx} {W : WX} {S : Nat → Bool} {e e1 e2 : Expr} {pos cpos apos npos : Pos} {x : Str}
def ownL (i : Nat) (env : Ev) (k : List Ow → SR) : SR := match env[i]? with
  | some (some (.l os)) => k os
  | _ => .no
theorem ownL_post {σ : L2.St} {F H : Hp} {fp : List Addr} {D : Ends} {i : Nat} {env : Ev} {k : List Ow → SR} (h : PostS X W S σ F H fp D (ownL i env k)) : ∃ os, env[i]? = some (some (.l os)) ∧ PostS X W S σ F H fp D (k os) := by
  unfold ownL at h
  split at h
  · exact ⟨_, ‹_›, h⟩
  · exact h.elim
/-- x.append(e) -/
def sApp (i : Nat) (f : Ev → R Ow) (env : Ev) : SR := ownL i env fun os => (f env).st env fun r => if os.length < sizeLine then .nx (env.set i (some (.l (os ++ [r])))) else .no
theorem ds_app {f : Ev → R Ow} (i : Nat) (he : DE X W e f) (hN : X.N[i]? = some x := by rfl) (hv : Vis X.env.scope x := by first | exact Or.inl rfl | exact Or.inr (Or.inl rfl) | exact Or.inr (Or.inr rfl)) (hd : (x == ("__debug__" : Str)) = false := by decide) (hcd : (x == ("__classdict__" : Str)) = false := by decide)
    (hbase : attributeBase (.Name x npos) "append" X.env (eval (.Name x npos) X.env) = eval (.Name x npos) X.env := by rfl)
    (hfew : ((backTo cpos (starEach [e] X.env)).all (fun x => !x.1) && (backToKw cpos (keywordEach [] X.env)).all (fun x => x.1.isSome) && decide ([e].length + ([] : List Keyword).length + (if ([] : List Keyword).isEmpty then 0 else 1) < 30)) = true := by rfl)
    (hline : (apos.endLine == cpos.line) = true := by rfl) (hs : starEach [e] X.env = (false, eval e X.env) :: starEach [] X.env := by rfl) (hplain : (backTo cpos (starEach [] X.env)).any (·.1) = false := by rfl)
    (hsw : swapsWith (.Call (.Attribute (.Name x npos) "append" apos) [e] [] cpos) none pos.line X.env = pure false := by rfl) : DS X W S (.Expr (.Call (.Attribute (.Name x npos) "append" apos) [e] [] cpos) pos) (sApp i f) := by
  obtain ⟨t, p, s⟩ := he
  refine ⟨_, ps_expr (pe_bm PySem.F.plainAttrs_list PySem.F.slot_list_append PySem.F.type_list_append mt_append (pe_var hN hv hd hcd) (pa_cons p pa_nil hs) hbase hfew hline hs hplain) hsw, fun F H σ env fp D sat h => ?_⟩
  obtain ⟨os, eo, h⟩ := ownL_post h
  obtain ⟨a, vs, fo, c1, c0, c2, c3, c4, c5, c6, c7⟩ := sat.mut eo
  refine ⟨.ref a, c1, .inl ⟨rfl, vs, SqL.of c2⟩, ?_⟩
  refine s F H σ env fp _ sat ?_
  cases ef : f env with
  | no => rw [ef] at h; exact h
  | ex c => rw [ef] at h; exact fun C F' H' m x => h C σ F' H' fp m (.refl _ _) (StepS.of_ext x fp) (sat.ext x)
  | ok r =>
    rw [ef] at h
    intro v F1 H1 x1 ⟨fx, ow, nx, fr⟩
    have h2 : PostS X W S σ F H fp D (if os.length < sizeLine then .nx (env.set i (some (.l (os ++ [r])))) else .no) := h
    split at h2
    · have la := OwnAll.len c3
      have hb := x1.hh _ _ c2
      obtain ⟨fo', g1, g2, g3⟩ := OwnAll.snoc (own_mut (vs' := vs ++ [v]) x1 c2 c3 c5) (own_mut1 x1.fh (mut_free x1 c0 c2) hb ow fun z => by rw [fr a z] at c2; cases c2) c4 nx fun b hb z => by
        obtain ⟨_, w, e⟩ := OwnAll.there _ _ _ c3 b z
        rw [fr b hb] at e; cases e
      obtain ⟨fp', st, sat'⟩ := c7 F1 H1 (vs ++ [v]) (os ++ [r]) fo' x1 g1 g2 fun b hb => (g3 b hb).imp id (fr b)
      exact ⟨a, vs, v, rfl, rfl, hb, by omega, h2 σ F1 _ fp' (.refl _ _) st sat'⟩
    · exact h2.elim
def asL : D → R (List D)
  | .list ds => .ok ds
  | _ => .no
@[simp] theorem asL_list (ds : List D) : asL (.list ds) = .ok ds := rfl
def sExt (i : Nat) (f : Ev → R D) (env : Ev) : SR := ownL i env fun os => (f env).st env fun d => (asL d).st env fun ds => if os.length + ds.length ≤ sizeLine then .nx (env.set i (some (.l (os ++ ds.map Ow.d)))) else .no
/-- x[k] = e -/
def putAt (i : Nat) (env : Ev) (os : List Ow) (r : Ow) : D → SR
  | .int k => match ixN os.length k with
    | some j => .nx (env.set i (some (.l (os.set j r))))
    | none => .no
  | _ => .no
def sPut (i : Nat) (f : Ev → R Ow) (g : Ev → R D) (env : Ev) : SR := (f env).st env fun r => ownL i env fun os => (g env).st env (putAt i env os r)
theorem OwnAll.set {K : PySem.W.Frag} {F H : Hp} {os : List Ow} {vs : List V} {fp : List Addr} {j : Nat} {v : V} {r : Ow} {fx : List Addr} (s : Same F H) (h : OwnAll K F H vs os fp) (nd : fp.Nodup) (hj : j < os.length) (ow : OwnAt K F H v r fx) (nx : fx.Nodup) (dj : ∀ b ∈ fx, b ∉ fp) :
    ∃ fp', OwnAll K F H (vs.set j v) (os.set j r) fp' ∧ fp'.Nodup ∧ ∀ b ∈ fp', b ∈ fp ∨ b ∈ fx := by
  obtain ⟨v0, fo, fr, g1, g2, g3, g4, g5, g6, g7, g8⟩ := OwnAll.get (k := j) h nd (List.getElem?_eq_getElem hj)
  obtain ⟨fp', a, b, c⟩ := g8 F H [] [] v r fx (StepS.of_ext (.refl s) []) (fun _ _ => by simp) ow nx fun b hb z => dj b hb (g6 b z)
  exact ⟨fp', a, b, fun b hb => (c b hb).elim .inr fun z => .inl (g6 b z)⟩
end
end Mir
end
set_option Elab.async false
set_option linter.all false
set_option maxRecDepth 100000
set_option maxHeartbeats 4000000
noncomputable section
namespace Mir
open PySem PySem.Spec L2

def PAs (K : PySem.W.Frag) (_ : Hp) (r : Ow) (v : V) (F' H' : Hp) : Prop := ∃ fp, OwnAt K F' H' v r fp
instance {K : PySem.W.Frag} : Anti (PAs K) := ⟨fun _ h => h⟩
def DP (X : Cx) (W : WX) (e : Expr) (f : Ev → R Ow) : Prop := ∃ t, PE X e t ∧ Sm X W (PAs X.K) t f
section
variable {X : Cx} {W : WX} {S : Nat → Bool} {e a b : Expr} {pos cpos apos npos : Pos} {x : Str}
theorem dp_var (i : Nat) {x : Str} (hN : X.N[i]? = some x := by rfl) (hv : Vis X.env.scope x := by first | exact Or.inl rfl | exact Or.inr (Or.inl rfl) | exact Or.inr (Or.inr rfl)) (hd : (x == ("__debug__" : Str)) = false := by decide)
    (hcd : (x == ("__classdict__" : Str)) = false := by decide) : DP X W (.Name x pos) (eVarO i) := by
  refine ⟨_, pe_var hN hv hd hcd, fun F H σ env fp Q sat h => ?_⟩
  have h' : Post X W (PAs X.K) F H σ ((eVarO i env).bind fun o => .ok o) Q := by
    cases e : eVarO i env <;> rw [e] at h <;> exact h
  obtain ⟨o, he, _, h2⟩ := eVarO_ok h'
  obtain ⟨v, fo, h1, h3, _⟩ := sat.en.get he
  exact ⟨v, h1, h2 v F H (.refl sat.fh) ⟨fo, h3⟩⟩
def ixO : Ow → D → R Ow
  | .l os, .int k => match atI os k with
    | some o => .ok o
    | none => .no
  | _, _ => .no
def eIxO (f : Ev → R Ow) (g : Ev → R D) (env : Ev) : R Ow := (f env).bind fun o => (g env).bind fun d => ixO o d
theorem OwnAll.at {K : PySem.W.Frag} {F H : Hp} {os : List Ow} {vs : List V} {fp : List Addr} {k : Int} {o : Ow} (h : OwnAll K F H vs os fp) (e : atI os k = some o) : ∃ v fo, atI vs k = some v ∧ OwnAt K F H v o fo := by
  have hl := OwnAll.len h
  unfold atI at e ⊢
  rw [hl]
  cases hj : ixN os.length k with
  | none => rw [hj] at e; cases e
  | some j =>
    rw [hj] at e
    have e : os[j]? = some o := e
    have : ∀ {os : List Ow} {vs : List V} {fp : List Addr} {j : Nat}, OwnAll K F H vs os fp → os[j]? = some o → ∃ v fo, vs[j]? = some v ∧ OwnAt K F H v o fo := by
      intro os
      induction os with
      | nil => intro vs fp j h e; simp at e
      | cons q os ih =>
        intro vs fp j h e
        cases h with
        | cons h1 h2 =>
          cases j with
          | zero => simp at e; subst e; exact ⟨_, _, rfl, h1⟩
          | succ j =>
            obtain ⟨v, fo, a, b⟩ := ih h2 (by simpa using e)
            exact ⟨v, fo, by simpa using a, b⟩
    exact this h e
theorem dp_ix {f : Ev → R Ow} {g : Ev → R D} (ha : DP X W a f) (hb : DV X W b g) (hs : PlainIx b := by exact fun _ _ => rfl) : DP X W (.Subscript a b pos) (eIxO f g) := by
  obtain ⟨ta, pa, sa⟩ := ha
  obtain ⟨tb, pb, sb⟩ := hb
  refine ⟨_, pe_ix ix_list pa pb hs, fun F H σ env fp Q sat h => ?_⟩
  unfold eIxO at h
  refine sa.go sat h fun o v F1 H1 sat1 q _ h1 => ?_
  refine sb.go sat1 h1 fun d u F2 H2 sat2 q2 x2 h2 => ?_
  unfold ixO at h2
  split at h2
  · rename_i os k
    split at h2
    · rename_i o' he
      obtain ⟨fo, ow⟩ := q
      cases dp_int q2
      cases ow with
      | l m1 m2 m3 =>
        obtain ⟨w, fw, e1, e2⟩ := OwnAll.at m3 he
        exact ⟨_, _, _, _, rfl, rfl, SqL.of (x2.hh _ _ m2), e1, h2 w F2 H2 (.refl sat2.fh) ⟨fw, e2.ext x2⟩⟩
    · exact h2.elim
  · exact h2.elim
theorem dl_dp {f : Ev → R Ow} (h : DP X W e f) : DL X W e (eB f shD) := by
  obtain ⟨t, p, s⟩ := h
  refine ⟨t, p, fun F H σ env fp Q sat h => s F H σ env fp Q sat (Post.thru h fun d _ h' v F' H' x ⟨fp, q⟩ => ?_)⟩
  obtain ⟨r, e2⟩ := shD_ok h'
  rw [e2] at h'
  exact h' v F' H' x (own_seq x.fh q e2)
theorem dv_dp {f : Ev → R Ow} (h : DP X W e f) : DV X W e (eM f viewD) := by
  obtain ⟨t, p, s⟩ := h
  refine ⟨t, p, Sm.map s fun H o v F' H' sm ⟨fp, q⟩ => ⟨viewD o, rfl, OwnAt.view sm o v fp q⟩⟩

def repO : Ow → D → R Ow
  | .l os, .int k => match unDs os with
    | some ds => guard (-(2 ^ 63) ≤ k ∧ k < 2 ^ 63 ∧ os.length * k.toNat ≤ sizeLine) (.ok (.l ((List.replicate k.toNat ds).flatten.map Ow.d)))
    | none => .no
  | _, _ => .no
def eRep (f : Ev → R Ow) (g : Ev → R D) (env : Ev) : R Ow := (f env).bind fun o => (g env).bind fun d => repO o d
def eAug (h : D → D → Option D) (i : Nat) (f : Ev → R D) (env : Ev) : R D := (eVar i env).bind fun x => (f env).bind fun y => R.of (h x y)
def sAug (h : D → D → Option D) (i : Nat) (f : Ev → R D) (env : Ev) : SR := (eAug h i f env).st env fun d => if i < env.length then .nx (env.set i (some (.d d))) else .no
end
end Mir
end
set_option Elab.async false
set_option linter.all false
set_option maxRecDepth 100000
set_option maxHeartbeats 4000000
noncomputable section
namespace Mir
open PySem PySem.Spec L2

section
variable {K : PySem.W.Frag} {F H : Hp} {σ : L2.St} {env : Ev} {fp : List Addr}
theorem set_selfV {vs : List V} {j : Nat} {v : V} (h : vs[j]? = some v) : vs.set j v = vs := by
  refine List.ext_getElem? fun k => ?_
  by_cases hk : j = k
  · subst hk
    rw [List.getElem?_set_self (List.getElem?_eq_some_iff.mp h).1]
    exact h.symm
  · rw [List.getElem?_set_ne hk]
theorem Sat.mut1 (sat : Sat K F H σ env fp) {i j : Nat} {os os1 : List Ow} (hi : env[i]? = some (some (.l os))) (hj : os[j]? = some (.l os1)) : ∃ a0 vs0 a vs fo, σ[i]? = some (some (.ref a0)) ∧ H a0 = some (.lst vs0) ∧ vs0.length = os.length ∧ vs0[j]? = some (.ref a) ∧ F a = none ∧ H a = some (.lst vs) ∧ OwnAll K F H vs os1 fo ∧ fo.Nodup ∧ a ∉ fo ∧
    ∀ F1 H1 vs' os' fo', Ext F H F1 H1 → OwnAll K F1 (upd H1 a (.lst vs')) vs' os' fo' → fo'.Nodup → (∀ b ∈ fo', b ∈ fo ∨ H b = none) → ∃ fp', StepS F H fp F1 (upd H1 a (.lst vs')) fp' ∧ Sat K F1 (upd H1 a (.lst vs')) σ (env.set i (some (.l (os.set j (.l os'))))) fp' := by
  have hl : i < env.length := (List.getElem?_eq_some_iff.mp hi).1
  obtain ⟨fr, fo0, a1, a2, a3, a3', a4, a5, a6⟩ := sat.en.put hl sat.nd
  obtain ⟨v, e1, e2⟩ := a5 _ hi
  cases e2 with
  | @l a0 vs0 _ fI h1 h2 h3 =>
    obtain ⟨nd1, nd2⟩ := List.nodup_cons.mp a3'
    obtain ⟨vj, fo1, fr1, g1, g2, g3, g4, g5, g6, g7, g8⟩ := OwnAll.get h3 nd2 hj
    cases g2 with
    | @l a vs _ fo m1 m2 m3 =>
      obtain ⟨nd3, nd4⟩ := List.nodup_cons.mp g3
      refine ⟨a0, vs0, a, vs, fo, e1, h2, OwnAll.len h3, g1, m1, m2, m3, nd4, nd3, fun F1 H1 vs' os' fo' x ow nd sub => ?_⟩
      have hf1 := mut_free x m1 m2
      have na' : a ∉ fo' := fun z => by
        rcases sub a z with q | q
        · exact nd3 q
        · rw [m2] at q; cases q
      have fresh : ∀ b, H b = none → b ∉ fr := fun b q z => by
        obtain ⟨_, w, e⟩ := sat.en.there b (a1 b z)
        rw [q] at e; cases e
      have fresh1 : ∀ b, H b = none → b ∉ fr1 := fun b q z => by
        obtain ⟨_, w, e⟩ := OwnAll.there _ _ _ h3 b (g6 b z)
        rw [q] at e; cases e
      have st := mut_step (vs' := vs') x m2
      obtain ⟨f1, k1, k2, k3⟩ := g8 F1 (upd H1 a (.lst vs')) [a] [] (.ref a) (.l os') (a :: fo') st (fun b hb z => g7 b (by rw [List.mem_singleton.mp z]; exact List.mem_cons_self) hb) (.l hf1 upd_same ow) (List.nodup_cons.mpr ⟨na', nd⟩) fun b hb z => by
        rcases List.mem_cons.mp hb with q | q
        · subst q; exact g7 b List.mem_cons_self z
        · rcases sub b q with q | q
          · exact g7 b (List.mem_cons_of_mem _ q) z
          · exact fresh1 b q z
      rw [set_selfV g1] at k1
      have sub1 : ∀ b ∈ f1, b ∈ fI ∨ H b = none := fun b hb => by
        rcases k3 b hb with q | q
        · rcases List.mem_cons.mp q with q | q
          · subst q; exact .inl (g5 b List.mem_cons_self)
          · exact (sub b q).imp (fun z => g5 b (List.mem_cons_of_mem _ z)) id
        · exact .inl (g6 b q)
      have ne : a ≠ a0 := fun e => nd1 (e ▸ g5 a List.mem_cons_self)
      have hf0 : F1 a0 = none := mut_free x h1 h2
      have n0 : a0 ∉ f1 := fun z => by
        rcases sub1 a0 z with q | q
        · exact nd1 q
        · rw [h2] at q; cases q
      have aIn : a ∈ a0 :: fI := List.mem_cons_of_mem _ (g5 a List.mem_cons_self)
      obtain ⟨fp', b1, b2, b3⟩ := (a6 F1 (upd H1 a (.lst vs')) [a] [] st fun b hb z => a4 b (by rw [List.mem_singleton.mp z]; exact aIn) hb).2 (.ref a0) (.l (os.set j (.l os'))) (a0 :: f1) (.l hf0 ((upd_ne (Ne.symm ne)).trans (x.hh _ _ h2)) k1) (List.nodup_cons.mpr ⟨n0, k2⟩) fun b hb z => by
        rcases List.mem_cons.mp hb with q | q
        · subst q; exact a4 b List.mem_cons_self z
        · rcases sub1 b q with q | q
          · exact a4 b (List.mem_cons_of_mem _ q) z
          · exact fresh b q z
      rw [set_self e1] at b3
      refine ⟨fp', (st.mono (fun b hb => by rw [List.mem_singleton.mp hb]; exact a2 a aIn)) |> fun s => ⟨s.ff, s.fr, s.fn, fun b hb => ?_⟩, mut_same x.fh hf1, b3, b1⟩
      rcases b2 b hb with q | q
      · rcases List.mem_cons.mp q with q | q
        · rw [q]; exact .inl (a2 a0 List.mem_cons_self)
        · exact (sub1 b q).imp (fun z => a2 b (List.mem_cons_of_mem _ z)) id
      · exact .inl (a1 b q)
end
section
variable {X : Cx} {W : WX} {S : Nat → Bool} {e k : Expr} {pos cpos apos npos tpos : Pos} {x : Str}
/-- x[k].m(args) at an own list of own lists: the item's place, and how it is changed -/
def own1 (i : Nat) (g : Ev → R D) (env : Ev) (c : List Ow → Nat → List Ow → SR) : SR := ownL i env fun os => (g env).st env fun d => match d with
  | .int k => match ixN os.length k with
    | some j => match os[j]? with
      | some (.l os1) => c os j os1
      | _ => .no
    | none => .no
  | _ => .no
def sApp1 (i : Nat) (g : Ev → R D) (f : Ev → R Ow) (env : Ev) : SR := own1 i g env fun os j os1 => (f env).st env fun r => if os1.length < sizeLine then .nx (env.set i (some (.l (os.set j (.l (os1 ++ [r])))))) else .no
/-- the base x[k] read: the rest is asked of the inner list -/
theorem own1_go {σ : L2.St} {F H : Hp} {fp : List Addr} {DD : Ends} {i : Nat} {env : Ev} {g : Ev → R D} {t : TE} {c : List Ow → Nat → List Ow → SR} {T : VK} (s : Sm X W (PVw X.K) t g) (sat : Sat X.K F H σ env fp) (h : PostS X W S σ F H fp DD (own1 i g env c))
    (q : ∀ os j os1 a F1 H1, env[i]? = some (some (.l os)) → os[j]? = some (.l os1) → Sat X.K F1 H1 σ env fp → (∃ a0 vs0, σ[i]? = some (some (.ref a0)) ∧ H1 a0 = some (.lst vs0) ∧ vs0[j]? = some (.ref a)) → PostS X W S σ F1 H1 fp DD (c os j os1) → T (.ref a) H1) : tOp (rIxL X.K) (tVar i) t σ H T := by
  obtain ⟨os, eo, h1⟩ := ownL_post h
  obtain ⟨v, fo, e1, e2, _⟩ := sat.en.get eo
  refine ⟨v, e1, ?_⟩
  cases e2 with
  | @l a0 vs0 _ f0 m1 m2 m3 =>
  refine s.st sat h1 fun d u F1 H1 sat1 q1 x1 h2 => ?_
  cases d with
  | int k =>
    cases dp_int q1
    cases hj : ixN os.length k with
    | none => simp only [hj] at h2; exact h2.elim
    | some j =>
      simp only [hj] at h2
      cases ho : os[j]? with
      | none => simp only [ho] at h2; exact h2.elim
      | some o =>
        cases o with
        | d _ => simp only [ho] at h2; exact h2.elim
        | m _ => simp only [ho] at h2; exact h2.elim
        | l os1 =>
          simp only [ho] at h2
          obtain ⟨a0', vs0', a, vs, fo', b1, b2, b3, b4, _⟩ := sat1.mut1 eo ho
          rw [e1] at b1
          cases b1
          have b2' := (x1.hh _ _ m2).symm.trans b2
          cases b2'
          refine ⟨_, _, _, _, rfl, rfl, SqL.of b2, ?_, q os j os1 a F1 H1 eo ho sat1 ⟨_, _, e1, b2, b4⟩ h2⟩
          unfold atI
          rw [b3, hj]
          exact b4
  | _ => exact h2.elim
theorem ds_app1 {g : Ev → R D} {f : Ev → R Ow} (i : Nat) (hk : DV X W k g) (he : DE X W e f) (hN : X.N[i]? = some x := by rfl) (hv : Vis X.env.scope x := by first | exact Or.inl rfl | exact Or.inr (Or.inl rfl) | exact Or.inr (Or.inr rfl)) (hd : (x == ("__debug__" : Str)) = false := by decide) (hcd : (x == ("__classdict__" : Str)) = false := by decide)
    (hs : PlainIx k := by exact fun _ _ => rfl)
    (hbase : attributeBase (.Subscript (.Name x npos) k tpos) "append" X.env (eval (.Subscript (.Name x npos) k tpos) X.env) = eval (.Subscript (.Name x npos) k tpos) X.env := by rfl)
    (hfew : ((backTo cpos (starEach [e] X.env)).all (fun x => !x.1) && (backToKw cpos (keywordEach [] X.env)).all (fun x => x.1.isSome) && decide ([e].length + ([] : List Keyword).length + (if ([] : List Keyword).isEmpty then 0 else 1) < 30)) = true := by rfl)
    (hline : (apos.endLine == cpos.line) = true := by rfl) (hst : starEach [e] X.env = (false, eval e X.env) :: starEach [] X.env := by rfl) (hplain : (backTo cpos (starEach [] X.env)).any (·.1) = false := by rfl)
    (hsw : swapsWith (.Call (.Attribute (.Subscript (.Name x npos) k tpos) "append" apos) [e] [] cpos) none pos.line X.env = pure false := by rfl) : DS X W S (.Expr (.Call (.Attribute (.Subscript (.Name x npos) k tpos) "append" apos) [e] [] cpos) pos) (sApp1 i g f) := by
  obtain ⟨t, p, s⟩ := he
  obtain ⟨t', p', s'⟩ := hk
  refine ⟨_, ps_expr (pe_bm PySem.F.plainAttrs_list PySem.F.slot_list_append PySem.F.type_list_append mt_append (pe_ix ix_list (pe_var hN hv hd hcd) p' hs) (pa_cons p pa_nil hst) hbase hfew hline hst hplain) hsw, fun F H σ env fp D sat h => ?_⟩
  refine own1_go s' sat h fun os j os1 a F1 H1 eo ho sat1 ⟨z0, zs, w1, w2, w3⟩ h2 => ?_
  obtain ⟨a0, vs0, a', vs, fo, c1, c2, c3, c4, c5, c6, c7, c8, c9, c10⟩ := sat1.mut1 eo ho
  rw [w1] at c1; cases c1
  rw [w2] at c2; cases c2
  rw [w3] at c4; cases c4
  refine ⟨.inl ⟨rfl, vs, SqL.of c6⟩, ?_⟩
  refine s F1 H1 σ env fp _ sat1 ?_
  cases ef : f env with
  | no => rw [ef] at h2; exact h2
  | ex c => rw [ef] at h2; exact fun C F' H' m x => h2 C σ F' H' fp m (.refl _ _) (StepS.of_ext x fp) (sat1.ext x)
  | ok r =>
    rw [ef] at h2
    intro v F2 H2 x2 ⟨fx, ow, nx, fr⟩
    simp only [R.st_ok] at h2
    split at h2
    · have hb := x2.hh _ _ c6
      have la := OwnAll.len c7
      obtain ⟨fo', g1, g2, g3⟩ := OwnAll.snoc (own_mut (vs' := vs ++ [v]) x2 c6 c7 c9) (own_mut1 x2.fh (mut_free x2 c5 c6) hb ow fun z => by rw [fr a z] at c6; cases c6) c8 nx fun b hb z => by
        obtain ⟨_, w, e⟩ := OwnAll.there _ _ _ c7 b z
        rw [fr b hb] at e; cases e
      obtain ⟨fp', st, sat'⟩ := c10 F2 H2 _ _ fo' x2 g1 g2 fun b hb => (g3 b hb).imp id (fr b)
      exact ⟨a, vs, v, rfl, rfl, hb, by omega, h2 σ F2 _ fp' (.refl _ _) st sat'⟩
    · exact h2.elim

theorem ds_setLc {elt tg iter : Expr} {ifs : List Expr} {scope : Scope} {own : List (Str × Nat)} {g : D → Ev → Option Ev} {fi : Ev → R (List D)} {fc : Ev → R Bool} {fe : Ev → R Ow} {ix : List Nat} {y : Str} {py spos : Pos} (i : Nat) (hc : X.calm = true) (hN : X.N.Nodup) (hi : DI X W tg iter fi) (ok : BlkOk X.N X.env.scope scope own)
    (hg : ∀ (s : Shared) (H : Hp) (C : Addr) (cl : List (Str × Addr)) (fp : List Addr), DG (X.blk s H scope (compEnvC scope cl C X.env) fp) tg ix g) (ht : ∀ (s : Shared) (H : Hp) (C : Addr) (cl : List (Str × Addr)) (fp : List Addr), DTs (X.blk s H scope (compEnvC scope cl C X.env) fp) W0 ifs fc)
    (he : ∀ (s : Shared) (H : Hp) (C : Addr) (cl : List (Str × Addr)) (fp : List Addr), DE (X.blk s H scope (compEnvC scope cl C X.env) fp) W0 elt fe) (hix : ∀ i ∈ ix, i ∈ own.map (·.2) := by decide) (hs : ∀ x, foldedSetIterable iter X.env x = pure x := by intro _; rfl)
    (hy : X.N[i]? = some y := by rfl) (hyl : X.env.scope.names.lookup y = some .local := by rfl) (hsw : swapsWith (.ListComp elt [⟨tg, iter, ifs, 0⟩] scope pos) (some (.Name y py)) spos.line X.env = pure true := by exact sw_true rfl rfl rfl (by decide +kernel)) (hS : S i = true := by rfl) :
    DS X W S (.Assign [.Name y py] (.ListComp elt [⟨tg, iter, ifs, 0⟩] scope pos) spos) (sSet i (eLc fi g fc fe (own.map (·.2)))) := by
  obtain ⟨wi, pi, si⟩ := hi
  refine ⟨_, ps_setLc (g := tgOf X.K ix g) (tt := tOf X.K (Post X W0 PTb) fc) (te := tOf X.K (Post X W0 (POw X.K)) fe) hc hN hy hyl hsw pi ok (fun s H C cl fp => hg s H C cl fp) (fun s H C cl fp => (ht s H C cl fp).can) (fun s H C cl fp => (he s H C cl fp).can) hs, fun F H σ env fp D sat h => ?_⟩
  refine de_lc_core si hix F H σ env fp _ sat ?_
  unfold sSet at h
  cases e : eLc fi g fc fe (own.map (·.2)) env with
  | no => rw [e] at h; exact h
  | ex c => rw [e] at h; exact fun C F' H' m x => h C σ F' H' fp m (.refl _ _) (StepS.of_ext x fp) (sat.ext x)
  | ok r =>
    rw [e] at h
    intro v F' H' x ⟨fx, q, nd, n⟩
    have h' : PostS X W S σ F H fp D (if i < env.length then .nx (env.set i (some r)) else .no) := h
    split at h'
    · obtain ⟨fp', s1, s2⟩ := put_step sat x q nd n ‹_›
      exact h' _ F' H' fp' (.set hS _) s1 s2
    · exact h'.elim
end
end Mir
end
set_option Elab.async false
set_option linter.all false
set_option maxRecDepth 100000
set_option maxHeartbeats 4000000
noncomputable section
namespace Mir
open PySem PySem.Spec PySem.W PySem.Calls PyProof.Rows PySem.SeqAt

section
variable {prog : Program} {w : World} {A : Around} {E : Value → Shared → Prop} {s : Shared}
theorem call_tuple_lt {Q : Value → Shared → Prop} {l b : Addr} {items items2 : Array Value} {e r : Nat → Bool} (hl : s.heap.IsTuple l items) (hb : s.heap.IsTuple b items2)
    (he : ∀ j (h1 : j < items.size) (h2 : j < items2.size), SeqAt.EqAt A.in1 s items[j] items2[j] (e j)) (hr : ∀ j (h1 : j < items.size) (h2 : j < items2.size), e j = false → RcLt A.in1 s items[j] items2[j] (r j))
    (h : Q (.bool (firstLt e r (decide (items.size < items2.size)) (List.range (min items.size items2.size)))) s) : wpAny (model prog w) A (call (.builtin "tuple.__lt__") [.ref l, .ref b]) Q E s := by
  obtain ⟨⟨cls, dd, data, sl⟩, ho, hc, n, hd⟩ := id hl
  obtain ⟨⟨cls2, dd2, data2, sl2⟩, ho2, hc2, n2, hd2⟩ := id hb
  simp only at hc hd hc2 hd2
  subst hc hd hc2 hd2
  exact call_meets F.slot_tuple_lt ⟨_, ho, rfl⟩ F.entry_tuple_lt (F.args_tuple_lt_2 _ _) (tuple_ltAt l b items items2 n n2 dd dd2 sl sl2 e r)
    ⟨ho, ho2, he, hr, h⟩
theorem oneLt_tuples {xs ys : List PyData} {a b : Value} {as bs : List Addr} {Q : Bool → Shared → Prop} (ra : Reads s.heap a (.tuple xs) as) (rb : Reads s.heap b (.tuple ys) bs) (hal : alikeAll xs ys = true)
    (hu : A.units + min (PyData.tuple xs).depth (PyData.tuple ys).depth < cLine) (hq : Q (dataLt (.tuple xs) (.tuple ys)) s) : wpAny (model prog w) A (oneLt' true a b) Q E s := by
  cases ra with
  | @tuple l o vs n _ as₁ h1 h2 h3 h4 =>
    cases rb with
    | @tuple l' o' vs' n' _ bs₁ k1 k2 k3 k4 =>
      have n1 : vs.size = xs.length := by simpa using SeqAt.ReadsAll.length _ _ _ h4
      have n2 : vs'.size = ys.length := by simpa using SeqAt.ReadsAll.length _ _ _ k4
      rw [dataLt_tuple, ← firstLt_toks xs ys hal, ← n1, ← n2] at hq
      rw [oneLt'_eq]
      simp only [if_true]
      refine wpAny_bind (wpAny_cRoomFor (SeqAt.room_here hu) ?_)
      refine wpAny_bind (wpAny_callSpecialIfBound?_slot (T := "tuple") ⟨_, h1, h2⟩ F.slot_tuple_lt (call_tuple_lt (e := SeqAt.pairEq xs ys) (r := fun j => dataLt (xs.getD j .none) (ys.getD j .none)) ⟨_, h1, h2, _, h3⟩ ⟨_, k1, k2, _, k3⟩ (fun j j1 j2 => ?_) (fun j j1 j2 hj => ?_) ?_))
      · have := eqAt_alikeAll xs ys A.in1 s vs.toList vs'.toList _ _ h4 k4 hal (SeqAt.room_in hu) j (by simpa using j1) (by simpa using j2)
        simpa using this
      · have := rcLt_alikeAll xs ys A.in1 s vs.toList vs'.toList _ _ h4 k4 hal (SeqAt.room_in hu) j (by simpa using j1) (by simpa using j2) hj
        simpa using this
      · exact wpAny_truthy_bool hq
end
section
variable {prog : Program} {w : World} {A : Around} {s : Shared}
def neD : PyData → Bool
  | .tuple [] => false
  | _ => true
theorem firsts_tup {M : Model} : ∀ {vs : List Value} {ds : List PyData}, EachIs (fun v d => ∃ as, Reads s.heap v d as) vs ds → (∀ d, d ∈ ds → ∃ xs, d = .tuple xs) → ∃ fs : List (Option Value), fs.map Option.isSome = ds.map neD ∧ ∀ (A : Around) (E : Value → Shared → Prop) (Q : List (Option Value) → Shared → Prop), Q fs s → wpAny M A (vs.mapM firstOfTuple') Q E s
  | _, _, .nil, _ => ⟨[], rfl, fun A E Q h => by rw [List.mapM_nil]; exact wpAny_pure h⟩
  | _, _, .cons (a := v) (b := d) (as := vs) (bs := ds) ⟨as, r⟩ t, ht => by
    obtain ⟨fs, h1, h2⟩ := firsts_tup (M := M) t fun d hd => ht d (List.mem_cons_of_mem _ hd)
    obtain ⟨xs, rfl⟩ := ht d List.mem_cons_self
    cases r with
    | @tuple a o ys n _ _ ho hc hd hr =>
      refine ⟨ys[0]? :: fs, ?_, fun A E Q h => ?_⟩
      · rw [List.map_cons, List.map_cons, h1]
        congr 1
        cases xs with
        | nil =>
          have e : ys.toList = [] := by cases q : ys.toList with | nil => rfl | cons u us => rw [q] at hr; cases hr
          have e2 : ys[0]? = none := by rw [← Array.getElem?_toList, e]; rfl
          rw [e2]; rfl
        | cons x r =>
          cases q : ys.toList with
          | nil => rw [q] at hr; cases hr
          | cons u us =>
            have e2 : ys[0]? = some u := by rw [← Array.getElem?_toList, q]; rfl
            rw [e2]; rfl
      · rw [List.mapM_cons]
        refine wpAny_bind ?_
        rw [kas_first_eq]
        refine wpAny_bind (Looks.here (show Looks M s.heap (typeOf (.ref a)) o.cls from (Looks.ld ho).andThen .now) ?_)
        rw [hc, if_neg (by first | decide | simp)]
        refine wpAny_bind (listItems_at ho hd (wpAny_pure ?_))
        exact wpAny_bind (h2 A E (fun bs s' => wpAny M A (pure (ys[0]? :: bs)) Q E s') (wpAny_pure h))
/-- tuples that read as alike data can be sorted -/
theorem sortsAt_tuples {vs : List Value} {ds : List PyData} (e : EachIs (fun v d => ∃ as, Reads s.heap v d as) vs ds) (hal : AllAlike ds) (ht : ∀ d, d ∈ ds → ∃ xs, d = .tuple xs) (hu : ∀ d, d ∈ ds → A.units + d.depth < cLine) : SortsAt prog w A s (dataKind s.heap ds) vs := by
  by_cases hne : ∀ d, d ∈ ds → ∃ x r, d = .tuple (x :: r)
  · exact SortsAt.data e hal (.inl hne) hu
  have room : ∀ {d d' : PyData}, d ∈ ds → A.units + min d.depth d'.depth < cLine := fun {d d'} hd => Nat.lt_of_le_of_lt (Nat.add_le_add_left (Nat.min_le_left _ _) _) (hu d hd)
  obtain ⟨fs, h1, h2⟩ := firsts_tup (M := model prog w) e ht
  have hnall : (fs.toArray.all fun x => x.isSome) = false := by
    rw [List.all_toArray, Bool.eq_false_iff]
    intro hall
    refine hne fun d hd => ?_
    obtain ⟨xs, rfl⟩ := ht d hd
    cases xs with
    | cons x r => exact ⟨x, r, rfl⟩
    | nil =>
      have : neD (.tuple []) ∈ ds.map neD := List.mem_map_of_mem hd
      rw [← h1] at this
      obtain ⟨f, f1, f2⟩ := List.mem_map.mp this
      have := List.all_eq_true.mp hall f f1
      rw [f2] at this
      cases this
  have hkeys : ∀ v, v ∈ vs → ∃ a, (dataKind s.heap ds).keyOf v = some a := fun v hv => by
    obtain ⟨d, hd, as, r⟩ := e.left v hv
    exact ⟨_, dataKind_some hal hd r⟩
  have hty : ∀ v ∈ vs, Looks (model prog w) s.heap (typeOf v) (.type "tuple") := fun v hv => by
    obtain ⟨d, hd, as, r⟩ := e.left v hv
    obtain ⟨xs, rfl⟩ := ht d hd
    exact looks_reads r
  by_cases hf : ((fs.toArray)[0]?.bind id).isSome = true
  · refine ⟨hkeys, general', ?_, fun h2' E Q hq => ?_⟩
    · intro E x y a b Q ha hb hq
      obtain ⟨d, as, hd, ra, rfl⟩ := dataKind_inv ha
      obtain ⟨d', as', hd', rb, rfl⟩ := dataKind_inv hb
      obtain ⟨xs, rfl⟩ := ht d hd
      show wpAny (model prog w) A (oneLt' false x y) Q E s
      exact oneLt_alike (fun z => by cases z) ra rb (hal _ hd d' hd') (by intro z; cases z) (room hd) hq
    · rw [kat_kind_eq, List.mapM_toArray, map_eq_pure_bind]
      refine wpAny_bind (wpAny_bind (h2 A E _ (wpAny_pure ?_)))
      rw [if_neg (by rw [hnall]; exact Bool.false_ne_true), if_pos hf]
      exact wpAny_pure hq
  · refine ⟨hkeys, oneType', ?_, fun h2' E Q hq => ?_⟩
    · intro E x y a b Q ha hb hq
      obtain ⟨d, as, hd, ra, rfl⟩ := dataKind_inv ha
      obtain ⟨d', as', hd', rb, rfl⟩ := dataKind_inv hb
      have hdd := hal d hd d' hd'
      have hroom := room (d' := d') hd
      obtain ⟨xs, rfl⟩ := ht d hd
      obtain ⟨ys, rfl⟩ := ht d' hd'
      rw [keyLt'_oneType]
      exact oneLt_tuples ra rb (by simpa [alike] using hdd) hroom hq
    · rw [kat_kind_eq, List.mapM_toArray, map_eq_pure_bind]
      refine wpAny_bind (wpAny_bind (h2 A E _ (wpAny_pure ?_)))
      rw [if_neg (by rw [hnall]; exact Bool.false_ne_true), if_neg hf]
      rw [oneTypeOnly'_eq, List.mapM_toArray, map_eq_pure_bind]
      refine wpAny_bind (wpAny_bind (wpAny_bind (kas_mapM (r := Value.type "tuple") _ (fun v hv Q' hq => (hty v hv).here hq) (wpAny_pure ?_))))
      obtain ⟨v0, vr, rfl⟩ : ∃ v0 vr, vs = v0 :: vr := by
        match vs, h2' with
        | [], h2 => simp at h2
        | v :: r, _ => exact ⟨v, r, rfl⟩
      have hall : ((List.map (fun _ => Value.type "tuple") (v0 :: vr)).toArray.all fun x => x == Value.type "tuple") = true := by
        simp only [List.all_toArray, List.all_map, List.all_eq_true]
        intro _ _
        exact beq_self_eq_true _
      have h0 : (List.map (fun _ => Value.type "tuple") (v0 :: vr)).toArray[0]? = some (Value.type "tuple") := by simp
      rw [h0]
      simp only [hall, if_true]
      exact wpAny_pure (wpAny_pure hq)
end
end Mir
namespace Mir
open PySem PySem.Spec L2
abbrev sortedD (ds : List D) : List D := ds.mergeSort (PySem.W.dataLe false id)
def tupB : D → Bool
  | .tuple _ => true
  | _ => false
def plainB : D → Bool
  | .tuple _ => false
  | .none => false
  | _ => true
def sortOk (ds : List D) : Bool := (ds.all fun d => ds.all fun e => PySem.W.alike d e) && (ds.all tupB || ds.all plainB) && (ds.all fun d => decide (d.depth ≤ 130))
def gSorted : List D → Option Ow
  | [.list ds] => if sortOk ds = true then some (.l ((sortedD ds).map Ow.d)) else none
  | _ => none
def rSortD (K : PySem.W.Frag) : List V → Hp → VK → Prop := fun vs H Q => ∃ (a : Addr) (xs : List V) (ds : List D) (T : V → D → Prop), vs = [V.ref a] ∧ SqL K H a xs ∧ DpAll K H xs ds ∧ sortOk ds = true ∧ PySem.W.EachIs T xs ds ∧
  ∀ (ys : List V) (p : Addr), H p = none → PySem.W.EachIs T ys (sortedD ds) → Q (.ref p) (upd H p (.lst ys))
section
variable {X : Cx} {W : WX}
theorem each_vals {T : V → D → Prop} : ∀ {xs : List V} {vs : List Value} {ds : List D}, Vals xs vs → PySem.W.EachIs T xs ds → PySem.W.EachIs (fun v d => ∃ x, RelV x v ∧ T x d) vs ds
  | _, _, _, .nil, .nil => .nil
  | _, _, _, .cons r t, .cons h g => .cons ⟨_, r, h⟩ (each_vals t g)
theorem vals_each {T : V → D → Prop} : ∀ {vs : List Value} {ds : List D}, PySem.W.EachIs (fun v d => ∃ x, RelV x v ∧ T x d) vs ds → ∃ xs, Vals xs vs ∧ PySem.W.EachIs T xs ds
  | _, _, .nil => ⟨[], .nil, .nil⟩
  | _, _, .cons ⟨x, r, h⟩ g => by
    obtain ⟨xs, a, b⟩ := vals_each g
    exact ⟨x :: xs, .cons r a, .cons h b⟩
mutual
theorem Dp.kit_alike {K : PySem.W.Frag} {H : Hp} : ∀ (d : D) (v : V), Dp K H v d → PySem.W.alike d d = true → L2.Dp K H v d
  | .none, _, h, _ => by cases h; exact .non
  | .bool b, _, h, _ => by cases h; exact .bl b
  | .int b, _, h, _ => by cases h; exact .int b
  | .str b, _, h, _ => by cases h; exact .str b
  | .list ds, _, h, c => by
    cases h with
    | lst hs ha => exact .lst hs (DpAll.kit_alike ds _ ha (by rw [PySem.W.alike] at c; exact c))
  | .tuple ds, _, h, c => by
    cases h with
    | tup hs ha => exact .tup hs (DpAll.kit_alike ds _ ha (by rw [PySem.W.alike] at c; exact c))
  | .dict _, _, _, c => by simp [PySem.W.alike] at c
theorem DpAll.kit_alike {K : PySem.W.Frag} {H : Hp} : ∀ (ds : List D) (vs : List V), DpAll K H vs ds → PySem.W.alikeAll ds ds = true → L2.DpAll K H vs ds
  | [], _, h, _ => by cases h; exact .nil
  | d :: ds, _, h, c => by
    rw [PySem.W.alikeAll, Bool.and_eq_true] at c
    cases h with
    | cons h1 h2 => exact .cons (Dp.kit_alike d _ h1 c.1) (DpAll.kit_alike ds _ h2 c.2)
end
theorem each_reads {pins : List (Addr × Obj)} {s : Shared} {σ : L2.St} {H : Hp} (I : Inv X pins σ H s) : ∀ {xs : List V} {vs : List Value} {ds : List D}, Vals xs vs → DpAll X.K H xs ds → (∀ d ∈ ds, PySem.W.alike d d = true) → PySem.W.EachIs (fun v d => ∃ as, PySem.Reads s.heap v d as) vs ds
  | _, _, _, .nil, h, _ => by cases h; exact .nil
  | _, _, _, .cons r t, h, c => by
    cases h with
    | cons h1 h2 => exact .cons (L2.Dp.reads I _ _ _ (Dp.kit_alike _ _ h1 (c _ List.mem_cons_self)) r) (each_reads I t h2 fun d hd => c d (List.mem_cons_of_mem _ hd))
theorem sortOk_cases {ds : List D} (h : sortOk ds = true) : PySem.W.AllAlike ds ∧ ((∀ d, d ∈ ds → ∃ xs, d = .tuple xs) ∨ ∀ d, d ∈ ds → d ≠ .none ∧ ∀ xs, d ≠ .tuple xs) ∧ ∀ d, d ∈ ds → d.depth ≤ 130 := by
  unfold sortOk at h
  simp only [Bool.and_eq_true, Bool.or_eq_true, List.all_eq_true, decide_eq_true_eq] at h
  obtain ⟨⟨h1, h2⟩, h3⟩ := h
  refine ⟨h1, h2.imp (fun h d hd => ?_) (fun h d hd => ?_), h3⟩
  · have := h d hd
    cases d <;> first | exact ⟨_, rfl⟩ | cases this
  · have := h d hd
    cases d with
    | none => cases this
    | tuple _ => cases this
    | _ => exact ⟨nofun, nofun⟩
theorem cr_sortD (hu : X.A.units + 140 < cLine) : CallR X (.builtin "sorted") (rSortD X.K) := by
  intro pins s σ H vs us Q I r h
  obtain ⟨a, xs, ds, T, rfl, hs, hx, ok, hT, q⟩ := h
  obtain ⟨its, rv, hl, hz⟩ := I.list hs
  rw [Vals.ref1 r]
  obtain ⟨hal, hk, hd⟩ := sortOk_cases ok
  have er := each_reads I rv hx fun d hd => hal d hd d hd
  have e := each_vals rv hT
  have hL : its.length ≤ sizeLine := by rw [← rv.length]; exact hz
  have fin : ∀ out, out.length = ds.length → PySem.W.EachIs (fun v d => ∃ x, RelV x v ∧ T x d) out (sortedD ds) → EP X pins σ Q (.ref (s.heap.objs.size + 1)) { s with heap := PyProof.Rows.sortedAll s.heap its out.toArray } := fun out h1 h2 => by
    obtain ⟨ys, h3, h4⟩ := vals_each h2
    have hn : H (s.heap.objs.size + 1) = none := I.hok.fresh (Nat.le_succ _)
    obtain ⟨n, hn2⟩ := PyProof.Rows.sortedAll_at s.heap its out.toArray
    refine ⟨.ref (s.heap.objs.size + 1), upd H (s.heap.objs.size + 1) (.lst ys), I.laid (t' := s.toks) (fun b o e => PyProof.Rows.sortedAll_old e) (Nat.le_succ _) ⟨?_, out, n, h3, hn2⟩, rfl, q ys _ hn h4⟩
    rw [h3.length, h1, ← er.length]
    exact hL
  have er' : PySem.W.EachIs (fun v b => ∃ as, PySem.Reads (PySem.W.sortingHeap (PySem.W.copyHeap s.heap its) (s.heap.objs.size + 1) its) v (id b) as) its ds := er.mono fun _ _ ⟨as, r⟩ => ⟨as, PyProof.Rows.Reads.keeps (fun _ _ => PySem.W.sorting_copy_old) r⟩
  have hb : ∀ d, d ∈ ds → X.A.in1.in1.units + d.depth < cLine := fun d m => by
    have := hd d m
    show X.A.units + 1 + 1 + d.depth < cLine
    omega
  refine PySem.W.sorted_vals (κ := PySem.W.dataKind (PySem.W.sortingHeap (PySem.W.copyHeap s.heap its) (s.heap.objs.size + 1) its) ds) hl.isList ?_ hL (fin _ ?_ ?_)
  · rcases hk with hk | hk
    · exact sortsAt_tuples (s := { s with heap := PySem.W.sortingHeap (PySem.W.copyHeap s.heap its) (s.heap.objs.size + 1) its }) er' hal hk hb
    · exact PySem.W.SortsAt.data (s := { s with heap := PySem.W.sortingHeap (PySem.W.copyHeap s.heap its) (s.heap.objs.size + 1) its }) er' hal (.inr hk) hb
  · rw [PySem.W.sortVals_length false rfl]; exact er.length
  · have z := PySem.W.sortVals_data (enc := (id : D → D)) (bs := ds) false e er' (by simpa using hal)
    simpa using z
theorem each_dpAll {F : Hp} : ∀ {xs : List V} {ds : List D}, DpAll X.K F xs ds → PySem.W.EachIs (Dp X.K F) xs ds
  | _, [], h => by cases h; exact .nil
  | _, d :: ds, h => by
    cases h with
    | cons h1 h2 => exact .cons h1 (each_dpAll h2)
theorem dpAll_each {F : Hp} : ∀ {xs : List V} {ds : List D}, PySem.W.EachIs (Dp X.K F) xs ds → DpAll X.K F xs ds
  | _, _, .nil => .nil
  | _, _, .cons h g => .cons h (dpAll_each g)
theorem caG_sorted : CaG X.K (rSortD X.K) gSorted := by
  intro F H vs ds o Q s h e q
  unfold gSorted at e
  split at e
  · split at e
    · rename_i es c
      cases e
      obtain ⟨v, rfl, p, ws, rfl, p1, p2⟩ := psqs1 h
      refine ⟨p, ws, es, Dp X.K F, rfl, p1, dpaUp p2 s, c, each_dpAll p2, fun ys a ha hy => ?_⟩
      exact q _ _ _ (Ext.own s ha _) (own_l s ha (dpAll_each hy))
    · cases e
  · cases e
theorem de_sorted {x : Expr} {p pos : Pos} {f : Ev → R (List D)} (hu : X.A.units + 140 < cLine) (hg : Gl X "sorted") (hm : X.mg "sorted" = none) (ha : DAl X W [x] f) (he : starEach [x] X.env = (false, eval x X.env) :: starEach [] X.env := by rfl) : DE X W (.Call (.Name "sorted" p) [x] [] pos) (eCa gSorted f) :=
  de_callB (cr_sortD hu) caG_sorted hg hm (by first | rfl | decide +kernel) ha (he := he)
end
end Mir
end
set_option Elab.async false
set_option linter.all false
set_option maxRecDepth 100000
set_option maxHeartbeats 4000000
noncomputable section
namespace Mir
open PySem PySem.Spec L2

open Classical in
section
variable {X : Cx} {W : WX} {S : Nat → Bool} {pos npos : Pos} {x : Str} {fs : Ev → SR}
end
end Mir
end
set_option Elab.async false
set_option linter.all false
set_option maxRecDepth 100000
set_option maxHeartbeats 4000000
noncomputable section
namespace Mir
open PySem PySem.Spec L2

def spL (K : PySem.W.Frag) (m : List D → R Ow) : Sp := fun vs H Q _ => ∃ F ds r, Same F H ∧ DpAll K F vs ds ∧ ds.length = 1 ∧ m ds = .ok r ∧ ∀ v F' H', Ext F H F' H' → POw K H r v F' H' → Q v H'
theorem fnOk_spL {P : Program} {w : World} {K : PySem.W.Frag} {mg : Str → Option Value} {base : Heap} {CX : CXT} {k : Nat} {f : Addr} {fd : FuncData} {ps : List Str} {m : List D → R Ow} (h : FnOk P w K mg base CX k f fd ps (spM K mg 1 m)) : FnOk P w K mg base CX k f fd ps (spL K m) :=
  h.imp fun vs H Q E ⟨F, ds, r, h1, h2, h3, h4, h5⟩ => ⟨F, ds, h1, h2, h3, by rw [h4]; exact h5⟩
theorem law_end {l : PySem.W.OpenLaw} {q : Program} {loose : List Str} {XP : (Str → Option Value) → Heap → Prop} {YP : World → Heap → Prop} {d : DefRec} {K : Params → PySem.W.Frag} {m : List D → R Ow} (k : Nat) (x : Str) (hn : l.most = some 63) (hdf : d.params.defaults = []) (hr : Room k callerA)
    (hY : ∀ (w : World) (h : Heap), YP w h → (K w.params).In h)
    (hm : ∀ ns : List Int, ns.length ≤ 63 → (∀ z ∈ ns, Builtin.Int.intBits z ≤ 1048576) → m [.list (ns.map .int)] = .ok (.d (.bool true)))
    (F : ∀ (w : World) (mg : Str → Option Value) (fa : Addr) (h : Heap), (K w.params).In h → h.Ns PySem.mainGlobals mg → mg d.name = some (.ref fa) →
      ∃ fd : FuncData, (∀ (s : Shared) (u : Value), BindsTo s fd ⟨[u], []⟩ [(x, u)]) ∧ ∀ base : Heap, (K w.params).In base → base.Ns PySem.mainGlobals mg → FnOk l.prog w (K w.params) mg base (L2.CX l.prog w) k fa fd [x] (spM (K w.params) mg 1 m)) :
    PySem.W.WalkO q loose XP YP l.row.toRowW d [] (fun f vs => PySem.call f vs) := by
  refine L2.walk_ofB (n := 63) (k := k) (x := x) (CX := fun w => L2.CX l.prog w) (sp := fun w => spL (K w.params) m) hn (by decide) hdf hr hY (fun w mg fa h a b c => ?_) (fun w H a ns hl hb _ hS => ?_) fun w H s e s' z => ?_
  · obtain ⟨fd, h1, h2⟩ := F w mg fa h a b c
    exact ⟨fd, h1, fun base p q => fnOk_spL (h2 base p q)⟩
  · refine ⟨H, [.list (ns.map .int)], _, Same.refl _, .cons (.lst hS (DpAll.of_ints ns)) .nil, rfl, hm ns hl hb, fun v F' H' _ ⟨fp, ow, _⟩ => ?_⟩
    cases ow with
    | d h => cases h; rfl
  · obtain ⟨_, _, _, _, _, _, _, _, _, _, _, _, z⟩ := z
    exact z
theorem room_eq {k : Nat} {A : Around} (r : Room k A) : A.units + 140 < cLine := by have := r.un; omega
end Mir
end
set_option Elab.async false
set_option linter.all false
set_option maxRecDepth 100000
set_option maxHeartbeats 4000000
noncomputable section
namespace Mir
open PySem PySem.Spec L2
section
variable {X : Cx} {W : WX} {S : Nat → Bool}
def gAddA : D → D → Option D
  | .int i, .int j => some (.int (i + j))
  | .str x, .str y => if x.length + y.length ≤ sizeLine then some (.str (x ++ y)) else none
  | _, _ => none
/-- name = [..], the list made data -/
theorem ds_setLcF {elt tg iter : Expr} {ifs : List Expr} {scope : Scope} {own : List (Str × Nat)} {g : D → Ev → Option Ev} {fi : Ev → R (List D)} {fc : Ev → R Bool} {fe : Ev → R Ow} {ix : List Nat} {y : Str} {py spos pos : Pos} (i : Nat) (hc : X.calm = true) (hN : X.N.Nodup) (hi : DI X W tg iter fi) (ok : BlkOk X.N X.env.scope scope own)
    (hg : ∀ (s : Shared) (H : Hp) (C : Addr) (cl : List (Str × Addr)) (fp : List Addr), DG (X.blk s H scope (compEnvC scope cl C X.env) fp) tg ix g) (ht : ∀ (s : Shared) (H : Hp) (C : Addr) (cl : List (Str × Addr)) (fp : List Addr), DTs (X.blk s H scope (compEnvC scope cl C X.env) fp) W0 ifs fc)
    (he : ∀ (s : Shared) (H : Hp) (C : Addr) (cl : List (Str × Addr)) (fp : List Addr), DE (X.blk s H scope (compEnvC scope cl C X.env) fp) W0 elt fe) (hix : ∀ i ∈ ix, i ∈ own.map (·.2) := by decide) (hs : ∀ x, foldedSetIterable iter X.env x = pure x := by intro _; rfl)
    (hy : X.N[i]? = some y := by rfl) (hyl : X.env.scope.names.lookup y = some .local := by rfl) (hsw : swapsWith (.ListComp elt [⟨tg, iter, ifs, 0⟩] scope pos) (some (.Name y py)) spos.line X.env = pure true := by exact sw_true rfl rfl rfl (by decide +kernel)) (hS : S i = true := by rfl) :
    DS X W S (.Assign [.Name y py] (.ListComp elt [⟨tg, iter, ifs, 0⟩] scope pos) spos) (sSet i (eM (eM (eLc fi g fc fe (own.map (·.2))) viewD) Ow.d)) := by
  obtain ⟨wi, pi, si⟩ := hi
  refine ⟨_, ps_setLc (g := tgOf X.K ix g) (tt := tOf X.K (Post X W0 PTb) fc) (te := tOf X.K (Post X W0 (POw X.K)) fe) hc hN hy hyl hsw pi ok (fun s H C cl fp => hg s H C cl fp) (fun s H C cl fp => (ht s H C cl fp).can) (fun s H C cl fp => (he s H C cl fp).can) hs, fun F H σ env fp D sat h => ?_⟩
  refine de_lc_core si hix F H σ env fp _ sat ?_
  unfold sSet eM at h
  cases e : eLc fi g fc fe (own.map (·.2)) env with
  | no => rw [e] at h; exact h
  | ex c => rw [e] at h; exact fun C F' H' m x => h C σ F' H' fp m (.refl _ _) (StepS.of_ext x fp) (sat.ext x)
  | ok r =>
    rw [e] at h
    intro v F' H' x ⟨fx, q, nd, n⟩
    have h' : PostS X W S σ F H fp D (if i < env.length then .nx (env.set i (some (.d (viewD r)))) else .no) := h
    split at h'
    · obtain ⟨F2, x2, q2⟩ := x.freeze q n
      obtain ⟨fp', s1, s2⟩ := put_step sat x2 (.d q2) List.nodup_nil (fun _ z => nomatch z) ‹_›
      exact h' _ F2 H' fp' (.set hS _) s1 s2
    · exact h'.elim
end
end Mir
end
set_option Elab.async false
set_option linter.all false
set_option maxRecDepth 100000
set_option maxHeartbeats 4000000
noncomputable section
namespace Mir
open PySem PySem.Spec L2

section
variable {α β γ : Type} (env : Ev)
@[simp] theorem eB_eq (f : Ev → R α) (g : α → R β) : eB f g env = (f env).bind g := rfl
@[simp] theorem eM_eq (f : Ev → R α) (g : α → β) : eM f g env = (f env).map g := rfl
@[simp] theorem eC_eq (d : D) : eC d env = .ok d := rfl
@[simp] theorem aNil_eq : aNil env = .ok [] := rfl
@[simp] theorem aCons_eq (f : Ev → R D) (g : Ev → R (List D)) : aCons f g env = (f env).bind fun d => (g env).map fun ds => d :: ds := rfl
@[simp] theorem eTup_eq (f : Ev → R (List D)) : eTup f env = (f env).bind fun ds => guard (ds.length ≤ sizeLine) (.ok (.tuple ds)) := rfl
@[simp] theorem eLst_eq (f : Ev → R (List D)) : eLst f env = (f env).bind fun ds => guard (ds.length ≤ sizeLine) (.ok (.l (ds.map Ow.d))) := rfl
@[simp] theorem eBin_eq (g : D → D → Option D) (f h : Ev → R D) : eBin g f h env = (f env).bind fun x => (h env).bind fun y => R.of (g x y) := rfl
@[simp] theorem eBinO_eq (g : D → D → Option Ow) (f h : Ev → R D) : eBinO g f h env = (f env).bind fun x => (h env).bind fun y => R.of (g x y) := rfl
@[simp] theorem eCa_eq (g : List D → Option Ow) (f : Ev → R (List D)) : eCa g f env = (f env).bind fun ds => R.of (g ds) := rfl
@[simp] theorem eNot_eq (f : Ev → R D) : eNot f env = ((f env).bind asB).bind fun b => .ok (.bool !b) := rfl
@[simp] theorem eAnd_eq (f g : Ev → R D) : eAnd f g env = ((f env).bind asB).bind fun b => if b = true then g env else .ok (.bool false) := rfl
@[simp] theorem eOr_eq (f g : Ev → R D) : eOr f g env = ((f env).bind asB).bind fun b => if b = true then .ok (.bool true) else g env := rfl
@[simp] theorem eIf_eq (c : Ev → R Bool) (f g : Ev → R D) : eIf c f g env = (c env).bind fun b => if b = true then f env else g env := rfl
@[simp] theorem tNotE_eq (f : Ev → R Bool) : tNotE f env = (f env).map (!·) := rfl
@[simp] theorem tAndE_eq (f g : Ev → R Bool) : tAndE f g env = (f env).bind fun b => if b = true then g env else .ok false := rfl
@[simp] theorem tOrE_eq (f g : Ev → R Bool) : tOrE f g env = (f env).bind fun b => if b = true then .ok true else g env := rfl
@[simp] theorem eRep_eq (f : Ev → R Ow) (g : Ev → R D) : eRep f g env = (f env).bind fun o => (g env).bind fun d => repO o d := rfl
@[simp] theorem eIxO_eq (f : Ev → R Ow) (g : Ev → R D) : eIxO f g env = (f env).bind fun o => (g env).bind fun d => ixO o d := rfl
@[simp] theorem eSl_eq (f : Ev → R D) (l h : Ev → R (Option Int)) : eSl f l h env = (f env).bind fun x => (l env).bind fun i => (h env).bind fun j => R.of (gSl x i j) := rfl
@[simp] theorem oNone_eq : oNone env = .ok none := rfl
@[simp] theorem asI_eq (i : Int) : asI (.int i) = .ok (some i) := rfl
@[simp] theorem cYes_eq : cYes env = .ok true := rfl
@[simp] theorem eVar_0 (x : D) : eVar 0 (some (.d x) :: env) = .ok x := rfl
@[simp] theorem eVarO_0 (x : Ow) : eVarO 0 (some x :: env) = .ok x := rfl
@[simp] theorem eVar_s (i : Nat) (x : Option Ow) : eVar (i + 1) (x :: env) = eVar i env := by unfold eVar; rw [List.getElem?_cons_succ]
@[simp] theorem eVarO_s (i : Nat) (x : Option Ow) : eVarO (i + 1) (x :: env) = eVarO i env := by unfold eVarO; rw [List.getElem?_cons_succ]
@[simp] theorem eVar_1 (a : Option Ow) (x : D) : eVar 1 (a :: some (.d x) :: env) = .ok x := rfl
@[simp] theorem eVar_2 (a b : Option Ow) (x : D) : eVar 2 (a :: b :: some (.d x) :: env) = .ok x := rfl
@[simp] theorem eVar_3 (a b c : Option Ow) (x : D) : eVar 3 (a :: b :: c :: some (.d x) :: env) = .ok x := rfl
@[simp] theorem eVar_4 (a b c d : Option Ow) (x : D) : eVar 4 (a :: b :: c :: d :: some (.d x) :: env) = .ok x := rfl
@[simp] theorem eVar_5 (a b c d e : Option Ow) (x : D) : eVar 5 (a :: b :: c :: d :: e :: some (.d x) :: env) = .ok x := rfl
@[simp] theorem eVar_6 (a b c d e f : Option Ow) (x : D) : eVar 6 (a :: b :: c :: d :: e :: f :: some (.d x) :: env) = .ok x := rfl
@[simp] theorem eVar_7 (a b c d e f g : Option Ow) (x : D) : eVar 7 (a :: b :: c :: d :: e :: f :: g :: some (.d x) :: env) = .ok x := rfl
@[simp] theorem eVar_8 (a b c d e f g h : Option Ow) (x : D) : eVar 8 (a :: b :: c :: d :: e :: f :: g :: h :: some (.d x) :: env) = .ok x := rfl
@[simp] theorem eVar_9 (a b c d e f g h i : Option Ow) (x : D) : eVar 9 (a :: b :: c :: d :: e :: f :: g :: h :: i :: some (.d x) :: env) = .ok x := rfl
@[simp] theorem eVarO_1 (a : Option Ow) (x : Ow) : eVarO 1 (a :: some x :: env) = .ok x := rfl
@[simp] theorem eVarO_2 (a b : Option Ow) (x : Ow) : eVarO 2 (a :: b :: some x :: env) = .ok x := rfl
@[simp] theorem eVarO_3 (a b c : Option Ow) (x : Ow) : eVarO 3 (a :: b :: c :: some x :: env) = .ok x := rfl
@[simp] theorem eVarO_4 (a b c d : Option Ow) (x : Ow) : eVarO 4 (a :: b :: c :: d :: some x :: env) = .ok x := rfl
@[simp] theorem eVarO_5 (a b c d e : Option Ow) (x : Ow) : eVarO 5 (a :: b :: c :: d :: e :: some x :: env) = .ok x := rfl
@[simp] theorem eVarO_6 (a b c d e f : Option Ow) (x : Ow) : eVarO 6 (a :: b :: c :: d :: e :: f :: some x :: env) = .ok x := rfl
@[simp] theorem eVarO_7 (a b c d e f g : Option Ow) (x : Ow) : eVarO 7 (a :: b :: c :: d :: e :: f :: g :: some x :: env) = .ok x := rfl
@[simp] theorem sSkip_eq : sSkip env = .nx env := rfl
@[simp] theorem sSeq_eq (f g : Ev → SR) : sSeq f g env = (f env).andThen g := rfl
@[simp] theorem sSet_eq (i : Nat) (f : Ev → R Ow) : sSet i f env = (f env).st env fun r => if i < env.length then .nx (env.set i (some r)) else .no := rfl
@[simp] theorem sRet_eq (f : Ev → R Ow) : sRet f env = (f env).st env fun r => .rt r env := rfl
@[simp] theorem sRetN_eq : sRetN env = .rt (.d .none) env := rfl
@[simp] theorem sIf_eq (c : Ev → R Bool) (f g : Ev → SR) : sIf c f g env = (c env).st env fun b => if b = true then f env else g env := rfl
@[simp] theorem sFor_eq (it : Ev → R (List D)) (g : D → Ev → Option Ev) (f : Ev → SR) : sFor it g f env = (it env).st env fun ds => forL g f ds env := rfl
@[simp] theorem sDrop_eq (f : Ev → R D) : sDrop f env = (f env).st env fun _ => .nx env := rfl
@[simp] theorem sAug_eq (h : D → D → Option D) (i : Nat) (f : Ev → R D) : sAug h i f env = (((eVar i env).bind fun x => (f env).bind fun y => R.of (h x y)).st env fun d => if i < env.length then .nx (env.set i (some (.d d))) else .no) := rfl
@[simp] theorem sAsg_eq (g : D → Ev → Option Ev) (f : Ev → R D) : sAsg g f env = (f env).st env fun d => match g d env with
  | some env' => .nx env'
  | none => .no := rfl
theorem ownL_of {i : Nat} {os : List Ow} (h : env[i]? = some (some (.l os))) (k : List Ow → SR) : ownL i env k = k os := by unfold ownL; rw [h]
@[simp] theorem sApp_eq (i : Nat) (f : Ev → R Ow) : sApp i f env = ownL i env fun os => (f env).st env fun r => if os.length < sizeLine then .nx (env.set i (some (.l (os ++ [r])))) else .no := rfl
@[simp] theorem sExt_eq (i : Nat) (f : Ev → R D) : sExt i f env = ownL i env fun os => (f env).st env fun d => (asL d).st env fun ds => if os.length + ds.length ≤ sizeLine then .nx (env.set i (some (.l (os ++ ds.map Ow.d)))) else .no := rfl
@[simp] theorem sPut_eq (i : Nat) (f : Ev → R Ow) (g : Ev → R D) : sPut i f g env = (f env).st env fun r => ownL i env fun os => (g env).st env (putAt i env os r) := rfl
@[simp] theorem ownL_0 (os : List Ow) (k : List Ow → SR) : ownL 0 (some (.l os) :: env) k = k os := rfl
@[simp] theorem ownL_1 (a : Option Ow) (os : List Ow) (k : List Ow → SR) : ownL 1 (a :: some (.l os) :: env) k = k os := rfl
@[simp] theorem ownL_2 (a b : Option Ow) (os : List Ow) (k : List Ow → SR) : ownL 2 (a :: b :: some (.l os) :: env) k = k os := rfl
@[simp] theorem ownL_3 (a b c : Option Ow) (os : List Ow) (k : List Ow → SR) : ownL 3 (a :: b :: c :: some (.l os) :: env) k = k os := rfl
@[simp] theorem ownL_4 (a b c d : Option Ow) (os : List Ow) (k : List Ow → SR) : ownL 4 (a :: b :: c :: d :: some (.l os) :: env) k = k os := rfl
@[simp] theorem ownL_5 (a b c d e : Option Ow) (os : List Ow) (k : List Ow → SR) : ownL 5 (a :: b :: c :: d :: e :: some (.l os) :: env) k = k os := rfl
@[simp] theorem ownL_6 (a b c d e f : Option Ow) (os : List Ow) (k : List Ow → SR) : ownL 6 (a :: b :: c :: d :: e :: f :: some (.l os) :: env) k = k os := rfl
@[simp] theorem gtName_eq (i : Nat) (d : D) : gtName i d env = if i < env.length then some (env.set i (some (.d d))) else none := rfl
@[simp] theorem gtTup_eq (n : Nat) (h : List D → Ev → Option Ev) (ds : List D) : gtTup n h (.tuple ds) env = if ds.length = n then h ds env else none := rfl
@[simp] theorem gtCons_eq (g : D → Ev → Option Ev) (h : List D → Ev → Option Ev) (d : D) (ds : List D) : gtCons g h (d :: ds) env = (g d env).bind (h ds) := rfl
@[simp] theorem gtNil_eq : gtNil [] env = some env := rfl
theorem guard_ok {c : Prop} {r : R α} (h : c) : guard c r = r := guard_pos h
@[simp] theorem guard_true {r : R α} : guard True r = r := guard_pos trivial
@[simp] theorem guard_small {a : Nat} {r : R α} (h : a ≤ sizeLine) : guard (a ≤ sizeLine) r = r := guard_pos h
end
@[simp] theorem gAddA_int (i j : Int) : gAddA (.int i) (.int j) = some (.int (i + j)) := rfl
@[simp] theorem gEq_int (i j : Int) : gEq (.int i) (.int j) = some (.bool (i == j)) := rfl
@[simp] theorem gNe_int (i j : Int) : gNe (.int i) (.int j) = some (.bool (!(i == j))) := rfl
@[simp] theorem gNeg_int (i : Int) : gNeg (.int i) = .ok (.int (-i)) := rfl
@[simp] theorem gIx_lst (ds : List D) (i : Int) : gIx (.list ds) (.int i) = atI ds i := rfl
@[simp] theorem gIsi_int_int (i : Int) : gIsi "int" (.int i) = .ok (.bool true) := by rfl
@[simp] theorem gIsi_bool_int (i : Int) : gIsi "bool" (.int i) = .ok (.bool false) := by first | rfl | decide +kernel | kernel_rfl
@[simp] theorem gIsi_list_list (ds : List D) : gIsi "list" (.list ds) = .ok (.bool true) := by rfl
@[simp] theorem gIsi_tup_tup (ds : List D) : gIsi "tuple" (.tuple ds) = .ok (.bool true) := by rfl
@[simp] theorem ixO_l (os : List Ow) (k : Int) : ixO (.l os) (.int k) = match atI os k with
    | some o => .ok o
    | none => .no := rfl
@[simp] theorem R.st_no {α : Type} (env : Ev) (f : α → SR) : (R.no : R α).st env f = .no := rfl
theorem atI_natD {α : Type} {xs : List α} {k : Nat} {x : α} (h : xs[k]? = some x) : atI xs (k : Int) = some x := by
  unfold atI ixN
  have hl := (List.getElem?_eq_some_iff.mp h).1
  rw [if_pos (by omega), if_pos (by omega)]
  simpa using h
theorem ixN_nat {n k : Nat} (h : k < n) : ixN n (k : Int) = some k := by
  unfold ixN
  rw [if_pos (by omega), if_pos (by omega)]
  simp
@[simp] theorem atI_0 {α : Type} (x : α) (xs : List α) : atI (x :: xs) 0 = some x := atI_natD (k := 0) rfl
@[simp] theorem atI_1 {α : Type} (x y : α) (xs : List α) : atI (x :: y :: xs) 1 = some y := atI_natD (k := 1) rfl
@[simp] theorem atI_2 {α : Type} (x y z : α) (xs : List α) : atI (x :: y :: z :: xs) 2 = some z := atI_natD (k := 2) rfl
@[simp] theorem atI_3 {α : Type} (x y z u : α) (xs : List α) : atI (x :: y :: z :: u :: xs) 3 = some u := atI_natD (k := 3) rfl
@[simp] theorem atI_4 {α : Type} (x y z u v : α) (xs : List α) : atI (x :: y :: z :: u :: v :: xs) 4 = some v := atI_natD (k := 4) rfl
theorem forL_ind {g : D → Ev → Option Ev} {f : Ev → SR} (items : List D) (I : Nat → Ev → Prop) (step : ∀ i d env, items[i]? = some d → I i env → ∃ env1, g d env = some env1 ∧ ∃ env2, (f env1 = .nx env2 ∨ f env1 = .ct env2) ∧ I (i + 1) env2) :
    ∀ env, I 0 env → ∃ env', forL g f items env = .nx env' ∧ I items.length env' := by
  suffices h : ∀ (ds : List D) (k : Nat) (env : Ev), items.drop k = ds → k ≤ items.length → I k env → ∃ env', forL g f ds env = .nx env' ∧ I items.length env' from fun env h0 => h items 0 env rfl (Nat.zero_le _) h0
  intro ds
  induction ds with
  | nil =>
    intro k env hd hk h
    have : k = items.length := by
      have := congrArg List.length hd
      simp at this
      omega
    subst this
    exact ⟨env, rfl, h⟩
  | cons d ds ih =>
    intro k env hd hk h
    have hk' : k < items.length := by
      have := congrArg List.length hd
      simp at this
      omega
    rw [List.drop_eq_getElem_cons hk'] at hd
    obtain ⟨e1, e2⟩ := List.cons.inj hd
    obtain ⟨env1, g1, env2, g2, g3⟩ := step k d env (by rw [List.getElem?_eq_getElem hk', e1]) h
    obtain ⟨env', r1, r2⟩ := ih (k + 1) env2 e2 hk' g3
    refine ⟨env', ?_, r2⟩
    unfold forL
    rw [g1]
    rcases g2 with g2 | g2 <;> (simp only; rw [g2]; exact r1)
theorem lcR_all {g : D → Ev → Option Ev} {c : Ev → R Bool} {e : Ev → R Ow} {env : Ev} (h : D → Ow) : ∀ ds : List D, (∀ d ∈ ds, ∃ env1, g d env = some env1 ∧ c env1 = .ok true ∧ e env1 = .ok (h d)) → lcR g c e env ds = .ok (ds.map h)
  | [], _ => rfl
  | d :: ds, q => by
    obtain ⟨env1, q1, q2, q3⟩ := q d List.mem_cons_self
    unfold lcR
    rw [q1]
    simp only [q2, q3, noEx_ok, R.bind_ok, if_true]
    rw [lcR_all h ds fun d hd => q d (List.mem_cons_of_mem _ hd)]
    rfl
theorem eLc_of {fi : Ev → R (List D)} {g : D → Ev → Option Ev} {c : Ev → R Bool} {e : Ev → R Ow} {vs : List Nat} {env : Ev} {ds : List D} {rs : List Ow} (h1 : fi env = .ok ds) (hl : ds.length ≤ sizeLine) (h2 : lcR g c e (wipeE env vs) ds = .ok rs) : eLc fi g c e vs env = .ok (.l rs) := by
  unfold eLc
  rw [h1, R.bind_ok, guard_ok hl, h2]
  rfl
def finR : SR → R Ow
  | .nx _ => .ok (.d .none)
  | .rt r _ => .ok r
  | .ex c _ => .ex c
  | _ => .no
theorem runB_fin (k : Nat) (f : Ev → SR) (ds : List D) : runB k f ds = finR (f (envOf k ds)) := by
  unfold runB
  cases f (envOf k ds) <;> rfl
@[simp] theorem finR_nx (env : Ev) : finR (.nx env) = .ok (.d .none) := rfl
@[simp] theorem finR_rt (r : Ow) (env : Ev) : finR (.rt r env) = .ok r := rfl
@[simp] theorem finR_ex (c : Str) (env : Ev) : finR (.ex c env) = .ex c := rfl
@[simp] theorem finR_no : finR .no = .no := rfl
@[simp] theorem envOf_nil (k : Nat) : envOf k [] = List.replicate k none := rfl
@[simp] theorem envOf_cons (k : Nat) (d : D) (ds : List D) : envOf k (d :: ds) = some (.d d) :: envOf k ds := rfl
end Mir
end
set_option Elab.async false
set_option linter.all false
set_option maxRecDepth 100000
set_option maxHeartbeats 4000000
noncomputable section
namespace Mir
open PySem PySem.Spec L2

section
variable {X : Cx} {W : WX} {S : Nat → Bool}
def sNo (_ : Ev) : SR := .no
open Classical in
variable {a b : Expr} {pos : Pos} {f g : Ev → R D}
end
@[simp] theorem sNo_eq (env : Ev) : sNo env = .no := rfl
end Mir
end
set_option Elab.async false
set_option linter.all false
set_option maxRecDepth 100000
noncomputable section
namespace Mir
open PySem PySem.Spec L2
@[simp] theorem ownL_7 (a0 a1 a2 a3 a4 a5 a6 : Option Ow) (os : List Ow) (env : Ev) (k : List Ow → SR) : ownL 7 (a0 :: a1 :: a2 :: a3 :: a4 :: a5 :: a6 :: some (.l os) :: env) k = k os := rfl
@[simp] theorem eVarO_8 (a0 a1 a2 a3 a4 a5 a6 a7 : Option Ow) (x : Ow) (env : Ev) : eVarO 8 (a0 :: a1 :: a2 :: a3 :: a4 :: a5 :: a6 :: a7 :: some x :: env) = .ok x := rfl
@[simp] theorem ownL_8 (a0 a1 a2 a3 a4 a5 a6 a7 : Option Ow) (os : List Ow) (env : Ev) (k : List Ow → SR) : ownL 8 (a0 :: a1 :: a2 :: a3 :: a4 :: a5 :: a6 :: a7 :: some (.l os) :: env) k = k os := rfl
@[simp] theorem eVarO_9 (a0 a1 a2 a3 a4 a5 a6 a7 a8 : Option Ow) (x : Ow) (env : Ev) : eVarO 9 (a0 :: a1 :: a2 :: a3 :: a4 :: a5 :: a6 :: a7 :: a8 :: some x :: env) = .ok x := rfl
@[simp] theorem ownL_9 (a0 a1 a2 a3 a4 a5 a6 a7 a8 : Option Ow) (os : List Ow) (env : Ev) (k : List Ow → SR) : ownL 9 (a0 :: a1 :: a2 :: a3 :: a4 :: a5 :: a6 :: a7 :: a8 :: some (.l os) :: env) k = k os := rfl
@[simp] theorem eVar_10 (a0 a1 a2 a3 a4 a5 a6 a7 a8 a9 : Option Ow) (x : D) (env : Ev) : eVar 10 (a0 :: a1 :: a2 :: a3 :: a4 :: a5 :: a6 :: a7 :: a8 :: a9 :: some (.d x) :: env) = .ok x := rfl
@[simp] theorem eVarO_10 (a0 a1 a2 a3 a4 a5 a6 a7 a8 a9 : Option Ow) (x : Ow) (env : Ev) : eVarO 10 (a0 :: a1 :: a2 :: a3 :: a4 :: a5 :: a6 :: a7 :: a8 :: a9 :: some x :: env) = .ok x := rfl
@[simp] theorem ownL_10 (a0 a1 a2 a3 a4 a5 a6 a7 a8 a9 : Option Ow) (os : List Ow) (env : Ev) (k : List Ow → SR) : ownL 10 (a0 :: a1 :: a2 :: a3 :: a4 :: a5 :: a6 :: a7 :: a8 :: a9 :: some (.l os) :: env) k = k os := rfl
@[simp] theorem eVar_11 (a0 a1 a2 a3 a4 a5 a6 a7 a8 a9 a10 : Option Ow) (x : D) (env : Ev) : eVar 11 (a0 :: a1 :: a2 :: a3 :: a4 :: a5 :: a6 :: a7 :: a8 :: a9 :: a10 :: some (.d x) :: env) = .ok x := rfl
@[simp] theorem eVarO_11 (a0 a1 a2 a3 a4 a5 a6 a7 a8 a9 a10 : Option Ow) (x : Ow) (env : Ev) : eVarO 11 (a0 :: a1 :: a2 :: a3 :: a4 :: a5 :: a6 :: a7 :: a8 :: a9 :: a10 :: some x :: env) = .ok x := rfl
@[simp] theorem ownL_11 (a0 a1 a2 a3 a4 a5 a6 a7 a8 a9 a10 : Option Ow) (os : List Ow) (env : Ev) (k : List Ow → SR) : ownL 11 (a0 :: a1 :: a2 :: a3 :: a4 :: a5 :: a6 :: a7 :: a8 :: a9 :: a10 :: some (.l os) :: env) k = k os := rfl
@[simp] theorem eVar_12 (a0 a1 a2 a3 a4 a5 a6 a7 a8 a9 a10 a11 : Option Ow) (x : D) (env : Ev) : eVar 12 (a0 :: a1 :: a2 :: a3 :: a4 :: a5 :: a6 :: a7 :: a8 :: a9 :: a10 :: a11 :: some (.d x) :: env) = .ok x := rfl
@[simp] theorem eVarO_12 (a0 a1 a2 a3 a4 a5 a6 a7 a8 a9 a10 a11 : Option Ow) (x : Ow) (env : Ev) : eVarO 12 (a0 :: a1 :: a2 :: a3 :: a4 :: a5 :: a6 :: a7 :: a8 :: a9 :: a10 :: a11 :: some x :: env) = .ok x := rfl
@[simp] theorem ownL_12 (a0 a1 a2 a3 a4 a5 a6 a7 a8 a9 a10 a11 : Option Ow) (os : List Ow) (env : Ev) (k : List Ow → SR) : ownL 12 (a0 :: a1 :: a2 :: a3 :: a4 :: a5 :: a6 :: a7 :: a8 :: a9 :: a10 :: a11 :: some (.l os) :: env) k = k os := rfl
@[simp] theorem eVar_13 (a0 a1 a2 a3 a4 a5 a6 a7 a8 a9 a10 a11 a12 : Option Ow) (x : D) (env : Ev) : eVar 13 (a0 :: a1 :: a2 :: a3 :: a4 :: a5 :: a6 :: a7 :: a8 :: a9 :: a10 :: a11 :: a12 :: some (.d x) :: env) = .ok x := rfl
@[simp] theorem eVarO_13 (a0 a1 a2 a3 a4 a5 a6 a7 a8 a9 a10 a11 a12 : Option Ow) (x : Ow) (env : Ev) : eVarO 13 (a0 :: a1 :: a2 :: a3 :: a4 :: a5 :: a6 :: a7 :: a8 :: a9 :: a10 :: a11 :: a12 :: some x :: env) = .ok x := rfl
@[simp] theorem ownL_13 (a0 a1 a2 a3 a4 a5 a6 a7 a8 a9 a10 a11 a12 : Option Ow) (os : List Ow) (env : Ev) (k : List Ow → SR) : ownL 13 (a0 :: a1 :: a2 :: a3 :: a4 :: a5 :: a6 :: a7 :: a8 :: a9 :: a10 :: a11 :: a12 :: some (.l os) :: env) k = k os := rfl
@[simp] theorem eVar_14 (a0 a1 a2 a3 a4 a5 a6 a7 a8 a9 a10 a11 a12 a13 : Option Ow) (x : D) (env : Ev) : eVar 14 (a0 :: a1 :: a2 :: a3 :: a4 :: a5 :: a6 :: a7 :: a8 :: a9 :: a10 :: a11 :: a12 :: a13 :: some (.d x) :: env) = .ok x := rfl
@[simp] theorem eVarO_14 (a0 a1 a2 a3 a4 a5 a6 a7 a8 a9 a10 a11 a12 a13 : Option Ow) (x : Ow) (env : Ev) : eVarO 14 (a0 :: a1 :: a2 :: a3 :: a4 :: a5 :: a6 :: a7 :: a8 :: a9 :: a10 :: a11 :: a12 :: a13 :: some x :: env) = .ok x := rfl
@[simp] theorem ownL_14 (a0 a1 a2 a3 a4 a5 a6 a7 a8 a9 a10 a11 a12 a13 : Option Ow) (os : List Ow) (env : Ev) (k : List Ow → SR) : ownL 14 (a0 :: a1 :: a2 :: a3 :: a4 :: a5 :: a6 :: a7 :: a8 :: a9 :: a10 :: a11 :: a12 :: a13 :: some (.l os) :: env) k = k os := rfl
@[simp] theorem eVar_15 (a0 a1 a2 a3 a4 a5 a6 a7 a8 a9 a10 a11 a12 a13 a14 : Option Ow) (x : D) (env : Ev) : eVar 15 (a0 :: a1 :: a2 :: a3 :: a4 :: a5 :: a6 :: a7 :: a8 :: a9 :: a10 :: a11 :: a12 :: a13 :: a14 :: some (.d x) :: env) = .ok x := rfl
@[simp] theorem eVarO_15 (a0 a1 a2 a3 a4 a5 a6 a7 a8 a9 a10 a11 a12 a13 a14 : Option Ow) (x : Ow) (env : Ev) : eVarO 15 (a0 :: a1 :: a2 :: a3 :: a4 :: a5 :: a6 :: a7 :: a8 :: a9 :: a10 :: a11 :: a12 :: a13 :: a14 :: some x :: env) = .ok x := rfl
@[simp] theorem ownL_15 (a0 a1 a2 a3 a4 a5 a6 a7 a8 a9 a10 a11 a12 a13 a14 : Option Ow) (os : List Ow) (env : Ev) (k : List Ow → SR) : ownL 15 (a0 :: a1 :: a2 :: a3 :: a4 :: a5 :: a6 :: a7 :: a8 :: a9 :: a10 :: a11 :: a12 :: a13 :: a14 :: some (.l os) :: env) k = k os := rfl
@[simp] theorem eVar_16 (a0 a1 a2 a3 a4 a5 a6 a7 a8 a9 a10 a11 a12 a13 a14 a15 : Option Ow) (x : D) (env : Ev) : eVar 16 (a0 :: a1 :: a2 :: a3 :: a4 :: a5 :: a6 :: a7 :: a8 :: a9 :: a10 :: a11 :: a12 :: a13 :: a14 :: a15 :: some (.d x) :: env) = .ok x := rfl
@[simp] theorem eVarO_16 (a0 a1 a2 a3 a4 a5 a6 a7 a8 a9 a10 a11 a12 a13 a14 a15 : Option Ow) (x : Ow) (env : Ev) : eVarO 16 (a0 :: a1 :: a2 :: a3 :: a4 :: a5 :: a6 :: a7 :: a8 :: a9 :: a10 :: a11 :: a12 :: a13 :: a14 :: a15 :: some x :: env) = .ok x := rfl
@[simp] theorem ownL_16 (a0 a1 a2 a3 a4 a5 a6 a7 a8 a9 a10 a11 a12 a13 a14 a15 : Option Ow) (os : List Ow) (env : Ev) (k : List Ow → SR) : ownL 16 (a0 :: a1 :: a2 :: a3 :: a4 :: a5 :: a6 :: a7 :: a8 :: a9 :: a10 :: a11 :: a12 :: a13 :: a14 :: a15 :: some (.l os) :: env) k = k os := rfl
@[simp] theorem eVar_17 (a0 a1 a2 a3 a4 a5 a6 a7 a8 a9 a10 a11 a12 a13 a14 a15 a16 : Option Ow) (x : D) (env : Ev) : eVar 17 (a0 :: a1 :: a2 :: a3 :: a4 :: a5 :: a6 :: a7 :: a8 :: a9 :: a10 :: a11 :: a12 :: a13 :: a14 :: a15 :: a16 :: some (.d x) :: env) = .ok x := rfl
@[simp] theorem eVarO_17 (a0 a1 a2 a3 a4 a5 a6 a7 a8 a9 a10 a11 a12 a13 a14 a15 a16 : Option Ow) (x : Ow) (env : Ev) : eVarO 17 (a0 :: a1 :: a2 :: a3 :: a4 :: a5 :: a6 :: a7 :: a8 :: a9 :: a10 :: a11 :: a12 :: a13 :: a14 :: a15 :: a16 :: some x :: env) = .ok x := rfl
@[simp] theorem ownL_17 (a0 a1 a2 a3 a4 a5 a6 a7 a8 a9 a10 a11 a12 a13 a14 a15 a16 : Option Ow) (os : List Ow) (env : Ev) (k : List Ow → SR) : ownL 17 (a0 :: a1 :: a2 :: a3 :: a4 :: a5 :: a6 :: a7 :: a8 :: a9 :: a10 :: a11 :: a12 :: a13 :: a14 :: a15 :: a16 :: some (.l os) :: env) k = k os := rfl
@[simp] theorem eVar_18 (a0 a1 a2 a3 a4 a5 a6 a7 a8 a9 a10 a11 a12 a13 a14 a15 a16 a17 : Option Ow) (x : D) (env : Ev) : eVar 18 (a0 :: a1 :: a2 :: a3 :: a4 :: a5 :: a6 :: a7 :: a8 :: a9 :: a10 :: a11 :: a12 :: a13 :: a14 :: a15 :: a16 :: a17 :: some (.d x) :: env) = .ok x := rfl
@[simp] theorem eVarO_18 (a0 a1 a2 a3 a4 a5 a6 a7 a8 a9 a10 a11 a12 a13 a14 a15 a16 a17 : Option Ow) (x : Ow) (env : Ev) : eVarO 18 (a0 :: a1 :: a2 :: a3 :: a4 :: a5 :: a6 :: a7 :: a8 :: a9 :: a10 :: a11 :: a12 :: a13 :: a14 :: a15 :: a16 :: a17 :: some x :: env) = .ok x := rfl
@[simp] theorem ownL_18 (a0 a1 a2 a3 a4 a5 a6 a7 a8 a9 a10 a11 a12 a13 a14 a15 a16 a17 : Option Ow) (os : List Ow) (env : Ev) (k : List Ow → SR) : ownL 18 (a0 :: a1 :: a2 :: a3 :: a4 :: a5 :: a6 :: a7 :: a8 :: a9 :: a10 :: a11 :: a12 :: a13 :: a14 :: a15 :: a16 :: a17 :: some (.l os) :: env) k = k os := rfl
@[simp] theorem eVar_19 (a0 a1 a2 a3 a4 a5 a6 a7 a8 a9 a10 a11 a12 a13 a14 a15 a16 a17 a18 : Option Ow) (x : D) (env : Ev) : eVar 19 (a0 :: a1 :: a2 :: a3 :: a4 :: a5 :: a6 :: a7 :: a8 :: a9 :: a10 :: a11 :: a12 :: a13 :: a14 :: a15 :: a16 :: a17 :: a18 :: some (.d x) :: env) = .ok x := rfl
@[simp] theorem eVarO_19 (a0 a1 a2 a3 a4 a5 a6 a7 a8 a9 a10 a11 a12 a13 a14 a15 a16 a17 a18 : Option Ow) (x : Ow) (env : Ev) : eVarO 19 (a0 :: a1 :: a2 :: a3 :: a4 :: a5 :: a6 :: a7 :: a8 :: a9 :: a10 :: a11 :: a12 :: a13 :: a14 :: a15 :: a16 :: a17 :: a18 :: some x :: env) = .ok x := rfl
@[simp] theorem ownL_19 (a0 a1 a2 a3 a4 a5 a6 a7 a8 a9 a10 a11 a12 a13 a14 a15 a16 a17 a18 : Option Ow) (os : List Ow) (env : Ev) (k : List Ow → SR) : ownL 19 (a0 :: a1 :: a2 :: a3 :: a4 :: a5 :: a6 :: a7 :: a8 :: a9 :: a10 :: a11 :: a12 :: a13 :: a14 :: a15 :: a16 :: a17 :: a18 :: some (.l os) :: env) k = k os := rfl
@[simp] theorem eVar_20 (a0 a1 a2 a3 a4 a5 a6 a7 a8 a9 a10 a11 a12 a13 a14 a15 a16 a17 a18 a19 : Option Ow) (x : D) (env : Ev) : eVar 20 (a0 :: a1 :: a2 :: a3 :: a4 :: a5 :: a6 :: a7 :: a8 :: a9 :: a10 :: a11 :: a12 :: a13 :: a14 :: a15 :: a16 :: a17 :: a18 :: a19 :: some (.d x) :: env) = .ok x := rfl
@[simp] theorem eVarO_20 (a0 a1 a2 a3 a4 a5 a6 a7 a8 a9 a10 a11 a12 a13 a14 a15 a16 a17 a18 a19 : Option Ow) (x : Ow) (env : Ev) : eVarO 20 (a0 :: a1 :: a2 :: a3 :: a4 :: a5 :: a6 :: a7 :: a8 :: a9 :: a10 :: a11 :: a12 :: a13 :: a14 :: a15 :: a16 :: a17 :: a18 :: a19 :: some x :: env) = .ok x := rfl
@[simp] theorem ownL_20 (a0 a1 a2 a3 a4 a5 a6 a7 a8 a9 a10 a11 a12 a13 a14 a15 a16 a17 a18 a19 : Option Ow) (os : List Ow) (env : Ev) (k : List Ow → SR) : ownL 20 (a0 :: a1 :: a2 :: a3 :: a4 :: a5 :: a6 :: a7 :: a8 :: a9 :: a10 :: a11 :: a12 :: a13 :: a14 :: a15 :: a16 :: a17 :: a18 :: a19 :: some (.l os) :: env) k = k os := rfl
@[simp] theorem eVar_21 (a0 a1 a2 a3 a4 a5 a6 a7 a8 a9 a10 a11 a12 a13 a14 a15 a16 a17 a18 a19 a20 : Option Ow) (x : D) (env : Ev) : eVar 21 (a0 :: a1 :: a2 :: a3 :: a4 :: a5 :: a6 :: a7 :: a8 :: a9 :: a10 :: a11 :: a12 :: a13 :: a14 :: a15 :: a16 :: a17 :: a18 :: a19 :: a20 :: some (.d x) :: env) = .ok x := rfl
@[simp] theorem eVarO_21 (a0 a1 a2 a3 a4 a5 a6 a7 a8 a9 a10 a11 a12 a13 a14 a15 a16 a17 a18 a19 a20 : Option Ow) (x : Ow) (env : Ev) : eVarO 21 (a0 :: a1 :: a2 :: a3 :: a4 :: a5 :: a6 :: a7 :: a8 :: a9 :: a10 :: a11 :: a12 :: a13 :: a14 :: a15 :: a16 :: a17 :: a18 :: a19 :: a20 :: some x :: env) = .ok x := rfl
@[simp] theorem ownL_21 (a0 a1 a2 a3 a4 a5 a6 a7 a8 a9 a10 a11 a12 a13 a14 a15 a16 a17 a18 a19 a20 : Option Ow) (os : List Ow) (env : Ev) (k : List Ow → SR) : ownL 21 (a0 :: a1 :: a2 :: a3 :: a4 :: a5 :: a6 :: a7 :: a8 :: a9 :: a10 :: a11 :: a12 :: a13 :: a14 :: a15 :: a16 :: a17 :: a18 :: a19 :: a20 :: some (.l os) :: env) k = k os := rfl
@[simp] theorem eVar_22 (a0 a1 a2 a3 a4 a5 a6 a7 a8 a9 a10 a11 a12 a13 a14 a15 a16 a17 a18 a19 a20 a21 : Option Ow) (x : D) (env : Ev) : eVar 22 (a0 :: a1 :: a2 :: a3 :: a4 :: a5 :: a6 :: a7 :: a8 :: a9 :: a10 :: a11 :: a12 :: a13 :: a14 :: a15 :: a16 :: a17 :: a18 :: a19 :: a20 :: a21 :: some (.d x) :: env) = .ok x := rfl
@[simp] theorem eVarO_22 (a0 a1 a2 a3 a4 a5 a6 a7 a8 a9 a10 a11 a12 a13 a14 a15 a16 a17 a18 a19 a20 a21 : Option Ow) (x : Ow) (env : Ev) : eVarO 22 (a0 :: a1 :: a2 :: a3 :: a4 :: a5 :: a6 :: a7 :: a8 :: a9 :: a10 :: a11 :: a12 :: a13 :: a14 :: a15 :: a16 :: a17 :: a18 :: a19 :: a20 :: a21 :: some x :: env) = .ok x := rfl
@[simp] theorem ownL_22 (a0 a1 a2 a3 a4 a5 a6 a7 a8 a9 a10 a11 a12 a13 a14 a15 a16 a17 a18 a19 a20 a21 : Option Ow) (os : List Ow) (env : Ev) (k : List Ow → SR) : ownL 22 (a0 :: a1 :: a2 :: a3 :: a4 :: a5 :: a6 :: a7 :: a8 :: a9 :: a10 :: a11 :: a12 :: a13 :: a14 :: a15 :: a16 :: a17 :: a18 :: a19 :: a20 :: a21 :: some (.l os) :: env) k = k os := rfl
@[simp] theorem eVar_23 (a0 a1 a2 a3 a4 a5 a6 a7 a8 a9 a10 a11 a12 a13 a14 a15 a16 a17 a18 a19 a20 a21 a22 : Option Ow) (x : D) (env : Ev) : eVar 23 (a0 :: a1 :: a2 :: a3 :: a4 :: a5 :: a6 :: a7 :: a8 :: a9 :: a10 :: a11 :: a12 :: a13 :: a14 :: a15 :: a16 :: a17 :: a18 :: a19 :: a20 :: a21 :: a22 :: some (.d x) :: env) = .ok x := rfl
@[simp] theorem eVarO_23 (a0 a1 a2 a3 a4 a5 a6 a7 a8 a9 a10 a11 a12 a13 a14 a15 a16 a17 a18 a19 a20 a21 a22 : Option Ow) (x : Ow) (env : Ev) : eVarO 23 (a0 :: a1 :: a2 :: a3 :: a4 :: a5 :: a6 :: a7 :: a8 :: a9 :: a10 :: a11 :: a12 :: a13 :: a14 :: a15 :: a16 :: a17 :: a18 :: a19 :: a20 :: a21 :: a22 :: some x :: env) = .ok x := rfl
@[simp] theorem ownL_23 (a0 a1 a2 a3 a4 a5 a6 a7 a8 a9 a10 a11 a12 a13 a14 a15 a16 a17 a18 a19 a20 a21 a22 : Option Ow) (os : List Ow) (env : Ev) (k : List Ow → SR) : ownL 23 (a0 :: a1 :: a2 :: a3 :: a4 :: a5 :: a6 :: a7 :: a8 :: a9 :: a10 :: a11 :: a12 :: a13 :: a14 :: a15 :: a16 :: a17 :: a18 :: a19 :: a20 :: a21 :: a22 :: some (.l os) :: env) k = k os := rfl
@[simp] theorem eVar_24 (a0 a1 a2 a3 a4 a5 a6 a7 a8 a9 a10 a11 a12 a13 a14 a15 a16 a17 a18 a19 a20 a21 a22 a23 : Option Ow) (x : D) (env : Ev) : eVar 24 (a0 :: a1 :: a2 :: a3 :: a4 :: a5 :: a6 :: a7 :: a8 :: a9 :: a10 :: a11 :: a12 :: a13 :: a14 :: a15 :: a16 :: a17 :: a18 :: a19 :: a20 :: a21 :: a22 :: a23 :: some (.d x) :: env) = .ok x := rfl
@[simp] theorem eVarO_24 (a0 a1 a2 a3 a4 a5 a6 a7 a8 a9 a10 a11 a12 a13 a14 a15 a16 a17 a18 a19 a20 a21 a22 a23 : Option Ow) (x : Ow) (env : Ev) : eVarO 24 (a0 :: a1 :: a2 :: a3 :: a4 :: a5 :: a6 :: a7 :: a8 :: a9 :: a10 :: a11 :: a12 :: a13 :: a14 :: a15 :: a16 :: a17 :: a18 :: a19 :: a20 :: a21 :: a22 :: a23 :: some x :: env) = .ok x := rfl
@[simp] theorem ownL_24 (a0 a1 a2 a3 a4 a5 a6 a7 a8 a9 a10 a11 a12 a13 a14 a15 a16 a17 a18 a19 a20 a21 a22 a23 : Option Ow) (os : List Ow) (env : Ev) (k : List Ow → SR) : ownL 24 (a0 :: a1 :: a2 :: a3 :: a4 :: a5 :: a6 :: a7 :: a8 :: a9 :: a10 :: a11 :: a12 :: a13 :: a14 :: a15 :: a16 :: a17 :: a18 :: a19 :: a20 :: a21 :: a22 :: a23 :: some (.l os) :: env) k = k os := rfl
@[simp] theorem eVar_25 (a0 a1 a2 a3 a4 a5 a6 a7 a8 a9 a10 a11 a12 a13 a14 a15 a16 a17 a18 a19 a20 a21 a22 a23 a24 : Option Ow) (x : D) (env : Ev) : eVar 25 (a0 :: a1 :: a2 :: a3 :: a4 :: a5 :: a6 :: a7 :: a8 :: a9 :: a10 :: a11 :: a12 :: a13 :: a14 :: a15 :: a16 :: a17 :: a18 :: a19 :: a20 :: a21 :: a22 :: a23 :: a24 :: some (.d x) :: env) = .ok x := rfl
@[simp] theorem eVarO_25 (a0 a1 a2 a3 a4 a5 a6 a7 a8 a9 a10 a11 a12 a13 a14 a15 a16 a17 a18 a19 a20 a21 a22 a23 a24 : Option Ow) (x : Ow) (env : Ev) : eVarO 25 (a0 :: a1 :: a2 :: a3 :: a4 :: a5 :: a6 :: a7 :: a8 :: a9 :: a10 :: a11 :: a12 :: a13 :: a14 :: a15 :: a16 :: a17 :: a18 :: a19 :: a20 :: a21 :: a22 :: a23 :: a24 :: some x :: env) = .ok x := rfl
@[simp] theorem ownL_25 (a0 a1 a2 a3 a4 a5 a6 a7 a8 a9 a10 a11 a12 a13 a14 a15 a16 a17 a18 a19 a20 a21 a22 a23 a24 : Option Ow) (os : List Ow) (env : Ev) (k : List Ow → SR) : ownL 25 (a0 :: a1 :: a2 :: a3 :: a4 :: a5 :: a6 :: a7 :: a8 :: a9 :: a10 :: a11 :: a12 :: a13 :: a14 :: a15 :: a16 :: a17 :: a18 :: a19 :: a20 :: a21 :: a22 :: a23 :: a24 :: some (.l os) :: env) k = k os := rfl
theorem fin_step {f g : Ev → SR} {env env1 : Ev} {o : R Ow} (h1 : f env = .nx env1) (h2 : finR (g env1) = o) : finR (sSeq f g env) = o := by
  rw [sSeq_eq, h1]
  exact h2
end Mir
end
set_option Elab.async false
set_option linter.all false
set_option maxRecDepth 100000
set_option maxHeartbeats 4000000
noncomputable section
namespace Mir
open PySem PySem.Spec L2

def PostX (K : PySem.W.Frag) {α β : Type} (P : Hp → α → β → Prop) (F H : Hp) (fp : List Addr) (σ : L2.St) : R (α × Ev) → (β → Hp → Prop) → Prop
  | .ok (a, env), Q => ∀ v F' H' fp', StepS F H fp F' H' fp' → Sat K F' H' σ env fp' → P F' a v → Q v H'
  | _, _ => False
def SmX (K : PySem.W.Frag) {α β : Type} (P : Hp → α → β → Prop) (t : L2.St → Hp → (β → Hp → Prop) → Prop) (f : Ev → R (α × Ev)) : Prop :=
  ∀ F H σ env fp Q, Sat K F H σ env fp → PostX K P F H fp σ (f env) Q → t σ H Q
def XD (K : PySem.W.Frag) (F : Hp) (d : D) (v : V) : Prop := Dp K F v d
section
variable {K : PySem.W.Frag} {α β γ δ : Type} {P : Hp → α → β → Prop} {P2 : Hp → γ → δ → Prop} {F H F1 H1 : Hp} {fp fp1 : List Addr} {σ : L2.St}
theorem PostX.step {r : R (α × Ev)} {Q : β → Hp → Prop} (h : PostX K P F H fp σ r Q) (s : StepS F H fp F1 H1 fp1) : PostX K P F1 H1 fp1 σ r Q := by
  cases r with
  | no => exact h
  | ex c => exact h
  | ok p => exact fun v F' H' fp' s' => h v F' H' fp' (s.trans s')
theorem SmX.go {t : L2.St → Hp → (β → Hp → Prop) → Prop} {f : Ev → R (α × Ev)} (s : SmX K P t f) {g : α × Ev → R (γ × Ev)} {env : Ev} {Q : δ → Hp → Prop} {T : β → Hp → Prop} (sat : Sat K F H σ env fp) (h : PostX K P2 F H fp σ ((f env).bind g) Q)
    (k : ∀ a env1 v F1 H1 fp1, StepS F H fp F1 H1 fp1 → Sat K F1 H1 σ env1 fp1 → P F1 a v → PostX K P2 F1 H1 fp1 σ (g (a, env1)) Q → T v H1) : t σ H T := by
  refine s F H σ env fp T sat ?_
  cases e : f env with
  | no => rw [e] at h; exact h
  | ex c => rw [e] at h; exact h
  | ok p =>
    obtain ⟨a, env1⟩ := p
    rw [e] at h
    exact fun v F' H' fp' st sat' q => k a env1 v F' H' fp' st sat' q (PostX.step (show PostX K P2 F H fp σ (g (a, env1)) Q from h) st)
end
section
variable (X : Cx)
def DXF (e : Expr) (f : Ev → R (D × Ev)) : Prop := ∃ t, PE X e t ∧ SmX X.K (XD X.K) t f
end
section
variable {X : Cx} {W : WX} {e a b : Expr} {es : List Expr} {pos p : Pos} {x : Str}
/-- a plain expression -/
def xP (f : Ev → R D) (env : Ev) : R (D × Ev) := match f env with
  | .ok d => .ok (d, env)
  | _ => .no
def xBin (g : D → D → Option D) (f h : Ev → R (D × Ev)) (env : Ev) : R (D × Ev) := (f env).bind fun p => (h p.2).bind fun q => (R.of (g p.1 q.1)).bind fun d => .ok (d, q.2)
def xNil (env : Ev) : R (List D × Ev) := .ok ([], env)
def xCons (f : Ev → R (D × Ev)) (g : Ev → R (List D × Ev)) (env : Ev) : R (List D × Ev) := (f env).bind fun p => (g p.2).bind fun q => .ok (p.1 :: q.1, q.2)
/-- a def that changes nothing, called -/
def xCall (m : List D → R Ow) (fa : Ev → R (List D × Ev)) (env : Ev) : R (D × Ev) := (fa env).bind fun p => match m p.1 with
  | .ok r => .ok (viewD r, p.2)
  | _ => .no
/-- the own list in slot i, changed by a step within it -/
theorem Sat.chg {K : PySem.W.Frag} {F H : Hp} {σ : L2.St} {env : Ev} {fp : List Addr} (sat : Sat K F H σ env fp) {i : Nat} {dk : List D} (hi : env[i]? = some (some (.l (dk.map Ow.d)))) : ∃ a vs, σ[i]? = some (some (.ref a)) ∧ F a = none ∧ H a = some (.lst vs) ∧ DpAll K F vs dk ∧
    ∀ F' H' vs' dk', StepS F H [a] F' H' [a] → Same F' H' → F' a = none → H' a = some (.lst vs') → DpAll K F' vs' dk' → ∃ fp', StepS F H fp F' H' fp' ∧ Sat K F' H' σ (env.set i (some (.l (dk'.map Ow.d)))) fp' := by
  have hl : i < env.length := (List.getElem?_eq_some_iff.mp hi).1
  obtain ⟨fr, fo0, a1, a2, a3, a3', a4, a5, a6⟩ := sat.en.put hl sat.nd
  obtain ⟨v, e1, e2⟩ := a5 _ hi
  cases e2 with
  | @l a vs _ fo h1 h2 h3 =>
    obtain ⟨dp, rfl⟩ := OwnAll.dp h3
    refine ⟨a, vs, e1, h1, h2, dp, fun F' H' vs' dk' st sf fa ha dp' => ?_⟩
    have na : a ∉ fr := a4 a List.mem_cons_self
    obtain ⟨fp', b1, b2, b3⟩ := (a6 F' H' [a] [a] st fun b hb z => na (by rw [← List.mem_singleton.mp z]; exact hb)).2 (.ref a) (.l (dk'.map Ow.d)) [a] (.l fa ha (OwnAll.of_dp dp')) (by simp) fun b hb => by rw [List.mem_singleton.mp hb]; exact na
    rw [set_self e1] at b3
    refine ⟨fp', ⟨st.ff, fun b o q n => st.fr b o q fun z => n (by rw [List.mem_singleton.mp z]; exact a2 a List.mem_cons_self), fun b o q => (st.fn b o q).imp id (.imp (fun z => by rw [List.mem_singleton.mp z]; exact a2 a List.mem_cons_self) id), fun b hb => ?_⟩, sf, b3, b1⟩
    rcases b2 b hb with q | q
    · rw [List.mem_singleton.mp q]; exact .inl (a2 a List.mem_cons_self)
    · exact .inl (a1 b q)
def lstAt (i : Nat) (env : Ev) : Option (List D) := match env[i]? with
  | some (some (.l os)) => unDs os
  | _ => none
theorem lstAt_eq {i : Nat} {env : Ev} {dk : List D} (h : lstAt i env = some dk) : env[i]? = some (some (.l (dk.map Ow.d))) := by
  unfold lstAt at h
  split at h
  · rename_i os e
    rw [e, unDs_eq h]
  · cases h
/-- x.pop() -/
def xPop (i : Nat) (env : Ev) : R (D × Ev) := match lstAt i env with
  | none => .no
  | some dk => match dk.getLast? with
    | none => .no
    | some d => .ok (d, env.set i (some (.l (dk.dropLast.map Ow.d))))
theorem DpAll.dropLast {H : Hp} {K : PySem.W.Frag} {vs : List V} {ds : List D} (h : DpAll K H vs ds) : DpAll K H vs.dropLast ds.dropLast := by
  rw [List.dropLast_eq_take, List.dropLast_eq_take, DpAll.len h]
  exact Mir.DpAll.take _ h
theorem pop_step {F H : Hp} {a : Addr} {vs vs' : List V} (s : Same F H) (h : H a = some (.lst vs)) : StepS F H [a] F (upd H a (.lst vs')) [a] :=
  ⟨Same.refl _, fun b o e n => by rw [upd_ne (fun z => n (by simp [z]))]; exact e, fun b o e => .inl e, fun b z => .inl z⟩
theorem xf_pop {npos apos cpos : Pos} (i : Nat) (hN : X.N[i]? = some x := by rfl) (hv : Vis X.env.scope x := by first | exact Or.inl rfl | exact Or.inr (Or.inl rfl) | exact Or.inr (Or.inr rfl)) (hd : (x == ("__debug__" : Str)) = false := by decide) (hcd : (x == ("__classdict__" : Str)) = false := by decide)
    (hbase : attributeBase (.Name x npos) "pop" X.env (eval (.Name x npos) X.env) = eval (.Name x npos) X.env := by rfl) (hline : (apos.endLine == cpos.line) = true := by rfl) : DXF X (.Call (.Attribute (.Name x npos) "pop" apos) [] [] cpos) (xPop i) := by
  refine ⟨_, pe_bm0 PySem.F.plainAttrs_list PySem.F.slot_list_pop PySem.F.type_list_pop mt_pop (pe_var hN hv hd hcd) hbase hline, fun F H σ env fp Q sat hp => ?_⟩
  unfold xPop at hp
  cases e0 : lstAt i env with
  | none => rw [e0] at hp; exact hp.elim
  | some dk =>
  rw [e0] at hp
  simp only at hp
  obtain ⟨a, vs, b1, b2, b3, b4, b5⟩ := sat.chg (lstAt_eq e0)
  refine ⟨.ref a, b1, .inl ⟨rfl, vs, SqL.of b3⟩, ?_⟩
  cases el : dk.getLast? with
  | none => rw [el] at hp; exact hp.elim
  | some d =>
  rw [el] at hp
  have hl := DpAll.len b4
  rw [List.getLast?_eq_getElem?] at el
  obtain ⟨v, g1, g2⟩ := Mir.DpAll.get b4 el
  refine ⟨a, vs, v, rfl, rfl, b3, by rw [hl]; exact g1, ?_⟩
  obtain ⟨fp', d1, d2⟩ := b5 F (upd H a (.lst vs.dropLast)) vs.dropLast dk.dropLast (pop_step sat.fh b3) (mut_same sat.fh b2) b2 upd_same (Mir.DpAll.dropLast b4)
  exact hp v F _ fp' d1 d2 g2
end
end Mir
end
set_option Elab.async false
set_option linter.all false
set_option maxRecDepth 100000
set_option maxHeartbeats 4000000
noncomputable section
namespace Mir
open PySem PySem.Spec L2

def tOfX (K : PySem.W.Frag) (f : Ev → R (D × Ev)) : TE := fun σ H Q => ∃ F env fp, Sat K F H σ env fp ∧ PostX K (XD K) F H fp σ (f env) Q
theorem DXF.can {X : Cx} {e : Expr} {f : Ev → R (D × Ev)} (h : DXF X e f) : PE X e (tOfX X.K f) := by
  obtain ⟨t, p, s⟩ := h
  refine PE.imp p ?_
  rintro σ H Q ⟨F, env, fp, sat, h⟩
  exact s F H σ env fp Q sat h
theorem EnvAt.re {K : PySem.W.Frag} {F H : Hp} {σ : L2.St} {env : Ev} {fp : List Addr} (h : EnvAt K F H σ env fp) : ∀ {σ' : L2.St}, σ'.length = σ.length → (∀ (j : Nat) (o : Ow), env[j]? = some (some o) → σ'[j]? = σ[j]?) → EnvAt K F H σ' env fp := by
  induction h with
  | nil =>
    intro σ' hl _
    cases σ' with
    | nil => exact .nil
    | cons => simp at hl
  | @non x σ env fp h ih =>
    intro σ' hl hs
    cases σ' with
    | nil => simp at hl
    | cons y σ' => exact .non (ih (by simpa using hl) fun j o e => by simpa using hs (j + 1) o (by simpa using e))
  | @som v o σ env fp fps h1 h2 ih =>
    intro σ' hl hs
    cases σ' with
    | nil => simp at hl
    | cons y σ' =>
      have := hs 0 o rfl
      simp at this
      subst this
      exact .som h1 (ih (by simpa using hl) fun j o e => by simpa using hs (j + 1) o (by simpa using e))
section
variable {X : Cx} {W : WX} {S : Nat → Bool} {pos : Pos}
def xSet (i : Nat) (r : R (D × Ev)) : SR := match r with
  | .ok (d, env1) => if i < env1.length then .nx (env1.set i (some (.d d))) else .no
  | _ => .no
def sXSet (i : Nat) (f : Ev → R (D × Ev)) (env : Ev) : SR := xSet i (f env)
def sXRet (f : Ev → R (D × Ev)) (env : Ev) : SR := match f env with
  | .ok (d, env1) => .rt (.d d) env1
  | _ => .no
/-- tuple(e), list handed -/
def xCa (g : List D → Option Ow) (fa : Ev → R (List D × Ev)) (env : Ev) : R (D × Ev) := (fa env).bind fun p => match g p.1 with
  | some r => .ok (viewD r, p.2)
  | none => .no
end
section
variable {P : Program} {w : World} {K : PySem.W.Frag} {mg : Str → Option Value} {base : Heap}
end
end Mir
end
set_option Elab.async false
set_option linter.all false
set_option maxRecDepth 100000
set_option maxHeartbeats 4000000
noncomputable section
namespace RT
open PySem PySem.Spec PyProof.Rows
section
variable {prog : Program} {w : World} {A : Around} {E : Value → Shared → Prop} {s : Shared}
end
end RT
namespace Mir
open PySem PySem.Spec PyProof.Rows L2 RT
section
variable {X : Cx} {W : WX}
def gListRev : D → Option Ow
  | .list ds => some (.l (ds.reverse.map Ow.d))
  | _ => none
@[simp] theorem gListRev_list (ds : List D) : gListRev (.list ds) = some (.l (ds.reverse.map Ow.d)) := rfl
theorem DpAll.reverse {K : PySem.W.Frag} {H : Hp} : ∀ {ds : List D} {vs : List V}, DpAll K H vs ds → DpAll K H vs.reverse ds.reverse
  | [], _, h => by cases h; exact .nil
  | d :: ds, _, h => by
    cases h with
    | cons h1 h2 =>
      rw [List.reverse_cons, List.reverse_cons]
      exact Mir.DpAll.append (DpAll.reverse h2) (.cons h1 .nil)
def eListRev (f : Ev → R D) (env : Ev) : R Ow := (f env).bind fun d => R.of (gListRev d)
@[simp] theorem eListRev_eq (f : Ev → R D) (env : Ev) : eListRev f env = (f env).bind fun d => R.of (gListRev d) := rfl
end
end Mir
end
set_option Elab.async false
set_option linter.all false
set_option maxRecDepth 100000
set_option maxHeartbeats 4000000
noncomputable section
namespace Mir
open PySem PySem.Spec PyProof.Rows L2
def repS (z : Str) (n : Nat) : Str := ⟨(List.replicate n z.cps.toList).flatten.toArray⟩
section
variable {X : Cx} {W : WX} {a b : Expr} {pos : Pos} {f g : Ev → R D}
def gMulS : D → D → Option D
  | .int i, .int j => gMul (.int i) (.int j)
  | .str z, .int n => if 1 ≤ n ∧ n ≤ 1000000 ∧ z.length * n.toNat ≤ sizeLine then some (.str (repS z n.toNat)) else none
  | _, _ => none
@[simp] theorem gMulS_int (i j : Int) : gMulS (.int i) (.int j) = gMul (.int i) (.int j) := rfl
def gIsB : D → D → Option D
  | .bool p, .bool q => some (.bool (p == q))
  | _, _ => none
def gNotB : D → D → Option D
  | .bool p, .bool q => some (.bool (!(p == q)))
  | _, _ => none
@[simp] theorem gIsB_bool (p q : Bool) : gIsB (.bool p) (.bool q) = some (.bool (p == q)) := rfl
@[simp] theorem gNotB_bool (p q : Bool) : gNotB (.bool p) (.bool q) = some (.bool (!(p == q))) := rfl
section
variable {F G : Ev → R (D × Ev)}
end
end
end Mir
end
set_option Elab.async false
set_option linter.all false
set_option maxRecDepth 100000
set_option maxHeartbeats 4000000
noncomputable section
namespace Mir
open PySem PySem.Spec L2
section
variable {X : Cx} {W : WX} {S : Nat → Bool} {pos : Pos}
/-- a target stored from an expression that changes own lists -/
def sXAsg (g : D → Ev → Option Ev) (f : Ev → R (D × Ev)) (env : Ev) : SR := match f env with
  | .ok (d, env1) => match g d env1 with
    | some env2 => .nx env2
    | none => .no
  | _ => .no
theorem ds_xasg {e : Expr} {f : Ev → R (D × Ev)} {g : D → Ev → Option Ev} {tg : Expr} {ix : List Nat} (he : DXF X e f) (hg : DG X tg ix g) (hs : swapsWithSole [tg] e pos.line X.env = pure false := by rfl) (hw : swappedStores [tg] e X.env = pure none := by rfl)
    (h1 : (assignEach [tg] X.env).map (·.2) = [assign tg X.env] := by rfl) (hS : ix.all S = true := by rfl) : DS X W S (.Assign [tg] e pos) (sXAsg g f) := by
  obtain ⟨t, p, s⟩ := he
  refine ⟨_, ps_asg p hg hs hw h1, fun F H σ env fp D sat h => ?_⟩
  refine s F H σ env fp _ sat ?_
  unfold sXAsg at h
  cases e : f env with
  | no => rw [e] at h; exact h
  | ex c => rw [e] at h; exact h
  | ok pr =>
    obtain ⟨d, env1⟩ := pr
    rw [e] at h
    intro v F1 H1 fp1 st sat1 q
    have h' : PostS X W S σ F H fp D (match g d env1 with
      | some env2 => .nx env2
      | none => .no) := h
    split at h'
    · rename_i env2 e2
      exact ⟨F1, env1, fp1, d, env2, sat1, q, e2, fun σ' fp' sat' sub off => h' σ' F1 H1 fp' (.of off hS) (st.subset sub) sat'⟩
    · exact h'.elim
end
def flatD : D → Bool
  | .none => true
  | .bool _ => true
  | .int _ => true
  | .str _ => true
  | _ => false
def flatR : R Ow → R D
  | .ok (.d x) => if flatD x = true then .ok x else .no
  | .ex c => .ex c
  | _ => .no
def eCallV (m : List D → R Ow) (fa : Ev → R (List D)) (env : Ev) : R D := (fa env).bind fun ds => flatR (m ds)
@[simp] theorem eCallV_eq (m : List D → R Ow) (fa : Ev → R (List D)) (env : Ev) : eCallV m fa env = (fa env).bind fun ds => flatR (m ds) := rfl
@[simp] theorem flatR_bool (b : Bool) : flatR (.ok (.d (.bool b))) = .ok (.bool b) := rfl
@[simp] theorem flatR_int (b : Int) : flatR (.ok (.d (.int b))) = .ok (.int b) := rfl
@[simp] theorem flatR_none : flatR (.ok (.d .none)) = .ok .none := rfl
section
variable {X : Cx} {W : WX} {e : Expr} {es : List Expr} {pos p : Pos}
end
section
variable (env : Ev)
theorem lstAt_of {i : Nat} {env : Ev} {dk : List D} (h : env[i]? = some (some (.l (dk.map Ow.d)))) : lstAt i env = some dk := by unfold lstAt; rw [h]; exact unDs_map dk
@[simp] theorem lstAt_0 (dk : List D) : lstAt 0 (some (.l (dk.map Ow.d)) :: env) = some dk := lstAt_of rfl
@[simp] theorem lstAt_0n : lstAt 0 (some (.l []) :: env) = some [] := rfl
@[simp] theorem lstAt_s (i : Nat) (x : Option Ow) : lstAt (i + 1) (x :: env) = lstAt i env := by unfold lstAt; rw [List.getElem?_cons_succ]
@[simp] theorem xP_eq (f : Ev → R D) : xP f env = match f env with
  | .ok d => .ok (d, env)
  | _ => .no := rfl
@[simp] theorem xBin_eq (g : D → D → Option D) (f h : Ev → R (D × Ev)) : xBin g f h env = (f env).bind fun p => (h p.2).bind fun q => (R.of (g p.1 q.1)).bind fun d => .ok (d, q.2) := rfl
@[simp] theorem xNil_eq : xNil env = .ok ([], env) := rfl
@[simp] theorem xCons_eq (f : Ev → R (D × Ev)) (g : Ev → R (List D × Ev)) : xCons f g env = (f env).bind fun p => (g p.2).bind fun q => .ok (p.1 :: q.1, q.2) := rfl
@[simp] theorem xCall_eq (m : List D → R Ow) (fa : Ev → R (List D × Ev)) : xCall m fa env = (fa env).bind fun p => match m p.1 with
  | .ok r => .ok (viewD r, p.2)
  | _ => .no := rfl
@[simp] theorem xCa_eq (g : List D → Option Ow) (fa : Ev → R (List D × Ev)) : xCa g fa env = (fa env).bind fun p => match g p.1 with
  | some r => .ok (viewD r, p.2)
  | none => .no := rfl
@[simp] theorem sXSet_eq (i : Nat) (f : Ev → R (D × Ev)) : sXSet i f env = match f env with
  | .ok (d, env1) => if i < env1.length then .nx (env1.set i (some (.d d))) else .no
  | _ => .no := by unfold sXSet xSet; rfl
@[simp] theorem sXRet_eq (f : Ev → R (D × Ev)) : sXRet f env = match f env with
  | .ok (d, env1) => .rt (.d d) env1
  | _ => .no := rfl
@[simp] theorem sXAsg_eq (g : D → Ev → Option Ev) (f : Ev → R (D × Ev)) : sXAsg g f env = match f env with
  | .ok (d, env1) => match g d env1 with
    | some env2 => .nx env2
    | none => .no
  | _ => .no := rfl
theorem xPop_of {i : Nat} {env : Ev} {dk : List D} {d : D} (h : env[i]? = some (some (.l ((dk ++ [d]).map Ow.d)))) : xPop i env = .ok (d, env.set i (some (.l (dk.map Ow.d)))) := by
  unfold xPop
  rw [lstAt_of h]
  simp
end
end Mir
end
set_option Elab.async false
set_option linter.all false
set_option maxRecDepth 100000
set_option maxHeartbeats 4000000
noncomputable section
namespace Mir
open PySem PySem.Spec PyProof.Rows L2
def strsD : List D → Option (List Str)
  | [] => some []
  | .str z :: ds => (strsD ds).map fun zs => z :: zs
  | _ :: _ => none
theorem strsD_dp {K : PySem.W.Frag} {F : Hp} : ∀ {ds : List D} {vs : List V} {zs : List Str}, DpAll K F vs ds → strsD ds = some zs → vs = zs.map V.str
  | [], vs, zs, h, e => by cases h; cases e; rfl
  | d :: ds, vs, zs, h, e => by
    cases h with
    | cons h1 h2 =>
      unfold strsD at e
      split at e
      · rename_i he; cases he
      · rename_i z ds' he
        cases he
        obtain ⟨ws, w1, rfl⟩ := Option.map_eq_some_iff.mp e
        rw [strsD_dp h2 w1, List.map_cons]
        cases dp_str h1
        rfl
      · cases e
section
variable {X : Cx} {W : WX} {o e : Expr} {apos pos : Pos} {f g : Ev → R D}
end
end Mir
end
set_option Elab.async false
set_option linter.all false
set_option maxRecDepth 100000
set_option maxHeartbeats 4000000
noncomputable section
namespace Mir
open PySem PySem.Spec PyProof.Rows L2
section
variable {X : Cx} {W : WX} {S : Nat → Bool} {e a b : Expr} {es : List Expr} {pos p : Pos} {x : Str}
def xTup (f : Ev → R (List D × Ev)) (env : Ev) : R (D × Ev) := (f env).bind fun p => guard (p.1.length ≤ sizeLine) (.ok (.tuple p.1, p.2))
def xBinO (g : D → D → Option Ow) (f h : Ev → R (D × Ev)) (env : Ev) : R (D × Ev) := (f env).bind fun p => (h p.2).bind fun q => (R.of (g p.1 q.1)).bind fun o => .ok (viewD o, q.2)
def xRg1 (f : Ev → R (List D × Ev)) (env : Ev) : R (List D × Ev) := (f env).bind fun p => (rg1 p.1).bind fun ds => .ok (ds, p.2)
end
section
variable {X : Cx} {W : WX} {S : Nat → Bool} {e : Expr} {pos cpos apos npos : Pos} {x : Str}
section
variable (env : Ev)
@[simp] theorem xTup_eq (f : Ev → R (List D × Ev)) : xTup f env = (f env).bind fun p => guard (p.1.length ≤ sizeLine) (.ok (.tuple p.1, p.2)) := rfl
@[simp] theorem xBinO_eq (g : D → D → Option Ow) (f h : Ev → R (D × Ev)) : xBinO g f h env = (f env).bind fun p => (h p.2).bind fun q => (R.of (g p.1 q.1)).bind fun o => .ok (viewD o, q.2) := rfl
@[simp] theorem xRg1_eq (f : Ev → R (List D × Ev)) : xRg1 f env = (f env).bind fun p => (rg1 p.1).bind fun ds => .ok (ds, p.2) := rfl
end
end
end Mir
end
set_option Elab.async false
set_option linter.all false
set_option maxRecDepth 100000
set_option maxHeartbeats 4000000
noncomputable section
namespace Mir
open PySem PySem.Spec PyProof.Rows L2
def pairsD : List D → Option (List (Str × D))
  | [] => some []
  | .tuple [.str k, v] :: ds => (pairsD ds).map fun r => (k, v) :: r
  | _ :: _ => none
/-- the last pair of the key -/
def lastP : List (Str × D) → Str → Option D
  | [], _ => none
  | p :: ps, k => (lastP ps k).or (if p.1 = k then some p.2 else none)
def asPairs : D → Option (List (Str × D))
  | .list ds => pairsD ds
  | _ => none
def lookP (ps : List (Str × D)) : D → Option D
  | .str k => lastP ps k
  | _ => none
def eDictIx (f g : Ev → R D) (env : Ev) : R D := (f env).bind fun d => match asPairs d with
  | none => .no
  | some ps => (g env).bind fun k => R.of (lookP ps k)
def inP (ps : List (Str × D)) (no : Bool) : D → Option D
  | .str k => some (.bool ((lastP ps k).isSome != no))
  | _ => none
def eInDict (no : Bool) (g f : Ev → R D) (env : Ev) : R D := (g env).bind fun k => (f env).bind fun d => match asPairs d with
  | none => .no
  | some ps => R.of (inP ps no k)
@[simp] theorem eDictIx_eq (f g : Ev → R D) (env : Ev) : eDictIx f g env = (f env).bind fun d => match asPairs d with
  | none => .no
  | some ps => (g env).bind fun k => R.of (lookP ps k) := rfl
@[simp] theorem eInDict_eq (no : Bool) (g f : Ev → R D) (env : Ev) : eInDict no g f env = (g env).bind fun k => (f env).bind fun d => match asPairs d with
  | none => .no
  | some ps => R.of (inP ps no k) := rfl
@[simp] theorem lookP_str (ps : List (Str × D)) (k : Str) : lookP ps (.str k) = lastP ps k := rfl
@[simp] theorem inP_str (ps : List (Str × D)) (no : Bool) (k : Str) : inP ps no (.str k) = some (.bool ((lastP ps k).isSome != no)) := rfl
theorem pairsD_map {α : Type} (f : α → Str) (g : α → D) : ∀ xs : List α, pairsD (xs.map fun x => .tuple [.str (f x), g x]) = some (xs.map fun x => (f x, g x))
  | [] => rfl
  | x :: xs => by rw [List.map_cons, pairsD, pairsD_map f g xs]; rfl
/-- the pairs as the dict has them -/
def KV (K : PySem.W.Frag) (F : Hp) (kv : Key × V) (p : Str × D) : Prop := kv.1 = Sum.inr p.1 ∧ Dp K F kv.2 p.2
theorem pairs_dp {K : PySem.W.Frag} {F : Hp} : ∀ {ds : List D} {xs : List V} {ps : List (Str × D)}, DpAll K F xs ds → pairsD ds = some ps →
    ∃ (as : List Addr) (kvs : List (Key × V)), xs = as.map V.ref ∧ Paired (fun a kv => SqT K F a [kV kv.1, kv.2]) as kvs ∧ Paired (KV K F) kvs ps
  | [], xs, ps, h, e => by
    cases h
    cases e
    exact ⟨[], [], rfl, .nil, .nil⟩
  | d :: ds, xs, ps, h, e => by
    cases h with
    | cons h1 h2 =>
      unfold pairsD at e
      split at e
      · rename_i he; cases he
      · rename_i k v ds' he
        cases he
        obtain ⟨r, r1, rfl⟩ := Option.map_eq_some_iff.mp e
        obtain ⟨as, kvs, a1, a2, a3⟩ := pairs_dp h2 r1
        obtain ⟨a, vs, rfl, q1, q2⟩ := dp_tup h1
        obtain ⟨u, w, rfl, w1, w2⟩ := daf2 q2
        cases dp_str w1
        exact ⟨a :: as, (Sum.inr k, w) :: kvs, by rw [a1]; rfl, .cons q1 a2, .cons ⟨rfl, w2⟩ a3⟩
      · cases e
theorem paired_up {K : PySem.W.Frag} {F H : Hp} (s : Same F H) : ∀ {as : List Addr} {kvs : List (Key × V)}, Paired (fun a kv => SqT K F a [kV kv.1, kv.2]) as kvs → Paired (fun a kv => SqT K H a [kV kv.1, kv.2]) as kvs
  | _, _, .nil => .nil
  | _, _, .cons h t => .cons (SqT_mono s h) (paired_up s t)
theorem merge_none {K : PySem.W.Frag} {F : Hp} (k : Str) : ∀ {kvs : List (Key × V)} {ps : List (Str × D)} (acc : List (Key × V)), Paired (KV K F) kvs ps → lastP ps k = none → valV (mergeK acc kvs) (Sum.inr k) = valV acc (Sum.inr k)
  | _, _, acc, .nil, _ => rfl
  | kv :: kvs, p :: ps, acc, .cons h t, hl => by
    have e : mergeK acc (kv :: kvs) = mergeK (putK acc kv.1 kv.2) kvs := rfl
    rw [e]
    unfold lastP at hl
    cases hl2 : lastP ps k with
    | some d' => rw [hl2] at hl; cases hl
    | none =>
      rw [hl2] at hl
      simp only [Option.none_or] at hl
      split at hl
      · cases hl
      · rename_i c
        rw [merge_none k (putK acc kv.1 kv.2) t hl2, valV_put, if_neg (by
          rw [h.1]
          exact fun z => c (Sum.inr.inj z).symm)]
theorem merge_some {K : PySem.W.Frag} {F : Hp} (k : Str) : ∀ {kvs : List (Key × V)} {ps : List (Str × D)} (acc : List (Key × V)) (d : D), Paired (KV K F) kvs ps → lastP ps k = some d → ∃ v, valV (mergeK acc kvs) (Sum.inr k) = some v ∧ Dp K F v d
  | _, _, acc, d, .nil, h => by cases h
  | kv :: kvs, p :: ps, acc, d, .cons h t, hl => by
    have e : mergeK acc (kv :: kvs) = mergeK (putK acc kv.1 kv.2) kvs := rfl
    rw [e]
    unfold lastP at hl
    cases hl2 : lastP ps k with
    | some d' =>
      rw [hl2] at hl
      cases hl
      exact merge_some k (putK acc kv.1 kv.2) d t hl2
    | none =>
      rw [hl2] at hl
      simp only [Option.none_or] at hl
      split at hl
      · rename_i c
        cases hl
        have := merge_none k (putK acc kv.1 kv.2) t hl2
        rw [valV_put, if_pos (by rw [h.1, c])] at this
        exact ⟨kv.2, this, h.2⟩
      · cases hl
section
variable {X : Cx} {W : WX} {e key : Expr} {p pos cpos : Pos} {f g : Ev → R D}
theorem df_dictIx (hc : X.calm = true) (hu : X.A.units + 140 < cLine) (hg : Gl X "dict") (hm : X.mg "dict" = none) (ha : DL X W e f) (hb : DV X W key g) (hs : NoSl key := by exact fun _ _ => rfl)
    (he : starEach [e] X.env = (false, eval e X.env) :: starEach [] X.env := by rfl) : DF X W (.Subscript (.Call (.Name "dict" p) [e] [] cpos) key pos) (eDictIx f g) := by
  obtain ⟨ta, pa, sa⟩ := ha
  obtain ⟨tb, pb, sb⟩ := hb
  refine ⟨_, pe_dget (by omega) (pe_callTy (call_dictP hc) hg hm (by decide +kernel) (pa_cons pa pa_nil he) (by decide) (by decide) he rfl) pb hs, fun F H σ env fp Q sat hp => ?_⟩
  refine sa.go sat hp fun d v F1 H1 sat1 q _ h1 => ?_
  cases hps : asPairs d with
  | none => rw [hps] at h1; exact h1.elim
  | some ps =>
  rw [hps] at h1
  simp only at h1
  cases d with
  | list ds =>
    obtain ⟨a, xs, rfl, q1, q2⟩ := q
    obtain ⟨as, kvs, rfl, k1, k2⟩ := pairs_dp q2 hps
    refine ⟨a, as, kvs, rfl, q1, paired_up sat1.fh k1, fun p hpn => ?_⟩
    have x2 := Ext.own sat1.fh hpn (.dK (mergeK [] kvs))
    refine sb.go (sat1.ext x2) (Post.ext h1 x2) fun d' w F2 H2 sat2 q' x3 h2 => ?_
    obtain ⟨z, hz, h3⟩ := post_of h2
    cases d' with
    | str k =>
      cases dp_str q'
      obtain ⟨u, u1, u2⟩ := merge_some k [] z k2 hz
      exact ⟨p, u, rfl, .inl ⟨_, Sum.inr k, .inl (x3.hh _ _ upd_same), rfl, u1.symm⟩, h3 u F2 H2 (.refl sat2.fh) (dpUp u2 x3.ff)⟩
    | _ => cases hz
  | _ => cases hps
end
section
variable {X : Cx} {W : WX} {a b c : Expr} {pos : Pos} {f g h : Ev → R D}
end
end Mir
end
set_option Elab.async false
set_option linter.all false
set_option maxRecDepth 100000
set_option maxHeartbeats 4000000
noncomputable section
namespace Mir
open PySem PySem.Spec PyProof.Rows L2
theorem fits (x : Int) (h : -(2 ^ 62) ≤ x) (h' : x < 2 ^ 62) : Builtin.Range.rangeFitsLong x = true := by
  unfold Builtin.Range.rangeFitsLong
  simp only [Bool.and_eq_true, decide_eq_true_eq]
  constructor <;> omega
section
variable {X : Cx} {W : WX} {tg e e2 e3 : Expr} {p pos : Pos} {fa : Ev → R (List D)}
end
end Mir
end
set_option Elab.async false
set_option linter.all false
set_option maxRecDepth 100000
set_option maxHeartbeats 4000000
noncomputable section
namespace Mir
open PySem PySem.Spec PyProof.Rows L2
open AutoSeq1 (wpAny_loadPart')
section
variable {X : Cx} {W : WX} {S : Nat → Bool} {e : Expr} {pos cpos apos npos : Pos} {x : Str}
def asT : D → R (List D)
  | .tuple ds => .ok ds
  | _ => .no
@[simp] theorem asT_tup (ds : List D) : asT (.tuple ds) = .ok ds := rfl
def sExtT (i : Nat) (f : Ev → R D) (env : Ev) : SR := ownL i env fun os => (f env).st env fun d => (asT d).st env fun ds => if os.length + ds.length ≤ sizeLine then .nx (env.set i (some (.l (os ++ ds.map Ow.d)))) else .no
@[simp] theorem sExtT_eq (i : Nat) (f : Ev → R D) (env : Ev) : sExtT i f env = ownL i env fun os => (f env).st env fun d => (asT d).st env fun ds => if os.length + ds.length ≤ sizeLine then .nx (env.set i (some (.l (os ++ ds.map Ow.d)))) else .no := rfl
end
end Mir
end
set_option Elab.async false
set_option linter.all false
set_option maxRecDepth 100000
set_option maxHeartbeats 4000000
noncomputable section
namespace Mir
open PySem PySem.Spec PySem.Calls PyProof.Rows L2
def keyEq : D → D → Bool
  | .int i, .int j => i == j
  | .str x, .str y => x == y
  | _, _ => false
def isKey : D → Bool
  | .int _ => true
  | .str _ => true
  | _ => false
def getP (ps : List (D × D)) (k : D) : Option D := (ps.find? fun p => keyEq p.1 k).map (·.2)
def putP (ps : List (D × D)) (k v : D) : List (D × D) := if (ps.any fun p => keyEq p.1 k) = true then ps.map (fun p => if keyEq p.1 k = true then (p.1, v) else p) else ps ++ [(k, v)]
section
variable {X : Cx} {W : WX} {S : Nat → Bool} {e k : Expr} {pos tpos npos p2 : Pos} {x : Str} {f g : Ev → R D}
/-- {} -/
def eDictNew (_ : Ev) : R Ow := .ok (.m [])
@[simp] theorem eDictNew_eq (env : Ev) : eDictNew env = .ok (.m []) := rfl
/-- the own dict at a slot -/
def mAt (i : Nat) (env : Ev) : Option (List (D × D)) := match env[i]? with
  | some (some (.m ps)) => some ps
  | _ => none
/-- d[k], d any data that is a dict -/
def gGetD : D → D → Option D
  | .dict ps, k => if isKey k = true then getP ps k else none
  | _, _ => none
end
@[simp] theorem mAt_0 (ps : List (D × D)) (env : Ev) : mAt 0 (some (.m ps) :: env) = some ps := rfl
@[simp] theorem mAt_s (i : Nat) (x : Option Ow) (env : Ev) : mAt (i + 1) (x :: env) = mAt i env := by unfold mAt; rw [List.getElem?_cons_succ]
@[simp] theorem mAt_1 (a0 : Option Ow) (ps : List (D × D)) (env : Ev) : mAt 1 (a0 :: some (.m ps) :: env) = some ps := rfl
@[simp] theorem mAt_2 (a0 a1 : Option Ow) (ps : List (D × D)) (env : Ev) : mAt 2 (a0 :: a1 :: some (.m ps) :: env) = some ps := rfl
@[simp] theorem mAt_3 (a0 a1 a2 : Option Ow) (ps : List (D × D)) (env : Ev) : mAt 3 (a0 :: a1 :: a2 :: some (.m ps) :: env) = some ps := rfl
@[simp] theorem mAt_4 (a0 a1 a2 a3 : Option Ow) (ps : List (D × D)) (env : Ev) : mAt 4 (a0 :: a1 :: a2 :: a3 :: some (.m ps) :: env) = some ps := rfl
@[simp] theorem gGetD_dict (ps : List (D × D)) (k : D) : gGetD (.dict ps) k = if isKey k = true then getP ps k else none := rfl
@[simp] theorem isKey_int (i : Int) : isKey (.int i) = true := rfl
@[simp] theorem isKey_str (z : Str) : isKey (.str z) = true := rfl
end Mir
end
set_option Elab.async false
set_option linter.all false
set_option maxRecDepth 100000
set_option maxHeartbeats 4000000
noncomputable section
namespace Mir
open PySem PySem.Spec L2
section
variable {X : Cx} {W : WX} {S : Nat → Bool} {e k : Expr} {pos tpos npos p2 : Pos} {x : Str} {f g : Ev → R D}
/-- what a stateful expression tells, walked: a list -/
def xSeq (f : Ev → R (D × Ev)) (env : Ev) : R (List D × Ev) := (f env).bind fun p => match p.1 with
  | .list ds => .ok (ds, p.2)
  | _ => .no
@[simp] theorem xSeq_eq (f : Ev → R (D × Ev)) (env : Ev) : xSeq f env = (f env).bind fun p => match p.1 with
  | .list ds => .ok (ds, p.2)
  | _ => .no := rfl
end
end Mir
end
set_option Elab.async false
set_option linter.all false
set_option maxRecDepth 100000
set_option maxHeartbeats 4000000
noncomputable section
namespace Mir
open PySem PySem.Spec PyProof.Rows L2
/-- what is to be known of an own class over ValueError -/
structure ExcT (K : PySem.W.Frag) (mg : Str → Option Value) (x : Str) (C : Addr) : Prop where
  gC : mg x = some (.ref C)
  ex : PySem.W.excIn K C [.type "ValueError", .type "Exception", .type "BaseException", .type "object"] "ValueError.__new__" = true
  kC : PySem.W.keepIn K (.ref C) = true
  bP : PySem.W.subIn K (.ref C) (.type "BaseException") = some true
  tP : PySem.W.typeIn K (.ref C) = some (.type "type")
def sRaise (x : Str) (env : Ev) : SR := .ex x env
@[simp] theorem sRaise_eq (x : Str) (env : Ev) : sRaise x env = .ex x env := rfl
section
variable {X : Cx} {W : WX} {S : Nat → Bool} {pos p p2 np pos' : Pos} {x m : Str} {j : Nat} {C : Addr}
theorem PSs.imp {st : List Stmt} {t t' : TS} (h : PSs X st t) (k : ∀ D σ H, t' D σ H → t D σ H) : PSs X st t' := ⟨fun pins s σ H D I q => h.run pins s σ H D I (k D σ H q)⟩
/-- canonical: what a block's mirror asks -/
def tsOf (X : Cx) (W : WX) (S : Nat → Bool) (f : Ev → SR) : TS := fun D σ H => ∃ F env fp, Sat X.K F H σ env fp ∧ PostS X W S σ F H fp D (f env)
theorem DSs.can {st : List Stmt} {f : Ev → SR} (h : DSs X W S st f) : PSs X st (tsOf X W S f) := by
  obtain ⟨t, p, s⟩ := h
  refine PSs.imp p ?_
  rintro D σ H ⟨F, env, fp, sat, h⟩
  exact s F H σ env fp D sat h
end
section
variable {X : Cx} {W : WX} {S : Nat → Bool} {i : Nat} {a : Addr} {pos p p2 np pos' : Pos} {x n T : Str} {e e1 e2 : Expr} {g g1 g2 : Ev → R D}
/-- a flat name -/
def eFlat (k : Nat) (env : Ev) : R D := (eVar k env).bind fun d => if flatD d = true then .ok d else .no
@[simp] theorem eFlat_eq (k : Nat) (env : Ev) : eFlat k env = (eVar k env).bind fun d => if flatD d = true then .ok d else .no := rfl
/-- int(a truth) -/
def eIntB (g : Ev → R D) (env : Ev) : R D := (g env).bind fun d => match d with
  | .bool b => .ok (.int (if b = true then 1 else 0))
  | _ => .no
@[simp] theorem eIntB_eq (g : Ev → R D) (env : Ev) : eIntB g env = (g env).bind fun d => match d with
  | .bool b => .ok (.int (if b = true then 1 else 0))
  | _ => .no := rfl
/-- + of whole numbers -/
def eAddI (g1 g2 : Ev → R D) (env : Ev) : R D := (g1 env).bind fun x => (g2 env).bind fun y => match x, y with
  | .int i, .int j => .ok (.int (i + j))
  | _, _ => .no
@[simp] theorem eAddI_eq (g1 g2 : Ev → R D) (env : Ev) : eAddI g1 g2 env = (g1 env).bind fun x => (g2 env).bind fun y => match x, y with
  | .int i, .int j => .ok (.int (i + j))
  | _, _ => .no := rfl
end
end Mir
end
set_option Elab.async false
set_option linter.all false
set_option maxRecDepth 100000
set_option maxHeartbeats 4000000
noncomputable section
namespace Mir
open PySem PySem.Spec PyProof.Rows L2
section
variable {X : Cx} {W : WX} {S : Nat → Bool} {i : Nat} {a : Addr} {pos p p2 np pos' : Pos} {x n T : Str} {e e1 e2 : Expr} {g g1 g2 : Ev → R D}
end
section
variable {K : PySem.W.Frag}
end
end Mir
end
set_option Elab.async false
set_option linter.all false
set_option maxRecDepth 100000
set_option maxHeartbeats 4000000
noncomputable section
namespace Mir
open PySem PySem.Spec PyProof.Rows L2
def gLtS : D → D → Option D
  | .str x, .str y => some (.bool (decide (x.cps.toList < y.cps.toList)))
  | _, _ => none
@[simp] theorem gLtS_str (x y : Str) : gLtS (.str x) (.str y) = some (.bool (decide (x.cps.toList < y.cps.toList))) := rfl
section
variable {X : Cx} {W : WX} {a b : Expr} {f g : Ev → R D} {pos : Pos}
end
end Mir
end
set_option Elab.async false
set_option linter.all false
set_option maxRecDepth 100000
set_option maxHeartbeats 4000000
noncomputable section
namespace Mir
open PySem PySem.Spec PyProof.Rows L2
section
variable {X : Cx} {W : WX} {S : Nat → Bool} {e k : Expr} {pos cpos apos npos tpos : Pos} {x : Str}
end
end Mir
end
set_option Elab.async false
set_option linter.all false
set_option maxRecDepth 100000
set_option maxHeartbeats 4000000
noncomputable section
namespace Mir
open PySem PySem.Spec PyProof.Rows L2
section
variable {K : PySem.W.Frag} {F H : Hp} {σ : L2.St} {env : Ev} {fp : List Addr}
end
section
variable {X : Cx} {W : WX} {S : Nat → Bool} {e k k2 : Expr} {pos cpos apos npos tpos tpos2 : Pos} {x : Str}
end
end Mir
end
set_option Elab.async false
set_option linter.all false
set_option maxRecDepth 100000
set_option maxHeartbeats 4000000
noncomputable section
namespace Mir
open PySem PySem.Spec PyProof.Rows L2
section
variable {X : Cx} {W : WX} {S : Nat → Bool} {e k : Expr} {es : List Expr} {pos cpos apos npos p p2 pos2 : Pos} {x : Str} {tg : Expr}
def mergeD (acc : List (D × D)) (ps : List (Str × D)) : List (D × D) := ps.foldl (fun acc p => putP acc (.str p.1) p.2) acc
def eDictOf (f : Ev → R D) (env : Ev) : R Ow := (f env).bind fun d => match asPairs d with
  | none => .no
  | some ps => .ok (.m (mergeD [] ps))
@[simp] theorem eDictOf_eq (f : Ev → R D) (env : Ev) : eDictOf f env = (f env).bind fun d => match asPairs d with
  | none => .no
  | some ps => .ok (.m (mergeD [] ps)) := rfl
def oNil (_ : Ev) : R (List Ow) := .ok []
def oCons (f : Ev → R Ow) (g : Ev → R (List Ow)) (env : Ev) : R (List Ow) := (f env).bind fun o => (g env).map fun os => o :: os
@[simp] theorem oNil_eq (env : Ev) : oNil env = .ok [] := rfl
@[simp] theorem oCons_eq (f : Ev → R Ow) (g : Ev → R (List Ow)) (env : Ev) : oCons f g env = (f env).bind fun o => (g env).map fun os => o :: os := rfl
def eLstO (f : Ev → R (List Ow)) (env : Ev) : R Ow := (f env).bind fun os => guard (os.length ≤ sizeLine) (.ok (.l os))
@[simp] theorem eLstO_eq (f : Ev → R (List Ow)) (env : Ev) : eLstO f env = (f env).bind fun os => guard (os.length ≤ sizeLine) (.ok (.l os)) := rfl
def eLenO (f : Ev → R Ow) (env : Ev) : R D := (f env).bind fun o => match o with
  | .l os => .ok (.int (os.length : Nat))
  | _ => .no
@[simp] theorem eLenO_eq (f : Ev → R Ow) (env : Ev) : eLenO f env = (f env).bind fun o => match o with
  | .l os => .ok (.int (os.length : Nat))
  | _ => .no := rfl
end
end Mir
end
set_option Elab.async false
set_option linter.all false
set_option maxRecDepth 100000
set_option maxHeartbeats 4000000
noncomputable section
namespace Mir
open PySem PySem.Spec PyProof.Rows L2
section
variable {K : PySem.W.Frag} {F H : Hp} {σ : L2.St} {env : Ev} {fp : List Addr}
end
section
variable {X : Cx} {W : WX} {S : Nat → Bool} {e k k2 : Expr} {pos npos tpos tpos2 : Pos} {x : Str}
end

section
variable {X : Cx} {W : WX} {S : Nat → Bool} {e : Expr} {st : Stmt} {fs : Ev → SR}
/-- an item of an own list, which is data -/
def asD : Ow → R D
  | .d x => .ok x
  | _ => .no
@[simp] theorem asD_d (x : D) : asD (.d x) = .ok x := rfl
end
end Mir
end
set_option Elab.async false
set_option linter.all false
set_option maxRecDepth 100000
set_option maxHeartbeats 4000000
noncomputable section
namespace Mir
open PySem PySem.Spec L2
section
variable {X : Cx} {es : List Expr} {pos : Pos}
def xLst (f : Ev → R (List D × Ev)) (env : Ev) : R (D × Ev) := (f env).bind fun p => guard (p.1.length ≤ sizeLine) (.ok (.list p.1, p.2))
@[simp] theorem xLst_eq (f : Ev → R (List D × Ev)) (env : Ev) : xLst f env = (f env).bind fun p => guard (p.1.length ≤ sizeLine) (.ok (.list p.1, p.2)) := rfl
end
end Mir
end
set_option Elab.async false
set_option linter.all false
set_option maxRecDepth 100000
set_option maxHeartbeats 4000000
noncomputable section
namespace Mir
open PySem PySem.Spec L2
section
variable {X : Cx} {W : WX} {S : Nat → Bool} {pos : Pos} {e a b : Expr} {x : Str} {npos : Pos}
end
end Mir
end
set_option Elab.async false
set_option linter.all false
set_option maxRecDepth 100000
set_option maxHeartbeats 4000000
noncomputable section
namespace Mir
open PySem PySem.Spec PyProof.Rows L2
section
variable {X : Cx} {W : WX} {o e : Expr} {apos cpos : Pos} {f g : Ev → R D}
def rTxIndex (x : V) (xs : List V) (H : Hp) (Q : VK) : Prop := ∃ a y i rest, x = .str a ∧ xs = [.str y] ∧ Builtin.Str.occurrences a y 0 a.length 1 = i :: rest ∧ Q (.int (i : Nat)) H
theorem mt_txIndex : MtR X "str.index" rTxIndex := by
  intro pins s σ H x xs v us Q I rx rv h
  obtain ⟨a, y, i, rest, rfl, rfl, ho, q⟩ := h
  obtain ⟨t, rfl⟩ := rx
  obtain ⟨u, rfl, ru⟩ := rv.one
  obtain ⟨t2, rfl⟩ := ru
  exact SC.index ho ⟨.int (i : Nat), H, I.tok _, ⟨_, rfl⟩, q⟩
def firstAt (z : Str) : List Str → Nat → Option Nat
  | [], _ => none
  | y :: ys, k => if (y == z) = true then some k else firstAt z ys (k + 1)
/-- x.index(y): a text in a text, or among texts -/
def gIndex : D → D → Option D
  | .str a, .str y => match Builtin.Str.occurrences a y 0 a.length 1 with
    | i :: _ => some (.int (i : Nat))
    | [] => none
  | .list ds, .str z => (strsD ds).bind fun ys => (firstAt z ys 0).map fun j => .int (j : Nat)
  | _, _ => none
def eTxIndex (f g : Ev → R D) (env : Ev) : R D := (f env).bind fun d => match d with
  | .str a => (g env).bind fun y => R.of (gIndex (.str a) y)
  | _ => .no
theorem df_txIndex (ho : DV X W o f) (he : DV X W e g)
    (hbase : attributeBase o "index" X.env (eval o X.env) = eval o X.env := by rfl)
    (hfew : ((backTo cpos (starEach [e] X.env)).all (fun x => !x.1) && (backToKw cpos (keywordEach [] X.env)).all (fun x => x.1.isSome) && decide ([e].length + ([] : List Keyword).length + (if ([] : List Keyword).isEmpty then 0 else 1) < 30)) = true := by rfl)
    (hline : (apos.endLine == cpos.line) = true := by rfl) (hst : starEach [e] X.env = (false, eval e X.env) :: starEach [] X.env := by rfl) (hplain : (backTo cpos (starEach [] X.env)).any (·.1) = false := by rfl) :
    DF X W (.Call (.Attribute o "index" apos) [e] [] cpos) (eTxIndex f g) := by
  obtain ⟨ta, pa, sa⟩ := ho
  obtain ⟨tb, pb, sb⟩ := he
  refine ⟨_, pe_bm PySem.F.plainAttrs_str PySem.F.slot_str_index PySem.F.type_str_index mt_txIndex pa (pa_cons pb pa_nil hst) hbase hfew hline hst hplain, fun F H σ env fp Q sat hp => ?_⟩
  refine sa.go sat hp fun d v F1 H1 sat1 q _ h1 => ?_
  cases d with
  | str a =>
    cases dp_str q
    refine ⟨rfl, ?_⟩
    refine sb.go sat1 h1 fun d' y F2 H2 sat2 q' x2 h2 => ?_
    obtain ⟨r, hr, h3⟩ := post_of h2
    cases d' with
    | str b =>
      cases dp_str q'
      have hr : (match Builtin.Str.occurrences a b 0 a.length 1 with
        | i :: _ => some (PyData.int (i : Nat))
        | [] => none) = some r := hr
      cases ho : Builtin.Str.occurrences a b 0 a.length 1 with
      | nil => rw [ho] at hr; cases hr
      | cons i rest =>
        rw [ho] at hr
        cases hr
        exact ⟨a, b, i, rest, rfl, rfl, ho, h3 _ F2 H2 (.refl sat2.fh) (.int _)⟩
    | _ => cases hr
  | _ => exact h1.elim
end
end Mir
end
set_option Elab.async false
set_option linter.all false
set_option maxRecDepth 100000
set_option maxHeartbeats 4000000
noncomputable section
namespace Mir
open PySem PySem.Spec PyProof.Rows L2
theorem minD_strs : ∀ (zs : List Str) (z : Str), ∃ m, PySem.W.minD (.str z) (zs.map PyData.str) = .str m
  | [], z => ⟨z, rfl⟩
  | y :: zs, z => by
    rw [List.map_cons]
    unfold PySem.W.minD
    rw [List.foldl_cons]
    by_cases c : PySem.W.dataLt (.str y) (.str z) = true
    · rw [if_pos c]; exact minD_strs zs y
    · rw [if_neg c]; exact minD_strs zs z
theorem readsAll_strs {h : Heap} : ∀ {us : List Value} {xs : List Str}, StrsAre us xs → ∃ as, ReadsAll h us (xs.map PyData.str) as
  | _, _, .nil => ⟨[], .nil⟩
  | _, _, .cons x t r => by
    obtain ⟨as, ra⟩ := readsAll_strs r
    exact ⟨[] ++ as, .cons (.str x t) ra⟩
theorem alike_str (xs : List Str) : PySem.W.AlikeAll (xs.map PyData.str) := by
  refine ⟨fun x hx y hy => ?_, fun x hx => ?_⟩
  · obtain ⟨a, _, rfl⟩ := List.mem_map.mp hx
    obtain ⟨b, _, rfl⟩ := List.mem_map.mp hy
    rfl
  · obtain ⟨a, _, rfl⟩ := List.mem_map.mp hx
    exact fun h => by cases h
theorem depth_strs (xs : List Str) : PyData.depthAll (xs.map PyData.str) = 0 := by
  induction xs with
  | nil => simp [PyData.depthAll]
  | cons x xs ih => rw [List.map_cons, PyData.depthAll, ih]; simp [PyData.depth]
section
variable {X : Cx} {W : WX}
def rMinS (K : PySem.W.Frag) : List V → Hp → VK → Prop := fun vs H Q => ∃ (a : Addr) (z : Str) (zs : List Str), vs = [V.ref a] ∧ SqL K H a ((z :: zs).map V.str) ∧ ∀ m, PySem.W.minD (.str z) (zs.map PyData.str) = .str m → Q (.str m) H
theorem cr_minS (hc : X.calm = true) (hu : X.A.units + 140 < cLine) : CallR X (.builtin "min") (rMinS X.K) := by
  intro pins s σ H vs us Q I r h
  obtain ⟨a, z, zs, rfl, hs, q⟩ := h
  obtain ⟨its, rv, hl, _⟩ := I.list hs
  rw [Vals.ref1 r]
  obtain ⟨as, ra⟩ := readsAll_strs (h := s.heap) rv.strs
  obtain ⟨m, em⟩ := minD_strs zs z
  refine PySem.W.min_list_data (x := .str z) (xs := zs.map PyData.str) (as := as) (I.ok.hd hc) hl.isList (by simpa using ra) ?_ ?_ fun i v h' tk bs hi hr hk => ?_
  · have := alike_str (z :: zs)
    rwa [List.map_cons] at this
  · have := depth_strs (z :: zs)
    rw [List.map_cons] at this
    rw [this]
    omega
  · rw [em] at hr
    cases hr with
    | str x t => exact ⟨.str m, H, I.kept hk, ⟨t, rfl⟩, q m em⟩
def gMinS : List D → Option Ow
  | [.list ds] => match strsD ds with
    | some (z :: zs) => some (.d (PySem.W.minD (.str z) (zs.map PyData.str)))
    | _ => none
  | _ => none
theorem caG_minS {K : PySem.W.Frag} : CaG K (rMinS K) gMinS := by
  intro F H vs ds o Q s h e q
  unfold gMinS at e
  split at e
  · split at e
    · rename_i ds' _ z zs e2
      cases e
      obtain ⟨v, rfl, w⟩ := psqs1 h
      obtain ⟨a, xs, rfl, q1, q2⟩ := w
      rw [strsD_dp q2 e2] at q1
      refine ⟨a, z, zs, rfl, q1, fun m hm => ?_⟩
      refine q _ _ _ (.refl s) (own_d ?_)
      rw [hm]
      exact .str m
    · cases e
  · cases e
theorem de_minS {x : Expr} {p pos : Pos} {f : Ev → R (List D)} (hu : X.A.units + 140 < cLine) (hc : X.calm = true) (hg : Gl X "min") (hm : X.mg "min" = none) (ha : DAl X W [x] f) (he : starEach [x] X.env = (false, eval x X.env) :: starEach [] X.env := by rfl) : DE X W (.Call (.Name "min" p) [x] [] pos) (eCa gMinS f) :=
  de_callB (cr_minS hc hu) caG_minS hg hm (by decide +kernel) ha (he := he)
end
end Mir
end
set_option Elab.async false
set_option linter.all false
set_option maxRecDepth 100000
set_option maxHeartbeats 4000000
namespace Mir
open PySem PySem.Spec L2

inductive Tr where
  | mk (nm : Str) (mk : Int) (bs : List Tr)
mutual
def encT : Tr → D
  | .mk nm k bs => .tuple [.str nm, .int k, .tuple (encTs bs)]
def encTs : List Tr → List D
  | [] => []
  | b :: bs => encT b :: encTs bs
end
mutual
def sizeT : Tr → Nat
  | .mk _ _ bs => 1 + sizeTs bs
def sizeTs : List Tr → Nat
  | [] => 0
  | b :: bs => sizeT b + sizeTs bs
end
mutual
def levT : Tr → Nat
  | .mk _ _ bs => levTs bs + 1
def levTs : List Tr → Nat
  | [] => 0
  | b :: bs => max (levT b) (levTs bs)
end
theorem encTs_map : ∀ bs : List Tr, encTs bs = bs.map encT
  | [] => by rw [encTs]; rfl
  | b :: bs => by rw [encTs, encTs_map bs]; rfl
theorem encT_mk (nm : Str) (k : Int) (bs : List Tr) : encT (.mk nm k bs) = .tuple [.str nm, .int k, .tuple (bs.map encT)] := by rw [encT, encTs_map]
theorem sizeTs_sum : ∀ bs : List Tr, sizeTs bs = (bs.map sizeT).sum
  | [] => by rw [sizeTs]; rfl
  | b :: bs => by rw [sizeTs, sizeTs_sum bs]; rfl
theorem levTs_le {n : Nat} : ∀ {bs : List Tr}, levTs bs ≤ n → ∀ b ∈ bs, levT b ≤ n
  | [], _, b, h => by simp at h
  | c :: bs, h, b, hb => by
    rw [levTs] at h
    rcases List.mem_cons.mp hb with e | e
    · subst e; omega
    · exact levTs_le (by omega) b e

structure TRow where
  nm : Str
  mar : Int
  up : Nat
theorem rangeCD_at {lo c : Int} {n i : Nat} {d : D} (h : (rangeCD lo c n)[i]? = some d) : i < n ∧ d = .int (lo + (i : Nat) * c) := by
  have hl : i < n := by have := (List.getElem?_eq_some_iff.mp h).1; simpa [rangeCD] using this
  refine ⟨hl, ?_⟩
  unfold rangeCD at h
  rw [List.getElem?_map, List.getElem?_range hl] at h
  exact (Option.some.inj h).symm
theorem rangeD_at {lo : Int} {n i : Nat} {d : D} (h : (rangeD lo n)[i]? = some d) : i < n ∧ d = .int (lo + (i : Nat)) := by
  have hl : i < n := by have := (List.getElem?_eq_some_iff.mp h).1; simpa [rangeD] using this
  refine ⟨hl, ?_⟩
  unfold rangeD at h
  rw [List.getElem?_map, List.getElem?_range hl] at h
  exact (Option.some.inj h).symm
end Mir
set_option Elab.async false
set_option linter.all false
set_option maxRecDepth 100000
set_option maxHeartbeats 4000000
namespace Mir
open PySem PySem.Spec L2

def kf (rs : List TRow) : Nat → Nat → List Nat
  | 0, _ => []
  | s + 1, j => if (rs[rs.length - 1 - s]?).map TRow.up = some j then (rs.length - 1 - s) :: kf rs s j else kf rs s j
def kids (rs : List TRow) (j : Nat) : List Nat := kf rs (rs.length - 1) j
abbrev zs (p : List Nat) : List Int := p.map fun k : Nat => (k : Int)

end Mir
set_option Elab.async false
set_option linter.all false
set_option maxRecDepth 100000
set_option maxHeartbeats 4000000
namespace Mir
open PySem PySem.Spec L2

theorem map_at {α β : Type} {f : α → β} {xs : List α} {i : Nat} {y : β} (h : (xs.map f)[i]? = some y) : ∃ x, xs[i]? = some x ∧ y = f x := by
  rw [List.getElem?_map] at h
  cases e : xs[i]? with
  | none => rw [e] at h; simp at h
  | some x => rw [e] at h; simp at h; exact ⟨x, rfl, h.symm⟩
theorem unDs_of {α : Type} (f : α → D) (xs : List α) : shD (.l (xs.map fun x => Ow.d (f x))) = .ok (.list (xs.map f)) := by
  have : (xs.map fun x => Ow.d (f x)) = (xs.map f).map Ow.d := by rw [List.map_map]; rfl
  rw [this, shD_l]
theorem viewAll_of {α : Type} (f : α → D) (xs : List α) : viewAll (xs.map fun x => Ow.d (f x)) = xs.map f := by
  rw [viewAll_map, List.map_map]
  rfl
theorem viewD_of {α : Type} (f : α → D) (xs : List α) : viewD (.l (xs.map fun x => Ow.d (f x))) = .list (xs.map f) := by
  rw [viewD_l, viewAll_of]
theorem rg3_all (n : Nat) (h : n ≤ 1000) : rg3 [.int ((n : Int) - 1), .int (-1), .int (-1)] = .ok (rangeCD ((n : Int) - 1) (-1) n) := by
  have e : ((n : Int) - 1 - -1).toNat = n := by omega
  have z : rg3 [.int ((n : Int) - 1), .int (-1), .int (-1)] = guard ((-1 : Int) = -1 ∧ -(2 ^ 62) ≤ (n : Int) - 1 ∧ (n : Int) - 1 < 2 ^ 62 ∧ -(2 ^ 62) ≤ (-1 : Int) ∧ (-1 : Int) < 2 ^ 62) (.ok (rangeCD ((n : Int) - 1) (-1) ((n : Int) - 1 - -1).toNat)) := rfl
  rw [z, guard_ok ⟨rfl, by omega, by omega, by decide, by decide⟩, e]
theorem str_len (z : Str) : z.length = z.cps.toList.length := by first | rfl | simp [Str.length]
theorem gMul_small {i j : Int} (h1 : i.natAbs < 2 ^ 250) (h2 : j.natAbs < 2 ^ 250) : gMul (.int i) (.int j) = some (.int (i * j)) := by
  refine gMul_int ?_
  have : ∀ n : Nat, n < 2 ^ 250 → n.log2 < 250 := fun n h => by
    by_cases e : n = 0
    · subst e; decide
    · exact (Nat.log2_lt e).mpr h
  unfold CMulW
  have a := this _ h1
  have b := this _ h2
  omega
theorem gDiv_small {i j : Int} (h1 : 0 < j) (h2 : j.natAbs < 2 ^ 250) : gDiv (.int i) (.int j) = some (.int (i / j)) := by
  refine gDiv_int ⟨h1, ?_⟩
  have := (Nat.log2_lt (n := j.natAbs) (k := 250) (by omega)).mpr h2
  omega
theorem gPow10 (k : Nat) (h : k ≤ 1000) : gPow (.int 10) (.int k) = some (.int (10 ^ k)) := by
  rw [gPow_int ⟨by omega, by omega, by decide⟩]
  simp
theorem cutL_take {α : Type} (xs : List α) (k : Nat) : cutL xs none (some (k : Int)) = xs.take k := by
  unfold cutL
  rw [HT.sIx_none, HT.sIx_nat, List.drop_zero, Nat.sub_zero]
  by_cases h : k ≤ xs.length
  · rw [Nat.min_eq_left h]
  · rw [Nat.min_eq_right (by omega), List.take_of_length_le (Nat.le_refl _), List.take_of_length_le (by omega)]
theorem cutL_drop {α : Type} (xs : List α) (k : Nat) : cutL xs (some (k : Int)) none = xs.drop k := by
  unfold cutL
  rw [HT.sIx_none, HT.sIx_nat]
  by_cases h : k ≤ xs.length
  · rw [Nat.min_eq_left h, List.take_of_length_le (by rw [List.length_drop]; exact Nat.le_refl _)]
  · rw [Nat.min_eq_right (by omega), List.drop_of_length_le (by omega), List.drop_of_length_le (by omega)]
    simp
theorem canAll_of : ∀ ds : List D, (∀ d ∈ ds, d.canLay0 = true) → PyData.canLayAll0 ds = true
  | [], _ => by simp [PyData.canLayAll0]
  | d :: ds, h => by
    rw [PyData.canLayAll0, h d List.mem_cons_self, canAll_of ds fun d hd => h d (List.mem_cons_of_mem _ hd)]
    rfl
theorem depthAll_of {n : Nat} : ∀ ds : List D, (∀ d ∈ ds, d.depth ≤ n) → PyData.depthAll ds ≤ n
  | [], _ => by simp [PyData.depthAll]
  | d :: ds, h => by
    rw [PyData.depthAll]
    have := h d List.mem_cons_self
    have := depthAll_of ds fun d hd => h d (List.mem_cons_of_mem _ hd)
    omega
/-- data that == can be asked of -/
def Nice (d : D) : Prop := d.canLay0 = true ∧ d.depth ≤ 130
theorem gEq_nice {d e : D} (h : Nice d) (g : Nice e) : gEq d e = some (.bool (PyData.eqv d e)) := by
  have z : eqOk d e = true := by unfold eqOk; simp [h.1, h.2, g.1]
  unfold gEq; rw [if_pos (by rw [z, Bool.or_true])]
theorem gNe_nice {d e : D} (h : Nice d) (g : Nice e) : gNe d e = some (.bool (!PyData.eqv d e)) := by
  have z : eqOk d e = true := by unfold eqOk; simp [h.1, h.2, g.1]
  unfold gNe; rw [if_pos (by rw [z, Bool.or_true])]
theorem eqv_self {d : D} (h : Nice d) : PyData.eqv d d = true := SeqAt.eqv_refl d h.1
theorem gEq_self {d : D} (h : Nice d) : gEq d d = some (.bool true) := by rw [gEq_nice h h, eqv_self h]
theorem gNe_self {d : D} (h : Nice d) : gNe d d = some (.bool false) := by rw [gNe_nice h h, eqv_self h]; rfl
mutual
def okT : Tr → Prop
  | .mk nm _ bs => PyData.strOk nm = true ∧ bs.length ≤ 1000 ∧ okTs bs
def okTs : List Tr → Prop
  | [] => True
  | b :: bs => okT b ∧ okTs bs
end
theorem okTs_iff : ∀ bs : List Tr, okTs bs ↔ ∀ b ∈ bs, okT b
  | [] => by simp [okTs]
  | b :: bs => by rw [okTs, okTs_iff bs]; simp
mutual
theorem can_encT : ∀ t : Tr, okT t → (encT t).canLay0 = true
  | .mk nm k bs, h => by
    rw [okT] at h
    rw [encT, PyData.canLay0]
    simp [PyData.canLayAll0, PyData.canLay0, h.1, can_encTs bs h.2.2]
theorem can_encTs : ∀ bs : List Tr, okTs bs → PyData.canLayAll0 (encTs bs) = true
  | [], _ => by simp [encTs, PyData.canLayAll0]
  | b :: bs, h => by
    rw [okTs] at h
    rw [encTs, PyData.canLayAll0, can_encT b h.1, can_encTs bs h.2]
    rfl
end
mutual
theorem depth_encT : ∀ t : Tr, (encT t).depth ≤ 2 * levT t
  | .mk nm k bs => by
    rw [encT, levT]
    have := depth_encTs bs
    simp only [PyData.depth, PyData.depthAll]
    omega
theorem depth_encTs : ∀ bs : List Tr, PyData.depthAll (encTs bs) ≤ 2 * levTs bs
  | [] => by simp [encTs, PyData.depthAll]
  | b :: bs => by
    rw [encTs, PyData.depthAll, levTs]
    have := depth_encT b
    have := depth_encTs bs
    omega
end
theorem nice_encT {t : Tr} (h : okT t) (hl : levT t ≤ 65) : Nice (encT t) := ⟨can_encT t h, by have := depth_encT t; omega⟩
abbrev abc : Str := "abcdefghijklmnopqrstuvwxyz"
end Mir
set_option Elab.async false
set_option linter.all false
set_option maxRecDepth 100000
set_option maxHeartbeats 4000000
namespace Mir
open PySem PySem.Spec L2

def tx (l : List Nat) : Str := ⟨l.toArray⟩
@[simp] theorem tx_cps (l : List Nat) : (tx l).cps.toList = l := by simp [tx]
@[simp] theorem tx_len (l : List Nat) : (tx l).length = l.length := by rw [str_len, tx_cps]
theorem tx_of (z : Str) : z = tx z.cps.toList := by
  cases z with
  | mk a => simp [tx]
theorem tx_app (a b : List Nat) : tx a ++ tx b = tx (a ++ b) := by
  show (⟨(tx a).cps ++ (tx b).cps⟩ : Str) = _
  simp [tx]
theorem tx_inj {a b : List Nat} (h : tx a = tx b) : a = b := by
  have := congrArg (fun z : Str => z.cps.toList) h
  simpa using this
theorem gIx_tx {l : List Nat} {i c : Nat} (h : l[i]? = some c) (hl : l.length ≤ 16777216) : gIx (.str (tx l)) (.int (i : Nat)) = some (.str (tx [c])) := by
  show (if (tx l).length ≤ sizeLine then (atI (tx l).cps.toList (i : Int)).map fun c => PyData.str ⟨#[c]⟩ else none) = _
  rw [tx_len, tx_cps, if_pos (by rw [sizeLine_eq]; exact hl), atI_natD h]
  rfl
theorem gSl_to {l : List Nat} {k : Nat} (hl : l.length ≤ 16777216) : gSl (.str (tx l)) none (some (k : Int)) = some (.d (.str (tx (l.take k)))) := by
  show (if (tx l).length ≤ sizeLine then some (Ow.d (.str (cutS (tx l) none (some (k : Int))))) else none) = _
  rw [tx_len, if_pos (by rw [sizeLine_eq]; exact hl)]
  unfold cutS
  rw [tx_len, tx_cps, HT.sIx_nat, HT.sIx_none, List.drop_zero, Nat.sub_zero]
  by_cases h : k ≤ l.length
  · rw [Nat.min_eq_left h]; rfl
  · rw [Nat.min_eq_right (by omega), List.take_of_length_le (Nat.le_refl _), List.take_of_length_le (by omega)]; rfl
theorem gAdd_tx {a b : List Nat} (h : a.length + b.length ≤ 16777216) : gAdd (.str (tx a)) (.str (tx b)) = some (.d (.str (tx (a ++ b)))) := by
  rw [gAdd_str (by rw [tx_len, tx_len, sizeLine_eq]; exact h), tx_app]
def isL (c : Nat) : Bool := decide (97 ≤ c) && decide (c ≤ 122)
theorem abc_is : abc.cps.toList = (List.range 26).map (fun k => 97 + k) := by decide +kernel
theorem empty_is : (Str.ofString "") = tx [] := by rw [tx_of (Str.ofString "")]; congr 1

end Mir
set_option Elab.async false
set_option linter.all false
set_option maxRecDepth 100000
set_option maxHeartbeats 4000000
namespace Mir
open PySem PySem.Spec L2
theorem abc_ix {k : Nat} (hk : k < 26) : gIx (.str abc) (.int (k : Int)) = some (.str (tx [97 + k])) := by
  rw [tx_of abc, abc_is]
  refine gIx_tx ?_ (by simp)
  rw [List.getElem?_map, List.getElem?_range hk]
  rfl
theorem strOk_tx {l : List Nat} (h : ∀ c ∈ l, c < 1000) : PyData.strOk (tx l) = true := by
  unfold PyData.strOk
  simp only [tx, List.all_toArray, List.all_eq_true, decide_eq_true_eq]
  intro c hc
  have := h c hc
  omega
theorem isL_small {c : Nat} (h : isL c = true) : c < 1000 := by
  unfold isL at h
  simp only [Bool.and_eq_true, decide_eq_true_eq] at h
  omega
end Mir
set_option Elab.async false
set_option linter.all false
set_option maxRecDepth 100000
set_option maxHeartbeats 4000000
namespace Mir
open PySem PySem.Spec L2

inductive Trm where
  | call (m b : Int)
  | put (nm : Str) (kp : Bool) (ad : Int) (ps : List Trm)
mutual
def encM : Trm → D
  | .call m b => .tuple [.str "call", .int m, .int b]
  | .put nm kp ad ps => .tuple [.str "put", .str nm, .bool kp, .int ad, .tuple (encMs ps)]
def encMs : List Trm → List D
  | [] => []
  | p :: ps => encM p :: encMs ps
end
mutual
def sizeM : Trm → Nat
  | .call _ _ => 1
  | .put _ _ _ ps => 1 + sizeMs ps
def sizeMs : List Trm → Nat
  | [] => 0
  | p :: ps => sizeM p + sizeMs ps
end
mutual
def levM : Trm → Nat
  | .call _ _ => 1
  | .put _ _ _ ps => levMs ps + 1
def levMs : List Trm → Nat
  | [] => 0
  | p :: ps => max (levM p) (levMs ps)
end
mutual
def callsM : Trm → List (Int × Int)
  | .call m b => [(m, b)]
  | .put _ _ _ ps => callsMs ps
def callsMs : List Trm → List (Int × Int)
  | [] => []
  | p :: ps => callsM p ++ callsMs ps
end
mutual
def okM : Trm → Prop
  | .call _ _ => True
  | .put nm _ _ ps => PyData.strOk nm = true ∧ ps.length ≤ 1000 ∧ okMs ps
def okMs : List Trm → Prop
  | [] => True
  | p :: ps => okM p ∧ okMs ps
end
theorem callsMs_flat : ∀ ps : List Trm, callsMs ps = (ps.map callsM).flatten
  | [] => by rw [callsMs]; rfl
  | p :: ps => by rw [callsMs, callsMs_flat ps]; rfl
theorem okMs_iff : ∀ ps : List Trm, okMs ps ↔ ∀ p ∈ ps, okM p
  | [] => by simp [okMs]
  | p :: ps => by rw [okMs, okMs_iff ps]; simp
theorem levMs_le {n : Nat} : ∀ {ps : List Trm}, levMs ps ≤ n → ∀ p ∈ ps, levM p ≤ n
  | [], _, b, h => by simp at h
  | c :: ps, h, b, hb => by
    rw [levMs] at h
    rcases List.mem_cons.mp hb with e | e
    · subst e; omega
    · exact levMs_le (by omega) b e
theorem str_eqv (a b : Str) : PyData.eqv (.str a) (.str b) = (a == b) := rfl
theorem gEq_strs (a b : String) : gEq (.str (Str.ofString a)) (.str (Str.ofString b)) = some (.bool (PyData.eqv (.str (Str.ofString a)) (.str (Str.ofString b)))) := rfl
@[simp] theorem gEq_cc : gEq (.str (Str.ofString "call")) (.str (Str.ofString "call")) = some (.bool true) := by
  have h : (Str.ofString "call" == Str.ofString "call") = true := by decide +kernel
  rw [gEq_strs, str_eqv, h]
@[simp] theorem gEq_pc : gEq (.str (Str.ofString "put")) (.str (Str.ofString "call")) = some (.bool false) := by
  have h : (Str.ofString "put" == Str.ofString "call") = false := by decide +kernel
  rw [gEq_strs, str_eqv, h]
@[simp] theorem gEq_cp : gEq (.str (Str.ofString "call")) (.str (Str.ofString "put")) = some (.bool false) := by
  have h : (Str.ofString "call" == Str.ofString "put") = false := by decide +kernel
  rw [gEq_strs, str_eqv, h]
@[simp] theorem gEq_pp : gEq (.str (Str.ofString "put")) (.str (Str.ofString "put")) = some (.bool true) := by
  have h : (Str.ofString "put" == Str.ofString "put") = true := by decide +kernel
  rw [gEq_strs, str_eqv, h]
theorem lcR_map {α : Type} {g : D → Ev → Option Ev} {c : Ev → R Bool} {e : Ev → R Ow} {env : Ev} (enc : α → D) (out : α → Ow) : ∀ xs : List α, (∀ a ∈ xs, ∃ env1, g (enc a) env = some env1 ∧ c env1 = .ok true ∧ e env1 = .ok (out a)) → lcR g c e env (xs.map enc) = .ok (xs.map out)
  | [], _ => rfl
  | a :: xs, q => by
    obtain ⟨env1, q1, q2, q3⟩ := q a List.mem_cons_self
    rw [List.map_cons]
    unfold lcR
    rw [q1]
    simp only [q2, q3, noEx_ok, R.bind_ok, if_true]
    rw [lcR_map enc out xs fun d hd => q d (List.mem_cons_of_mem _ hd)]
    rfl
theorem forL_map {α : Type} {g : D → Ev → Option Ev} {f : Ev → SR} (enc : α → D) (xs : List α) (I : Nat → Ev → Prop) (step : ∀ i a env, xs[i]? = some a → I i env → ∃ env1, g (enc a) env = some env1 ∧ ∃ env2, (f env1 = .nx env2 ∨ f env1 = .ct env2) ∧ I (i + 1) env2) (env : Ev) (h : I 0 env) : ∃ env', forL g f (xs.map enc) env = .nx env' ∧ I xs.length env' := by
  have := forL_ind (g := g) (f := f) (xs.map enc) I (fun i d env hd hi => by
    obtain ⟨a, ha, rfl⟩ := map_at hd
    exact step i a env ha hi) env h
  rwa [List.length_map] at this
noncomputable section
def encC (c : Int × Int) : D := .tuple [.int c.1, .int c.2]
abbrev encCs (cs : List (Int × Int)) : Ow := .l (cs.map fun c => .d (encC c))
end
end Mir
set_option Elab.async false
set_option linter.all false
set_option maxRecDepth 100000
set_option maxHeartbeats 4000000
namespace Mir
open PySem PySem.Spec L2

abbrev dkD (dk : List Int) : D := .list (dk.map PyData.int)
/-- what a deck's def tells: r, and the deck behind it -/
abbrev tells (r : D) (dk : List Int) : R Ow := .ok (.d (.tuple [r, dkD dk]))
noncomputable section
/-- a def that draws a number below most -/
def Draws (fd : List D → R Ow) : Prop := ∀ (dk : List Int) (most : Int), 0 < most → ∃ r dk', 0 ≤ r ∧ r < most ∧ fd (dkD dk :: [.int most]) = tells (.int r) dk'
end
end Mir
set_option Elab.async false
set_option linter.all false
set_option maxRecDepth 100000
set_option maxHeartbeats 4000000
namespace Mir
open PySem PySem.Spec L2

def mar : Tr → Int
  | .mk _ k _ => k

end Mir
set_option Elab.async false
set_option linter.all false
set_option maxRecDepth 100000
set_option maxHeartbeats 4000000
namespace Mir
open PySem PySem.Spec L2
noncomputable section
theorem levTs_of {n : Nat} : ∀ {bs : List Tr}, (∀ b ∈ bs, levT b ≤ n) → levTs bs ≤ n
  | [], _ => by rw [levTs]; omega
  | b :: bs, h => by
    rw [levTs]
    have := h b List.mem_cons_self
    have := levTs_of fun c hc => h c (List.mem_cons_of_mem _ hc)
    omega
end
end Mir
set_option Elab.async false
set_option linter.all false
set_option maxRecDepth 100000
set_option maxHeartbeats 4000000
namespace Mir
open PySem PySem.Spec L2

inductive Stp where
  | op
  | put (nm : Str) (k : Int) (ps : List Stp)
mutual
def encS : Stp → D
  | .op => .tuple [.str "open"]
  | .put nm k ps => .tuple [.str "put", .str nm, .int k, .tuple (encSs ps)]
def encSs : List Stp → List D
  | [] => []
  | p :: ps => encS p :: encSs ps
end

@[simp] theorem gNe_str (a b : Str) : gNe (.str a) (.str b) = some (.bool (!(a == b))) := rfl
@[simp] theorem gEq_oo : gEq (.str (Str.ofString "open")) (.str (Str.ofString "open")) = some (.bool true) := by
  have h : (Str.ofString "open" == Str.ofString "open") = true := by decide +kernel
  rw [gEq_strs, str_eqv, h]
@[simp] theorem gEq_po : gEq (.str (Str.ofString "put")) (.str (Str.ofString "open")) = some (.bool false) := by
  have h : (Str.ofString "put" == Str.ofString "open") = false := by decide +kernel
  rw [gEq_strs, str_eqv, h]
@[simp] theorem gIsi_str_str (z : Str) : gIsi "str" (.str z) = .ok (.bool true) := rfl
@[simp] theorem gIsi_bool_bool (b : Bool) : gIsi "bool" (.bool b) = .ok (.bool true) := rfl
section
variable (nm : Str) (k : Int) (ps : List Stp) (bs : List Tr)
theorem t_ix0 : gIx (encT (.mk nm k bs)) (.int 0) = some (.str nm) := by rw [encT_mk]; simp
theorem t_ix2 : gIx (encT (.mk nm k bs)) (.int 2) = some (.tuple (bs.map encT)) := by rw [encT_mk]; simp
end
noncomputable section
end
end Mir
set_option Elab.async false
set_option linter.all false
set_option maxRecDepth 100000
set_option maxHeartbeats 4000000
namespace Mir
open PySem PySem.Spec L2
noncomputable section
end
end Mir
set_option Elab.async false
set_option linter.all false
set_option maxRecDepth 100000
set_option maxHeartbeats 4000000
namespace Mir
open PySem PySem.Spec L2
mutual
def met : Stp → Stp → Stp
  | .op, _ => .op
  | .put nm k ps, o => match o with
    | .op => .op
    | .put nm' k' qs => bif (nm == nm') && ((k == k') && (ps.length == qs.length)) then .put nm k (mets ps qs) else .op
def mets : List Stp → List Stp → List Stp
  | [], _ => []
  | p :: ps, qs => match qs with
    | [] => []
    | q :: qs => met p q :: mets ps qs
end
theorem met_op (o : Stp) : met .op o = .op := by rw [met]
theorem met_op2 (s : Stp) : met s .op = .op := by cases s <;> rw [met]
theorem met_put (nm nm' : Str) (k k' : Int) (ps qs : List Stp) : met (.put nm k ps) (.put nm' k' qs) = bif (nm == nm') && ((k == k') && (ps.length == qs.length)) then .put nm k (mets ps qs) else .op := by rw [met]
theorem met_same (nm : Str) (k : Int) {ps qs : List Stp} (h : ps.length = qs.length) : met (.put nm k ps) (.put nm k qs) = .put nm k (mets ps qs) := by
  rw [met_put]
  simp [h]
theorem met_unlike {nm nm' : Str} {k k' : Int} {ps qs : List Stp} (h : ¬ (nm = nm' ∧ k = k' ∧ ps.length = qs.length)) : met (.put nm k ps) (.put nm' k' qs) = .op := by
  rw [met_put]
  have : ((nm == nm') && ((k == k') && (ps.length == qs.length))) = false := by
    rw [Bool.eq_false_iff]
    intro c
    apply h
    simpa using c
  rw [this]
  rfl
theorem mets_nil (qs : List Stp) : mets [] qs = [] := by rw [mets]
theorem mets_nil2 (ps : List Stp) : mets ps [] = [] := by cases ps <;> rw [mets]
theorem mets_cons (p q : Stp) (ps qs : List Stp) : mets (p :: ps) (q :: qs) = met p q :: mets ps qs := by rw [mets]
theorem mets_zip : ∀ ps qs : List Stp, mets ps qs = List.zipWith met ps qs
  | [], qs => by rw [mets_nil]; rfl
  | p :: ps, [] => by rw [mets_nil2]; rfl
  | p :: ps, q :: qs => by rw [mets_cons, mets_zip ps qs]; rfl
theorem mets_len : ∀ ps qs : List Stp, (mets ps qs).length = min ps.length qs.length := fun ps qs => by rw [mets_zip, List.length_zipWith]
mutual
theorem met_comm : ∀ a b : Stp, met a b = met b a
  | .op, b => by rw [met_op, met_op2]
  | .put nm k ps, .op => by rw [met_op, met_op2]
  | .put nm k ps, .put nm' k' qs => by
    by_cases h : nm = nm' ∧ k = k' ∧ ps.length = qs.length
    · obtain ⟨rfl, rfl, h⟩ := h
      rw [met_same _ _ h, met_same _ _ h.symm, mets_comm ps qs]
    · rw [met_unlike h, met_unlike fun c => h ⟨c.1.symm, c.2.1.symm, c.2.2.symm⟩]
theorem mets_comm : ∀ as bs : List Stp, mets as bs = mets bs as
  | [], bs => by rw [mets_nil, mets_nil2]
  | a :: as, [] => by rw [mets_nil, mets_nil2]
  | a :: as, b :: bs => by rw [mets_cons, mets_cons, met_comm a b, mets_comm as bs]
end
mutual
theorem met_self : ∀ a : Stp, met a a = a
  | .op => by rw [met_op]
  | .put nm k ps => by rw [met_same _ _ rfl, mets_self ps]
theorem mets_self : ∀ as : List Stp, mets as as = as
  | [] => by rw [mets_nil]
  | a :: as => by rw [mets_cons, met_self a, mets_self as]
end
mutual
theorem met_assoc : ∀ a b c : Stp, met (met a b) c = met a (met b c)
  | .op, b, c => by rw [met_op, met_op, met_op]
  | .put nm k ps, .op, c => by rw [met_op2, met_op, met_op2]
  | .put nm k ps, .put nm' k' qs, .op => by rw [met_op2, met_op2, met_op2]
  | .put nm k ps, .put nm' k' qs, .put nm'' k'' rs => by
    by_cases h : nm = nm' ∧ k = k' ∧ ps.length = qs.length
    · obtain ⟨rfl, rfl, h⟩ := h
      rw [met_same _ _ h]
      by_cases g : nm = nm'' ∧ k = k'' ∧ qs.length = rs.length
      · obtain ⟨rfl, rfl, g⟩ := g
        rw [met_same _ _ g, met_same _ _ (by rw [mets_len]; omega), met_same _ _ (by rw [mets_len]; omega), mets_assoc ps qs rs]
      · rw [met_unlike (ps := qs) g, met_op2, met_unlike fun c => g ⟨c.1, c.2.1, by have := c.2.2; rw [mets_len] at this; omega⟩]
    · rw [met_unlike h, met_op]
      by_cases g : nm' = nm'' ∧ k' = k'' ∧ qs.length = rs.length
      · obtain ⟨rfl, rfl, g⟩ := g
        rw [met_same _ _ g, met_unlike fun c => h ⟨c.1, c.2.1, by have := c.2.2; rw [mets_len] at this; omega⟩]
      · rw [met_unlike g, met_op2]
theorem mets_assoc : ∀ as bs cs : List Stp, mets (mets as bs) cs = mets as (mets bs cs)
  | [], bs, cs => by rw [mets_nil, mets_nil, mets_nil]
  | a :: as, [], cs => by rw [mets_nil2, mets_nil, mets_nil2]
  | a :: as, b :: bs, [] => by rw [mets_nil2, mets_nil2, mets_nil2]
  | a :: as, b :: bs, c :: cs => by rw [mets_cons, mets_cons, mets_cons, mets_cons, met_assoc a b c, mets_assoc as bs cs]
end
theorem met_met (a b : Stp) : met (met a b) a = met a b := by rw [met_comm (met a b) a, ← met_assoc, met_self]
theorem zipD_zip {α β : Type} (e1 : α → D) (e2 : β → D) : ∀ (as : List α) (bs : List β), zipD (as.map e1) (bs.map e2) = (as.zip bs).map fun p => .tuple [e1 p.1, e2 p.2]
  | [], bs => by simp
  | a :: as, [] => by simp
  | a :: as, b :: bs => by rw [List.map_cons, List.map_cons, zipD_cons, zipD_zip e1 e2 as bs]; rfl
noncomputable section
end
end Mir
set_option Elab.async false
set_option linter.all false
set_option maxRecDepth 100000
set_option maxHeartbeats 4000000
namespace Mir
open PySem PySem.Spec L2
mutual
def stIn (ss : List Stp) : Trm → Stp
  | .call m _ => ss.getD m.toNat .op
  | .put nm kp ad ps => bif kp then .op else .put nm ad (stIns ss ps)
def stIns (ss : List Stp) : List Trm → List Stp
  | [] => []
  | p :: ps => stIn ss p :: stIns ss ps
end
theorem stIns_map (ss : List Stp) : ∀ ps : List Trm, stIns ss ps = ps.map (stIn ss)
  | [] => by rw [stIns]; rfl
  | p :: ps => by rw [stIns, stIns_map ss ps]; rfl
def metOf : List Stp → Stp
  | [] => .op
  | s :: ss => ss.foldl met s
/-- the one tells no more than the other -/
def leS (a b : Stp) : Prop := met a b = a
theorem leS_refl (a : Stp) : leS a a := met_self a
theorem leS_trans {a b c : Stp} (h : leS a b) (g : leS b c) : leS a c := by
  unfold leS at *
  rw [← h, met_assoc, g]
theorem leS_left (a b : Stp) : leS (met a b) a := met_met a b
theorem leS_right (a b : Stp) : leS (met a b) b := by
  unfold leS
  rw [met_assoc, met_self]
theorem leS_glb {y a b : Stp} (h : leS y a) (g : leS y b) : leS y (met a b) := by
  unfold leS at *
  rw [← met_assoc, h, g]
theorem foldl_le : ∀ (ss : List Stp) (s : Stp), leS (ss.foldl met s) s ∧ ∀ x ∈ ss, leS (ss.foldl met s) x
  | [], s => ⟨leS_refl s, fun x h => by cases h⟩
  | a :: ss, s => by
    rw [List.foldl_cons]
    obtain ⟨h1, h2⟩ := foldl_le ss (met s a)
    refine ⟨leS_trans h1 (leS_left s a), fun x hx => ?_⟩
    rcases List.mem_cons.mp hx with rfl | hx
    · exact leS_trans h1 (leS_right s x)
    · exact h2 x hx
theorem foldl_glb {y : Stp} : ∀ (ss : List Stp) (s : Stp), leS y s → (∀ x ∈ ss, leS y x) → leS y (ss.foldl met s)
  | [], s, h, _ => h
  | a :: ss, s, h, k => by
    rw [List.foldl_cons]
    exact foldl_glb ss (met s a) (leS_glb h (k a List.mem_cons_self)) fun x hx => k x (List.mem_cons_of_mem _ hx)
theorem metOf_le {l : List Stp} {x : Stp} (h : x ∈ l) : leS (metOf l) x := by
  cases l with
  | nil => cases h
  | cons s ss =>
    obtain ⟨h1, h2⟩ := foldl_le ss s
    rcases List.mem_cons.mp h with rfl | h
    · exact h1
    · exact h2 x h
theorem metOf_glb {y : Stp} {l : List Stp} (hl : l ≠ []) (h : ∀ x ∈ l, leS y x) : leS y (metOf l) := by
  cases l with
  | nil => exact absurd rfl hl
  | cons s ss => exact foldl_glb ss s (h s List.mem_cons_self) fun x hx => h x (List.mem_cons_of_mem _ hx)
mutual
def cS : Stp → Nat
  | .op => 0
  | .put _ _ ps => cSs ps + 1
def cSs : List Stp → Nat
  | [] => 0
  | p :: ps => cS p + cSs ps
end
theorem cS_zero {s : Stp} (h : cS s = 0) : s = .op := by
  cases s with
  | op => rfl
  | put nm k ps => rw [cS] at h; omega
mutual
theorem c_met : ∀ a b : Stp, cS (met a b) ≤ cS b ∧ (cS (met a b) = cS b → met a b = b)
  | .op, b => by
    rw [met_op, cS]
    exact ⟨Nat.zero_le _, fun h => (cS_zero h.symm).symm⟩
  | .put nm k ps, .op => by
    rw [met_op2, cS]
    exact ⟨Nat.le_refl _, fun _ => rfl⟩
  | .put nm k ps, .put nm' k' qs => by
    by_cases h : nm = nm' ∧ k = k' ∧ ps.length = qs.length
    · obtain ⟨rfl, rfl, h⟩ := h
      obtain ⟨h1, h2⟩ := cs_mets ps qs h
      rw [met_same _ _ h, cS, cS]
      exact ⟨by omega, fun e => by rw [h2 (by omega)]⟩
    · rw [met_unlike h, cS, cS]
      exact ⟨by omega, fun e => by omega⟩
theorem cs_mets : ∀ as bs : List Stp, as.length = bs.length → cSs (mets as bs) ≤ cSs bs ∧ (cSs (mets as bs) = cSs bs → mets as bs = bs)
  | [], [], _ => by rw [mets_nil]; exact ⟨Nat.le_refl _, fun _ => rfl⟩
  | [], _ :: _, h => by simp at h
  | _ :: _, [], h => by simp at h
  | a :: as, b :: bs, h => by
    obtain ⟨h1, h2⟩ := c_met a b
    obtain ⟨g1, g2⟩ := cs_mets as bs (by simpa using h)
    rw [mets_cons, cSs, cSs]
    exact ⟨by omega, fun e => by rw [h2 (by omega), g2 (by omega)]⟩
end
theorem leS_c {a b : Stp} (h : leS a b) : cS a ≤ cS b ∧ (cS a = cS b → a = b) := by
  have := c_met a b
  rw [h] at this
  exact this
def leT : List Stp → List Stp → Prop
  | [], [] => True
  | a :: as, b :: bs => leS a b ∧ leT as bs
  | _, _ => False
theorem leT_at : ∀ {as bs : List Stp}, leT as bs → ∀ k, leS (as.getD k .op) (bs.getD k .op)
  | [], [], _, k => leS_refl _
  | a :: as, b :: bs, h, 0 => h.1
  | a :: as, b :: bs, h, k + 1 => leT_at h.2 k
  | [], _ :: _, h, _ => h.elim
  | _ :: _, [], h, _ => h.elim
theorem leT_map {α : Type} {f g : α → Stp} : ∀ {l : List α}, (∀ x ∈ l, leS (f x) (g x)) → leT (l.map f) (l.map g)
  | [], _ => trivial
  | x :: l, h => ⟨h x List.mem_cons_self, leT_map fun y hy => h y (List.mem_cons_of_mem _ hy)⟩
theorem leT_c : ∀ {as bs : List Stp}, leT as bs → cSs as ≤ cSs bs ∧ (cSs as = cSs bs → as = bs)
  | [], [], _ => ⟨Nat.le_refl _, fun _ => rfl⟩
  | a :: as, b :: bs, h => by
    obtain ⟨h1, h2⟩ := leS_c h.1
    obtain ⟨g1, g2⟩ := leT_c h.2
    rw [cSs, cSs]
    exact ⟨by omega, fun e => by rw [h2 (by omega), g2 (by omega)]⟩
  | [], _ :: _, h => h.elim
  | _ :: _, [], h => h.elim
mutual
theorem stIn_mono {as bs : List Stp} (h : leT as bs) : ∀ t : Trm, leS (stIn as t) (stIn bs t)
  | .call m b => by rw [stIn, stIn]; exact leT_at h _
  | .put nm kp ad ps => by
    rw [stIn, stIn]
    cases kp with
    | true => exact leS_refl _
    | false =>
      show met (.put nm ad _) (.put nm ad _) = _
      rw [met_same _ _ (by rw [stIns_map, stIns_map, List.length_map, List.length_map]), stIns_mono h ps]
      rfl
theorem stIns_mono {as bs : List Stp} (h : leT as bs) : ∀ ps : List Trm, mets (stIns as ps) (stIns bs ps) = stIns as ps
  | [] => by rw [stIns, mets_nil]
  | p :: ps => by rw [stIns, stIns, mets_cons, stIn_mono h p, stIns_mono h ps]
end
mutual
theorem stIn_calm (as bs : List Stp) : ∀ t : Trm, callsM t = [] → stIn as t = stIn bs t
  | .call m b, h => by rw [callsM] at h; cases h
  | .put nm kp ad ps, h => by
    rw [callsM] at h
    rw [stIn, stIn, stIns_calm as bs ps h]
theorem stIns_calm (as bs : List Stp) : ∀ ps : List Trm, callsMs ps = [] → stIns as ps = stIns bs ps
  | [], _ => by rw [stIns, stIns]
  | p :: ps, h => by
    rw [callsMs, List.append_eq_nil_iff] at h
    rw [stIns, stIns, stIn_calm as bs p h.1, stIns_calm as bs ps h.2]
end
/-- a mode: its rules, and which of them are those of rows without branches -/
structure Md where
  kd : Str
  rls : List (Bool × Trm)
def bares (m : Md) : List Trm := (m.rls.filter (·.1)).map (·.2)
def rulesM (m : Md) : List Trm := m.rls.map (·.2)
def MdOk (m : Md) : Prop := bares m ≠ [] ∧ ∀ t ∈ bares m, callsM t = []
def tab0 (ms : List Md) : List Stp := ms.map fun m => metOf ((bares m).map (stIn []))
def tabN (ms : List Md) (ss : List Stp) : List Stp := ms.map fun m => metOf ((rulesM m).map (stIn ss))
def tab (ms : List Md) : Nat → List Stp
  | 0 => tab0 ms
  | n + 1 => tabN ms (tab ms n)
theorem tabN_mono (ms : List Md) (hm : ∀ m ∈ ms, MdOk m) {as bs : List Stp} (h : leT as bs) : leT (tabN ms as) (tabN ms bs) := by
  refine leT_map fun m hmm => ?_
  have ne : rulesM m ≠ [] := by
    have := (hm m hmm).1
    intro e
    apply this
    unfold bares
    have : m.rls = [] := by unfold rulesM at e; simpa using e
    rw [this]; rfl
  refine metOf_glb (by simpa using ne) fun x hx => ?_
  obtain ⟨t, ht, rfl⟩ := List.mem_map.mp hx
  exact leS_trans (metOf_le (List.mem_map_of_mem ht)) (stIn_mono h t)
theorem tab_first (ms : List Md) (hm : ∀ m ∈ ms, MdOk m) : leT (tab ms 1) (tab ms 0) := by
  refine leT_map fun m hmm => ?_
  obtain ⟨h1, h2⟩ := hm m hmm
  refine metOf_glb (by simpa using h1) fun x hx => ?_
  obtain ⟨t, ht, rfl⟩ := List.mem_map.mp hx
  rw [stIn_calm [] (tab ms 0) t (h2 t ht)]
  refine metOf_le (List.mem_map_of_mem ?_)
  unfold bares at ht
  obtain ⟨p, hp, rfl⟩ := List.mem_map.mp ht
  exact List.mem_map_of_mem (List.mem_filter.mp hp).1
theorem tab_down (ms : List Md) (hm : ∀ m ∈ ms, MdOk m) : ∀ n, leT (tab ms (n + 1)) (tab ms n)
  | 0 => tab_first ms hm
  | n + 1 => tabN_mono ms hm (tab_down ms hm n)
theorem tab_stop (ms : List Md) (hm : ∀ m ∈ ms, MdOk m) : ∃ N, N ≤ cSs (tab ms 0) ∧ tab ms (N + 1) = tab ms N ∧ ∀ i, i < N → tab ms (i + 1) ≠ tab ms i := by
  have step : ∀ n, (∀ i, i < n → tab ms (i + 1) ≠ tab ms i) → cSs (tab ms n) + n ≤ cSs (tab ms 0) := fun n => by
    induction n with
    | zero => intro _; omega
    | succ n ih =>
      intro h
      have a := ih fun i hi => h i (by omega)
      obtain ⟨b, c⟩ := leT_c (tab_down ms hm n)
      have : cSs (tab ms (n + 1)) ≠ cSs (tab ms n) := fun e => h n (by omega) (c e)
      omega
  have ex : ∃ n, tab ms (n + 1) = tab ms n := by
    refine Classical.byContradiction fun no => ?_
    have := step (cSs (tab ms 0) + 1) fun i _ e => no ⟨i, e⟩
    omega
  have least : ∀ n, tab ms (n + 1) = tab ms n → ∃ N, tab ms (N + 1) = tab ms N ∧ ∀ i, i < N → tab ms (i + 1) ≠ tab ms i := fun n => by
    induction n using Nat.strongRecOn with
    | ind n ih =>
      intro h
      by_cases c : ∃ i, i < n ∧ tab ms (i + 1) = tab ms i
      · obtain ⟨i, hi, e⟩ := c
        exact ih i hi e
      · exact ⟨n, h, fun i hi e => c ⟨i, hi, e⟩⟩
  obtain ⟨n, hn⟩ := ex
  obtain ⟨N, h1, h2⟩ := least n hn
  refine ⟨N, ?_, h1, h2⟩
  have := step N h2
  omega
/-- what the tables' stumps are like -/
theorem tab_len (ms : List Md) : ∀ n, (tab ms n).length = ms.length
  | 0 => by show (ms.map _).length = _; rw [List.length_map]
  | n + 1 => by show (ms.map _).length = _; rw [List.length_map]
end Mir
set_option Elab.async false
set_option linter.all false
set_option maxRecDepth 100000
set_option maxHeartbeats 4000000
namespace Mir
open PySem PySem.Spec L2
structure Rw where
  nm : Str
  br : List Str
abbrev Wood := List (Str × List Rw)
def encRw (r : Rw) : D := .tuple [.str r.nm, .tuple (r.br.map PyData.str)]
def encKd (p : Str × List Rw) : D := .tuple [.str p.1, .list (p.2.map encRw)]
def encWd (w : Wood) : D := .list (w.map encKd)
structure Trn where
  wood : Wood
  start : Trm
  modes : List (Str × List Trm)
def encMo (p : Str × List Trm) : D := .tuple [.str p.1, .list (p.2.map encM)]
def encTn (t : Trn) : D := .tuple [encWd t.wood, encM t.start, .list (t.modes.map encMo)]
def rowsOf : Wood → Str → List Rw
  | [], _ => []
  | p :: w, k => bif p.1 == k then p.2 else rowsOf w k
def mdOf (w : Wood) (p : Str × List Trm) : Md := ⟨p.1, List.zipWith (fun (r : Rw) t => (r.br.isEmpty, t)) (rowsOf w p.1) p.2⟩
def mds (t : Trn) : List Md := t.modes.map (mdOf t.wood)
/-- a turning that the drawing makes -/
structure TnOk (t : Trn) : Prop where
  few : t.modes.length ≤ 100
  few1 : 1 ≤ t.modes.length
  rows : ∀ p ∈ t.modes, p.2.length = (rowsOf t.wood p.1).length ∧ p.2.length ≤ 100
  bare : ∀ p ∈ t.modes, MdOk (mdOf t.wood p)
  term : ∀ p ∈ t.modes, ∀ r ∈ p.2, okM r ∧ levM r ≤ 10 ∧ sizeM r ≤ 1000 ∧ ∀ c ∈ callsM r, 0 ≤ c.1 ∧ c.1 < t.modes.length
  names : (∀ p ∈ t.wood, PyData.strOk p.1 = true ∧ p.2.length ≤ 100 ∧ ∀ r ∈ p.2, PyData.strOk r.nm = true ∧ r.br.length ≤ 100 ∧ ∀ b ∈ r.br, PyData.strOk b = true)
  kinds : t.wood.length ≤ 100
  start : okM t.start ∧ levM t.start ≤ 10
theorem gEq_str (a b : Str) : gEq (.str a) (.str b) = some (.bool (a == b)) := rfl
theorem nice_strs {l : List Str} (h : ∀ z ∈ l, PyData.strOk z = true) : Nice (.tuple (l.map PyData.str)) := by
  refine ⟨?_, ?_⟩
  · rw [PyData.canLay0]
    exact canAll_of _ fun d hd => by
      obtain ⟨z, hz, rfl⟩ := List.mem_map.mp hd
      rw [PyData.canLay0]; exact h z hz
  · rw [PyData.depth]
    have := depthAll_of (n := 0) (l.map PyData.str) fun d hd => by
      obtain ⟨z, hz, rfl⟩ := List.mem_map.mp hd
      simp [PyData.depth]
    omega
theorem bare_eq {r : Rw} (h : ∀ z ∈ r.br, PyData.strOk z = true) : gEq (.tuple (r.br.map PyData.str)) (.tuple []) = some (.bool r.br.isEmpty) := by
  have n0 : Nice (.tuple []) := nice_strs (l := []) (fun z hz => by cases hz)
  rw [gEq_nice (nice_strs h) n0]
  cases r.br with
  | nil => rfl
  | cons b bs => simp [PyData.eqv, PyData.eqvAll]
noncomputable section
abbrev rowsB : Ev → SR := (sIf (eB (eBin gEq (eVar 2) (eVar 1)) asB)
    (sRet (eM (eVar 3) Ow.d))
    sSkip)
theorem rows_loop (W0 : D) (k : Str) : ∀ (w : Wood) (x2 x3 : Option Ow), ∃ env', forL (gtTup 2 (gtCons (gtName 2) (gtCons (gtName 3) gtNil))) rowsB (w.map encKd) [some (.d W0), some (.d (.str k)), x2, x3] = if (w.any fun p => p.1 == k) then .rt (.d (.list ((rowsOf w k).map encRw))) env' else .nx env'
  | [], x2, x3 => ⟨[some (.d W0), some (.d (.str k)), x2, x3], by simp [forL]⟩
  | p :: w, x2, x3 => by
    have g : gtTup 2 (gtCons (gtName 2) (gtCons (gtName 3) gtNil)) (encKd p) [some (.d W0), some (.d (.str k)), x2, x3] = some [some (.d W0), some (.d (.str k)), some (.d (.str p.1)), some (.d (.list (p.2.map encRw)))] := rfl
    rw [List.map_cons, forL, g]
    cases c : p.1 == k with
    | true =>
      refine ⟨[some (.d W0), some (.d (.str k)), some (.d (.str p.1)), some (.d (.list (p.2.map encRw)))], ?_⟩
      have e : rowsB [some (.d W0), some (.d (.str k)), some (.d (.str p.1)), some (.d (.list (p.2.map encRw)))] = .rt (.d (.list (p.2.map encRw))) [some (.d W0), some (.d (.str k)), some (.d (.str p.1)), some (.d (.list (p.2.map encRw)))] := by
        generalize PyData.list (p.2.map encRw) = RS
        simp [gEq_str, c]
      simp only [e]
      rw [List.any_cons, c, rowsOf, c]
      rfl
    | false =>
      obtain ⟨env', ih⟩ := rows_loop W0 k w (some (.d (.str p.1))) (some (.d (.list (p.2.map encRw))))
      refine ⟨env', ?_⟩
      have e : rowsB [some (.d W0), some (.d (.str k)), some (.d (.str p.1)), some (.d (.list (p.2.map encRw)))] = .nx [some (.d W0), some (.d (.str k)), some (.d (.str p.1)), some (.d (.list (p.2.map encRw)))] := by
        generalize PyData.list (p.2.map encRw) = RS
        simp [gEq_str, c]
      simp only [e]
      rw [ih, List.any_cons, c, rowsOf, c]
      rfl
abbrev bRowsOf : Ev → SR := (sSeq (sFor (eB (eVar 0) itD) (gtTup 2 (gtCons (gtName 2) (gtCons (gtName 3) gtNil)))
    (sIf (eB (eBin gEq (eVar 2) (eVar 1)) asB)
    (sRet (eM (eVar 3) Ow.d))
    sSkip))
    (sRet (eLst aNil)))
/-- tells these rows, as data or as a list of its own -/
theorem rowsOf_fin (w : Wood) (k : Str) : ∃ o, finR (bRowsOf (envOf 2 [encWd w, .str k])) = .ok o ∧ viewD o = .list ((rowsOf w k).map encRw) := by
  have he : envOf 2 [encWd w, .str k] = [some (.d (encWd w)), some (.d (.str k)), none, none] := rfl
  rw [he]
  obtain ⟨env', lp⟩ := rows_loop (encWd w) k w none none
  have fo : (sFor (eB (eVar 0) itD) (gtTup 2 (gtCons (gtName 2) (gtCons (gtName 3) gtNil))) rowsB) [some (.d (encWd w)), some (.d (.str k)), none, none] = forL (gtTup 2 (gtCons (gtName 2) (gtCons (gtName 3) gtNil))) rowsB (w.map encKd) [some (.d (encWd w)), some (.d (.str k)), none, none] := by
    rw [sFor_eq]
    simp only [eB_eq, eVar_0, R.bind_ok]
    unfold encWd
    simp only [itD_list, R.st_ok]
  cases c : w.any fun p => p.1 == k with
  | true =>
    rw [c, if_pos rfl] at lp
    refine ⟨.d (.list ((rowsOf w k).map encRw)), ?_, viewD_d _⟩
    show finR (sSeq _ _ _) = _
    rw [sSeq_eq, fo, lp]
    rfl
  | false =>
    rw [c, if_neg (by decide)] at lp
    have e : rowsOf w k = [] := by
      have : ∀ w : Wood, (w.any fun p => p.1 == k) = false → rowsOf w k = [] := fun w => by
        induction w with
        | nil => intro _; rfl
        | cons p w ih =>
          intro h
          rw [List.any_cons, Bool.or_eq_false_iff] at h
          rw [rowsOf, h.1, ih h.2]
          rfl
      exact this w c
    refine ⟨.l [], ?_, by rw [e]; simp⟩
    show finR (sSeq _ _ _) = _
    rw [sSeq_eq, fo, lp]
    simp [sizeLine_eq]
section
variable (nm : Str) (kp : Bool) (ad : Int) (ps : List Trm) (m b : Int)
end
def stD (ss : List Stp) : D := .list (ss.map encS)
end
end Mir
set_option Elab.async false
set_option linter.all false
set_option maxRecDepth 100000
set_option maxHeartbeats 4000000
namespace Mir
open PySem PySem.Spec L2
theorem seq_nx {f g : Ev → SR} {env env1 : Ev} {r : SR} (h1 : f env = .nx env1) (h2 : g env1 = r) : sSeq f g env = r := by
  rw [sSeq_eq, h1]
  exact h2
noncomputable section
theorem bares_zip (w : Wood) (p : Str × List Trm) : bares (mdOf w p) = (((rowsOf w p.1).zip p.2).filter fun q => q.1.br.isEmpty).map (·.2) := by
  unfold bares mdOf
  show ((List.zipWith (fun (r : Rw) t => (r.br.isEmpty, t)) (rowsOf w p.1) p.2).filter (·.1)).map (·.2) = _
  generalize rowsOf w p.1 = rs
  generalize p.2 = ts
  induction rs generalizing ts with
  | nil => rfl
  | cons r rs ih =>
    cases ts with
    | nil => rfl
    | cons t ts =>
      rw [List.zipWith_cons_cons, List.zip_cons_cons]
      cases c : r.br.isEmpty with
      | true =>
        rw [List.filter_cons_of_pos (by simp [c]), List.filter_cons_of_pos (by simp [c]), List.map_cons, List.map_cons, ih ts]
      | false =>
        rw [List.filter_cons_of_neg (by simp [c]), List.filter_cons_of_neg (by simp [c]), ih ts]
/-- what the parts promise -/
structure Parts (t : Trn) (f1 f2 f3 : List D → R Ow) : Prop where
  rows : ∀ p ∈ t.modes, ∃ o, f1 [encWd t.wood, .str p.1] = .ok o ∧ viewD o = .list ((rowsOf t.wood p.1).map encRw)
  bare : ∀ p ∈ t.modes, ∀ r ∈ p.2, callsM r = [] → f2 [encM r, .list []] = .ok (.d (encS (stIn [] r)))
  stump : ∀ p ∈ t.modes, ∀ r ∈ p.2, ∀ ss : List Stp, ss.length = t.modes.length → f2 [encM r, stD ss] = .ok (.d (encS (stIn ss r)))
  met0 : ∀ p ∈ t.modes, f3 [stD ((bares (mdOf t.wood p)).map (stIn []))] = .ok (.d (encS (metOf ((bares (mdOf t.wood p)).map (stIn [])))))
  metN : ∀ p ∈ t.modes, ∀ n : Nat, f3 [stD (p.2.map (stIn (tab (mds t) n)))] = .ok (.d (encS (metOf (p.2.map (stIn (tab (mds t) n))))))
end
end Mir
set_option Elab.async false
set_option linter.all false
set_option maxRecDepth 100000
set_option maxHeartbeats 4000000
namespace Mir
open PySem PySem.Spec L2
mutual
theorem stIn_c : ∀ t : Trm, cS (stIn [] t) ≤ sizeM t
  | .call m b => by
    rw [stIn, sizeM]
    show cS .op ≤ 1
    rw [cS]; omega
  | .put nm kp ad ps => by
    rw [stIn, sizeM]
    cases kp with
    | true => show cS .op ≤ _; rw [cS]; omega
    | false =>
      show cS (.put nm ad _) ≤ _
      rw [cS]
      have := stIns_c ps
      omega
theorem stIns_c : ∀ ps : List Trm, cSs (stIns [] ps) ≤ sizeMs ps
  | [] => by rw [stIns, cSs]; omega
  | p :: ps => by
    rw [stIns, sizeMs, cSs]
    have := stIn_c p
    have := stIns_c ps
    omega
end
theorem bares_in {w : Wood} {p : Str × List Trm} : ∀ r ∈ bares (mdOf w p), r ∈ p.2 := fun r hr => by
  rw [bares_zip] at hr
  obtain ⟨q, hq, rfl⟩ := List.mem_map.mp hr
  exact (List.of_mem_zip (List.mem_filter.mp hq).1).2
theorem mds_ok {t : Trn} (ok : TnOk t) : ∀ m ∈ mds t, MdOk m := fun m hm => by
  obtain ⟨p, hp, rfl⟩ := List.mem_map.mp hm
  exact ok.bare p hp
theorem cSs_le {n : Nat} : ∀ {ss : List Stp}, (∀ s ∈ ss, cS s ≤ n) → cSs ss ≤ n * ss.length
  | [], _ => by rw [cSs]; omega
  | s :: ss, h => by
    rw [cSs, List.length_cons, Nat.mul_succ]
    have := h s List.mem_cons_self
    have := cSs_le (n := n) (ss := ss) fun x hx => h x (List.mem_cons_of_mem _ hx)
    omega
noncomputable section
end
end Mir
set_option Elab.async false
set_option linter.all false
set_option maxRecDepth 100000
set_option maxHeartbeats 4000000
namespace Mir
open PySem PySem.Spec L2
noncomputable section
def encCl (c : Int × Int) : D := .tuple [.int c.1, .int c.2]
def caD (cs : List (Int × Int)) : D := .list (cs.map encCl)
mutual
def thinM : Trm → Prop
  | .call _ _ => True
  | .put _ _ _ ps => ps.length ≤ 3 ∧ thinMs ps
def thinMs : List Trm → Prop
  | [] => True
  | p :: ps => thinM p ∧ thinMs ps
end
/-- two parts of one level less, or three of two levels less -/
def fitS : Nat → Trm → Prop
  | _, .call _ _ => True
  | 0, .put _ _ _ ps => ps = []
  | 1, .put _ _ _ ps => ps.length ≤ 3 ∧ ∀ p ∈ ps, fitS 0 p
  | n + 2, .put _ _ _ ps => (ps.length ≤ 2 ∧ ∀ p ∈ ps, fitS (n + 1) p) ∨ (ps.length ≤ 3 ∧ ∀ p ∈ ps, fitS n p)
theorem sizeMs_le' {n m : Nat} : ∀ {bs : List Trm}, bs.length ≤ n → (∀ b ∈ bs, sizeM b ≤ m) → sizeMs bs ≤ n * m
  | [], _, _ => by rw [sizeMs]; omega
  | b :: bs, hl, h => by
    rw [sizeMs]
    obtain ⟨k, rfl⟩ : ∃ k, n = k + 1 := ⟨n - 1, by simp at hl; omega⟩
    have := sizeMs_le' (n := k) (m := m) (bs := bs) (by simp at hl; omega) fun c hc => h c (List.mem_cons_of_mem _ hc)
    have := h b List.mem_cons_self
    rw [Nat.add_mul]
    omega
theorem fitS_0 {t : Trm} (h : fitS 0 t) : sizeM t ≤ 1 := by
  cases t with
  | call m b => rw [sizeM]; omega
  | put nm kp ad ps => rw [fitS] at h; rw [h, sizeM, sizeMs]; omega
theorem fitS_1 {t : Trm} (h : fitS 1 t) : sizeM t ≤ 4 := by
  cases t with
  | call m b => rw [sizeM]; omega
  | put nm kp ad ps =>
    rw [fitS] at h
    have := sizeMs_le' h.1 fun p hp => fitS_0 (h.2 p hp)
    rw [sizeM]
    omega
theorem fitS_2 {t : Trm} (h : fitS 2 t) : sizeM t ≤ 9 := by
  cases t with
  | call m b => rw [sizeM]; omega
  | put nm kp ad ps =>
    rw [fitS] at h
    rw [sizeM]
    rcases h with h | h
    · have := sizeMs_le' h.1 fun p hp => fitS_1 (h.2 p hp)
      omega
    · have := sizeMs_le' h.1 fun p hp => fitS_0 (h.2 p hp)
      omega
def TermIn (cs : List (Int × Int)) (n : Nat) (t : Trm) : Prop := okM t ∧ levM t ≤ n + 1 ∧ fitS n t ∧ (∀ c ∈ callsM t, c ∈ cs) ∧ thinM t
end
end Mir
set_option Elab.async false
set_option linter.all false
set_option maxRecDepth 100000
set_option maxHeartbeats 4000000
namespace Mir
open PySem PySem.Spec L2
theorem perm_map_inv {α β : Type} {f : α → β} {ds es : List β} (h : ds.Perm es) : ∀ xs : List α, es = xs.map f → ∃ ys : List α, ys.Perm xs ∧ ds = ys.map f := by
  induction h with
  | nil => intro xs e; exact ⟨[], by cases xs with | nil => exact .refl _ | cons => simp at e, rfl⟩
  | cons x h ih =>
    intro xs e
    cases xs with
    | nil => simp at e
    | cons a xs =>
      rw [List.map_cons] at e
      injection e with e1 e2
      obtain ⟨ys, h1, h2⟩ := ih xs e2
      exact ⟨a :: ys, h1.cons a, by rw [e1, h2]; rfl⟩
  | swap x y l =>
    intro xs e
    match xs, e with
    | a :: b :: xs, e =>
      simp only [List.map_cons] at e
      injection e with e1 e2
      injection e2 with e2 e3
      exact ⟨b :: a :: xs, .swap a b xs, by rw [e1, e2, e3]; rfl⟩
    | [_], e => simp at e
    | [], e => simp at e
  | trans h1 h2 ih1 ih2 =>
    intro xs e
    obtain ⟨ys, a, b⟩ := ih2 xs e
    obtain ⟨zs, c, d⟩ := ih1 ys b
    exact ⟨zs, c.trans a, d⟩
theorem alike_strs : ∀ xs ys : List Str, PySem.W.alikeAll (xs.map PyData.str) (ys.map PyData.str) = true
  | [], ys => by cases ys <;> rfl
  | x :: xs, [] => rfl
  | x :: xs, y :: ys => by
    rw [List.map_cons, List.map_cons, PySem.W.alikeAll, alike_strs xs ys]
    rfl
theorem sorted_rows (rows : List Rw) : ∃ rows' : List Rw, rows'.Perm rows ∧ gSorted [.list (rows.map encRw)] = some (.l (rows'.map fun r => .d (encRw r))) := by
  obtain ⟨rows', h1, h2⟩ := perm_map_inv (List.mergeSort_perm (rows.map encRw) (PySem.W.dataLe false id)) rows rfl
  refine ⟨rows', h1, ?_⟩
  have ok : sortOk (rows.map encRw) = true := by
    unfold sortOk
    simp only [Bool.and_eq_true, Bool.or_eq_true, List.all_eq_true, decide_eq_true_eq, List.mem_map]
    refine ⟨⟨?_, .inl ?_⟩, ?_⟩
    · rintro d ⟨r, _, rfl⟩ e ⟨s, _, rfl⟩
      have := alike_strs r.br s.br
      simp [encRw, PySem.W.alike, PySem.W.alikeAll, this]
    · rintro d ⟨r, _, rfl⟩
      rfl
    · rintro d ⟨r, _, rfl⟩
      have := depthAll_of (n := 0) (r.br.map PyData.str) fun d hd => by
        obtain ⟨z, hz, rfl⟩ := List.mem_map.mp hd
        simp [PyData.depth]
      simp only [encRw, PyData.depth, PyData.depthAll]
      omega
  unfold gSorted
  have e : sortedD (rows.map encRw) = rows'.map encRw := h2
  simp only [ok, if_true, e, List.map_map]
  rfl
noncomputable section
def CallOk (ks bs : List Str) (c : Int × Int) : Prop := ∃ i j : Nat, c = ((i : Int), (j : Int)) ∧ ∃ z, ks[i]? = some z ∧ bs[j]? = some z
def caO (cs : List (Int × Int)) : Ow := .l (cs.map fun c => .d (encCl c))
mutual
def bareM : Trm → Trm
  | .call m b => .call m b
  | .put nm _ ad ps => .put nm false ad (bareMs ps)
def bareMs : List Trm → List Trm
  | [] => []
  | p :: ps => bareM p :: bareMs ps
end
end
end Mir
set_option Elab.async false
set_option linter.all false
set_option maxRecDepth 100000
set_option maxHeartbeats 4000000
namespace Mir
open PySem PySem.Spec L2
def RwOk (w : Nat) (kn : Nat → Str) (r : Rw) : Prop := PyData.strOk r.nm = true ∧ r.br.length ≤ 4 ∧ ∀ z ∈ r.br, ∃ j, j < w ∧ z = kn j
/-- the rows' names, in some order -/
def RwNm (kn : Nat → Str) (rs : List Rw) : Prop := ∃ b, b ≤ 12 ∧ (rs.map (·.nm)).Perm ((List.range rs.length).map fun j => kn (b + j))
structure WdOk (w : Wood) (kn : Nat → Str) : Prop where
  few : w.length ≤ 3
  one : 1 ≤ w.length
  nok : ∀ k, k < 900 → PyData.strOk (kn k) = true
  at_ : ∀ (k : Nat) p, w[k]? = some p → p.1 = kn k
  rows : ∀ p ∈ w, p.2.length ≤ 3 ∧ (∃ r ∈ p.2, r.br = []) ∧ ∀ r ∈ p.2, RwOk w.length kn r
  rnm : ∀ p ∈ w, RwNm kn p.2
noncomputable section
def rwO (rs : List Rw) : Ow := .l (rs.map fun r => .d (encRw r))
theorem shD_rwO (rs : List Rw) : shD (rwO rs) = .ok (.list (rs.map encRw)) := unDs_of encRw rs
theorem rg1_nat (n : Nat) (h : n ≤ 100000) : rg1 [.int (n : Nat)] = .ok (rangeD 0 n) := by
  have : rg1 [.int (n : Nat)] = .ok (rangeD 0 ((n : Nat) : Int).toNat) := guard_ok (by omega)
  rw [this, Int.toNat_natCast]
theorem rangeD_map (n : Nat) : rangeD 0 n = (List.range n).map fun k : Nat => PyData.int (k : Nat) := by
  unfold rangeD
  exact List.map_congr_left fun k _ => by simp
section
variable {fd fn : List D → R Ow} {code : Int} {kn : Nat → Str}
end
end
end Mir
set_option Elab.async false
set_option linter.all false
set_option maxRecDepth 100000
set_option maxHeartbeats 4000000
namespace Mir
open PySem PySem.Spec L2
noncomputable section
theorem rowsOf_first : ∀ (w : Wood) (k : Str), (∃ p ∈ w, p.1 = k) → ∃ p, (w.filter fun p => p.1 == k)[0]? = some p ∧ p.2 = rowsOf w k ∧ p ∈ w
  | [], k, h => by obtain ⟨p, hp, _⟩ := h; cases hp
  | p :: w, k, h => by
    cases c : p.1 == k with
    | true =>
      refine ⟨p, by rw [List.filter_cons_of_pos (by simpa using c)]; rfl, by rw [rowsOf, c]; rfl, List.mem_cons_self⟩
    | false =>
      obtain ⟨q, hq, e⟩ := h
      have hq' : q ∈ w := by
        rcases List.mem_cons.mp hq with rfl | h
        · rw [e] at c; simp at c
        · exact h
      obtain ⟨r, h1, h2, h3⟩ := rowsOf_first w k ⟨q, hq', e⟩
      exact ⟨r, by rw [List.filter_cons_of_neg (by simp [c])]; exact h1, by rw [rowsOf, c]; exact h2, List.mem_cons_of_mem _ h3⟩
def RuleOk (ks bs : List Str) (t : Trm) : Prop := okM t ∧ levM t ≤ 3 ∧ sizeM t ≤ 9 ∧ ∀ c ∈ callsM t, CallOk ks bs c
structure TnMade (t : Trn) : Prop where
  few : t.modes.length ≤ 4
  one : 1 ≤ t.modes.length
  kind : ∀ p ∈ t.modes, ∃ q ∈ t.wood, q.1 = p.1
  rules : ∀ p ∈ t.modes, p.2.length = (rowsOf t.wood p.1).length ∧ ∀ (i : Nat) r u, (rowsOf t.wood p.1)[i]? = some r → p.2[i]? = some u → RuleOk (t.modes.map (·.1)) r.br u
  start : okM t.start ∧ levM t.start ≤ 3
/-- what the parts of the drawing promise -/
structure Gens (fd ft fl fru fca fb : List D → R Ow) (code : Int) (w : Wood) : Prop where
  dr : Draws fd
  term : ∀ (cs : List (Int × Int)) (n : Nat), n ≤ 2 → ∀ dk, ∃ t dk', TermIn cs n t ∧ ft (dkD dk :: [.int code, caD cs, .int (n : Nat)]) = tells (encM t) dk'
  rows : ∀ k, (∃ p ∈ w, p.1 = k) → fl [encWd w, .str k] = .ok (.d (.list ((rowsOf w k).map encRw)))
  rule : ∀ (cs : List (Int × Int)) (base : Trm), TermIn [] 2 base → ∀ dk, ∃ t dk', TermIn cs 2 t ∧ fru (dkD dk :: [.int code, encM base, caD cs]) = tells (encM t) dk'
  callsT : ∀ ks bs : List Str, ks.length ≤ 100 → bs.length ≤ 100 → ∃ cs, fca [.list (ks.map PyData.str), .tuple (bs.map PyData.str)] = .ok (caO cs) ∧ ∀ c ∈ cs, CallOk ks bs c
  callsL : ∀ ks bs : List Str, ks.length ≤ 100 → bs.length ≤ 100 → ∃ cs, fca [.list (ks.map PyData.str), .list (bs.map PyData.str)] = .ok (caO cs) ∧ ∀ c ∈ cs, CallOk ks bs c
  bare : ∀ t, okM t → levM t ≤ 10 → fb [encM t] = .ok (.d (encM (bareM t)))
section
variable {fd ft fl fru fca fb : List D → R Ow} {code : Int} {w : Wood}
theorem TermIn.rule {ks bs : List Str} {cs : List (Int × Int)} {t : Trm} (h : TermIn cs 2 t) (hc : ∀ c ∈ cs, CallOk ks bs c) : RuleOk ks bs t := ⟨h.1, by have := h.2.1; omega, fitS_2 h.2.2.1, fun c hcc => hc c (h.2.2.2.1 c hcc)⟩
theorem rowsOf_mem {w : Wood} {k : Str} (hk : ∃ p ∈ w, p.1 = k) : ∃ p ∈ w, p.2 = rowsOf w k := by
  obtain ⟨p, _, h2, h3⟩ := rowsOf_first w k hk
  exact ⟨p, h3, h2⟩
end
end
end Mir
set_option Elab.async false
set_option linter.all false
set_option maxRecDepth 100000
set_option maxHeartbeats 4000000
namespace Mir
open PySem PySem.Spec L2
theorem TnMade.ok {t : Trn} {kn : Nat → Str} (m : TnMade t) (hw : WdOk t.wood kn) : TnOk t := by
  have kl : (t.modes.map (·.1)).length = t.modes.length := List.length_map _
  have each : ∀ p ∈ t.modes, ∀ u ∈ p.2, ∃ r ∈ rowsOf t.wood p.1, RuleOk (t.modes.map (·.1)) r.br u := fun p hp u hu => by
    obtain ⟨i, hi, e⟩ := List.mem_iff_getElem.mp hu
    obtain ⟨h1, h2⟩ := m.rules p hp
    have hi' : i < (rowsOf t.wood p.1).length := by omega
    exact ⟨_, List.getElem_mem hi', h2 i _ u (List.getElem?_eq_getElem hi') (by rw [List.getElem?_eq_getElem hi, e])⟩
  have rl : ∀ p ∈ t.modes, (rowsOf t.wood p.1).length ≤ 3 ∧ ∃ r ∈ rowsOf t.wood p.1, r.br = [] := fun p hp => by
    obtain ⟨q, q1, q2⟩ := rowsOf_mem (m.kind p hp)
    obtain ⟨a, b, _⟩ := hw.rows q q1
    rw [q2] at a b
    exact ⟨a, b⟩
  have wl := hw.few
  refine ⟨by have := m.few; omega, m.one, fun p hp => ⟨(m.rules p hp).1, by have := (m.rules p hp).1; have := (rl p hp).1; omega⟩, fun p hp => ?_, fun p hp u hu => ?_, fun p hp => ?_, by omega, m.start.1, by have := m.start.2; omega⟩
  · -- bare rows
    obtain ⟨h1, h2⟩ := m.rules p hp
    constructor
    · rw [bares_zip]
      obtain ⟨_, r, hr, hb⟩ := rl p hp
      obtain ⟨i, hi, e⟩ := List.mem_iff_getElem.mp hr
      intro z
      have z2 : ((rowsOf t.wood p.1).zip p.2).filter (fun q => q.1.br.isEmpty) = [] := by simpa using z
      have hm : (r, p.2[i]'(by omega)) ∈ ((rowsOf t.wood p.1).zip p.2).filter (fun q => q.1.br.isEmpty) := by
        refine List.mem_filter.mpr ⟨?_, by show r.br.isEmpty = true; rw [hb]; rfl⟩
        refine List.mem_iff_getElem.mpr ⟨i, by rw [List.length_zip]; omega, ?_⟩
        rw [List.getElem_zip, e]
      rw [z2] at hm
      cases hm
    · intro u hu
      rw [bares_zip] at hu
      obtain ⟨q, hq, rfl⟩ := List.mem_map.mp hu
      obtain ⟨q1, q2⟩ := List.mem_filter.mp hq
      obtain ⟨i, hi, e⟩ := List.mem_iff_getElem.mp q1
      rw [List.length_zip] at hi
      rw [List.getElem_zip] at e
      have ok := h2 i q.1 q.2 (by rw [List.getElem?_eq_getElem (by omega), ← e]) (by rw [List.getElem?_eq_getElem (by omega), ← e])
      have bn : q.1.br = [] := by simpa using q2
      cases hc : callsM q.2 with
      | nil => rfl
      | cons c cs =>
        obtain ⟨i, j, _, z, _, hz⟩ := ok.2.2.2 c (by rw [hc]; exact List.mem_cons_self)
        rw [bn] at hz
        simp at hz
  · obtain ⟨r, _, o1, o2, o3, o4⟩ := each p hp u hu
    refine ⟨o1, by omega, by omega, fun c hc => ?_⟩
    obtain ⟨i, j, e, z, hz, _⟩ := o4 c hc
    have := (List.getElem?_eq_some_iff.mp hz).1
    rw [e]
    constructor
    · show (0 : Int) ≤ (i : Int)
      omega
    · show (i : Int) < _
      omega
  · obtain ⟨i, hi, e⟩ := List.mem_iff_getElem.mp hp
    have en := hw.at_ i p (by rw [List.getElem?_eq_getElem hi, e])
    obtain ⟨a, _, c⟩ := hw.rows p hp
    refine ⟨by rw [en]; exact hw.nok i (by omega), by omega, fun r hr => ?_⟩
    obtain ⟨d1, d2, d3⟩ := c r hr
    refine ⟨d1, by omega, fun z hz => ?_⟩
    obtain ⟨j, hj, ez⟩ := d3 z hz
    rw [ez]
    exact hw.nok j (by omega)
noncomputable section
theorem gList_ls (ds : List D) : gList [.list ds] = some (.l (ds.map Ow.d)) := rfl
end
end Mir
set_option Elab.async false
set_option linter.all false
set_option maxRecDepth 100000
set_option maxHeartbeats 4000000
namespace Mir
open PySem PySem.Spec L2
noncomputable section
def pick (t : Trn) (wants : Rw → Bool) (g : Trm → Stp) (p : Str × List Trm) : List Stp := (((rowsOf t.wood p.1).zip p.2).filter fun q => wants q.1).map fun q => g q.2
end
end Mir
set_option Elab.async false
set_option linter.all false
set_option maxRecDepth 100000
set_option maxHeartbeats 4000000
namespace Mir
open PySem PySem.Spec L2
def orRt : Option Ow → Ev → SR
  | none, e => .nx e
  | some o, e => .rt o e
theorem forL_first {α : Type} {g : D → Ev → Option Ev} {f : Ev → SR} (enc : α → D) (Q : α → Option Ow) (I : Ev → Prop) : ∀ (xs : List α) (step : ∀ a ∈ xs, ∀ env, I env → ∃ env1, g (enc a) env = some env1 ∧ ∃ env2, I env2 ∧ f env1 = orRt (Q a) env2) (env : Ev), I env → ∃ env', I env' ∧ forL g f (xs.map enc) env = orRt (xs.findSome? Q) env'
  | [], _, env, h => ⟨env, h, rfl⟩
  | a :: xs, st, env, h => by
    obtain ⟨env1, g1, env2, h2, f2⟩ := st a List.mem_cons_self env h
    rw [List.map_cons, forL, g1, List.findSome?_cons]
    simp only [f2]
    cases q : Q a with
    | none => exact forL_first enc Q I xs (fun b hb => st b (List.mem_cons_of_mem _ hb)) env2 h2
    | some o => exact ⟨env2, h2, rfl⟩
def noF (b : Bool) : Option Ow := if b then none else some (.d (.bool false))
theorem find_noF {α : Type} (P : α → Bool) : ∀ xs : List α, xs.findSome? (fun a => noF (P a)) = noF (xs.all P)
  | [] => rfl
  | a :: xs => by
    rw [List.findSome?_cons, List.all_cons, find_noF P xs]
    cases P a <;> rfl
theorem noF_t : noF true = none := rfl
theorem noF_f : noF false = some (.d (.bool false)) := rfl
noncomputable section
theorem nice_list {ds : List D} {n : Nat} (h : ∀ d ∈ ds, d.canLay0 = true ∧ d.depth ≤ n) (hn : n ≤ 129) : Nice (.list ds) := by
  refine ⟨?_, ?_⟩
  · rw [PyData.canLay0]
    exact canAll_of _ fun d hd => (h d hd).1
  · rw [PyData.depth]
    have := depthAll_of (n := n) ds fun d hd => (h d hd).2
    omega
theorem lcR_filt {α : Type} {g : D → Ev → Option Ev} {c : Ev → R Bool} {e : Ev → R Ow} {env : Ev} (enc : α → D) (P : α → Bool) (h : α → Ow) : ∀ xs : List α, (∀ a ∈ xs, ∃ env1, g (enc a) env = some env1 ∧ c env1 = .ok (P a) ∧ (P a = true → e env1 = .ok (h a))) → lcR g c e env (xs.map enc) = .ok ((xs.filter P).map h)
  | [], _ => rfl
  | d :: ds, q => by
    obtain ⟨env1, q1, q2, q3⟩ := q d List.mem_cons_self
    have ih := lcR_filt (g := g) (c := c) (e := e) (env := env) enc P h ds fun d hd => q d (List.mem_cons_of_mem _ hd)
    rw [List.map_cons]
    unfold lcR
    rw [q1]
    simp only [q2, noEx_ok, R.bind_ok]
    cases hp : P d with
    | true =>
      rw [List.filter_cons_of_pos hp]
      simp only [if_true, q3 hp, noEx_ok, R.bind_ok, ih]
      rfl
    | false =>
      rw [List.filter_cons_of_neg (by rw [hp]; exact Bool.false_ne_true)]
      simp only [Bool.false_eq_true, if_false, ih]
def brD (bs : List Str) : D := .tuple (bs.map PyData.str)
theorem br_len (bs : List Str) : gLen [brD bs] = some (.d (.int (bs.length : Nat))) := by
  have : gLen [brD bs] = some (Ow.d (.int (bs.map PyData.str).length)) := rfl
  rw [this, List.length_map]
end
end Mir
set_option Elab.async false
set_option linter.all false
set_option maxRecDepth 100000
set_option maxHeartbeats 4000000
namespace Mir
open PySem PySem.Spec L2
noncomputable section
def rwsD (rs : List Rw) : D := .list (rs.map encRw)
def trsD (ts : List Trm) : D := .list (ts.map encM)
theorem rws_len (rs : List Rw) : gLen [rwsD rs] = some (.d (.int (rs.length : Nat))) := by
  have : gLen [rwsD rs] = some (Ow.d (.int (rs.map encRw).length)) := rfl
  rw [this, List.length_map]
theorem rw_ix1 (r : Rw) : gIx (encRw r) (.int 1) = some (brD r.br) := by
  unfold encRw brD
  generalize r.br.map PyData.str = B
  simp
structure SndOk (w : Wood) (s : Trm) (ms : List (Str × List Trm)) : Prop where
  kinds : ∀ p ∈ w, PyData.strOk p.1 = true
  few : w.length ≤ 100
  dist : (w.map (·.1)).Nodup
  mkinds : ∀ p ∈ ms, PyData.strOk p.1 = true
def prsOf (w : Wood) : List (Str × D) := w.map fun p => (p.1, rwsD p.2)
theorem asPairs_wd (w : Wood) : asPairs (encWd w) = some (prsOf w) := pairsD_map (fun p : Str × List Rw => p.1) (fun p => rwsD p.2) w
theorem lastP_none : ∀ {w : Wood} {k : Str}, (∀ p ∈ w, p.1 ≠ k) → lastP (prsOf w) k = none
  | [], k, _ => rfl
  | p :: w, k, h => by
    show (lastP (prsOf w) k).or (if p.1 = k then some (rwsD p.2) else none) = none
    rw [lastP_none fun q hq => h q (List.mem_cons_of_mem _ hq), if_neg (h p List.mem_cons_self)]
    rfl
theorem lastP_wd : ∀ {w : Wood} {k : Str}, (w.map (·.1)).Nodup → lastP (prsOf w) k = if (w.any fun q => q.1 == k) = true then some (rwsD (rowsOf w k)) else none
  | [], k, _ => rfl
  | p :: w, k, h => by
    rw [List.map_cons, List.nodup_cons] at h
    show (lastP (prsOf w) k).or (if p.1 = k then some (rwsD p.2) else none) = _
    rw [List.any_cons, rowsOf]
    by_cases c : p.1 = k
    · have : (p.1 == k) = true := by simpa using c
      rw [this, cond_true, Bool.true_or, if_pos rfl, if_pos c, lastP_none fun q hq z => h.1 (by rw [c, ← z]; exact List.mem_map_of_mem hq)]
      rfl
    · have : (p.1 == k) = false := by simpa using c
      rw [this, cond_false, Bool.false_or, if_neg c, lastP_wd h.2, Option.or_none]
def numOf : List Rw → Str → Nat → Option Nat
  | [], _, _ => none
  | r :: rs, nm, k => if r.nm == nm then some k else numOf rs nm (k + 1)
/-- the rule of a name -/
def ruleOf (w : Wood) (p : Str × List Trm) (nm : Str) : D := match numOf (rowsOf w p.1) nm 0 with
  | none => .none
  | some i => match p.2[i]? with
    | some t => encM t
    | none => .none
end
end Mir
set_option Elab.async false
set_option linter.all false
set_option maxRecDepth 100000
set_option maxHeartbeats 4000000
namespace Mir
open PySem PySem.Spec L2
section
variable (S : Trm) (R : Nat → List Trm) (n : Nat)
/-- to the mode lead calls -/
inductive Reach : Int → Prop
  | start {c : Int × Int} : c ∈ callsM S → Reach c.1
  | step {m : Nat} {t : Trm} {c : Int × Int} : Reach (m : Int) → t ∈ R m → c ∈ callsM t → Reach c.1
/-- calls by modes that there are -/
structure Calls : Prop where
  start : ∀ c ∈ callsM S, 0 ≤ c.1 ∧ c.1 < n
  step : ∀ (m : Nat), m < n → ∀ t ∈ R m, ∀ c ∈ callsM t, 0 ≤ c.1 ∧ c.1 < n
/-- found so far; calls still to look at: those of the terms on the stack, and cs -/
structure RInv (l : List Int) (st : List Trm) (cs : List (Int × Int)) : Prop where
  nd : l.Nodup
  rch : ∀ i ∈ l, Reach S R i
  src : ∀ t ∈ st, ∀ c ∈ callsM t, Reach S R c.1
  csr : ∀ c ∈ cs, Reach S R c.1
  s0 : S ∈ st ∨ ∀ c ∈ callsM S, c.1 ∈ l ∨ c ∈ cs
  sm : ∀ m : Nat, (m : Int) ∈ l → ∀ t ∈ R m, t ∈ st ∨ ∀ c ∈ callsM t, c.1 ∈ l ∨ c ∈ cs
variable {S R n}
theorem RInv.pop {l : List Int} {st : List Trm} {t : Trm} (h : RInv S R l (st ++ [t]) []) : RInv S R l st (callsM t) := by
  have hc : ∀ u : Trm, (u ∈ st ++ [t] ∨ ∀ c ∈ callsM u, c.1 ∈ l ∨ c ∈ ([] : List (Int × Int))) → u ∈ st ∨ ∀ c ∈ callsM u, c.1 ∈ l ∨ c ∈ callsM t := fun u hu => by
    rcases hu with hu | hu
    · rcases List.mem_append.mp hu with hu | hu
      · exact .inl hu
      · rw [List.mem_singleton.mp hu]
        exact .inr fun c hc => .inr hc
    · refine .inr fun c hc => ?_
      rcases hu c hc with h | h
      · exact .inl h
      · cases h
  exact ⟨h.nd, h.rch, fun u hu => h.src u (List.mem_append_left _ hu), h.src t (List.mem_append_right _ (List.mem_singleton.mpr rfl)), hc S h.s0, fun m hm u hu => hc u (h.sm m hm u hu)⟩
theorem RInv.done {l : List Int} (h : RInv S R l [] []) (hn : Calls S R n) (i : Int) : i ∈ l ↔ Reach S R i := by
  refine ⟨h.rch i, fun r => ?_⟩
  induction r with
  | @start c hc =>
    rcases h.s0 with q | q
    · cases q
    · rcases q c hc with q | q
      · exact q
      · cases q
  | @step m t c hm ht hc ih =>
    rcases h.sm m ih t ht with q | q
    · cases q
    · rcases q c hc with q | q
      · exact q
      · cases q
end
noncomputable section
def rulesAt (ms : List (Str × List Trm)) (k : Nat) : List Trm := match ms[k]? with
  | some p => p.2
  | none => []
section
variable {t : Trn} {B : Nat} (hB : ∀ p ∈ t.modes, p.2.length ≤ B) (hc : Calls t.start (rulesAt t.modes) t.modes.length) (hm : t.modes.length + (B * t.modes.length + 1) ≤ 10000)
include hB hc hm
variable {f0 : List D → R Ow} (hf : ∀ u, (u = t.start ∨ ∃ p ∈ t.modes, u ∈ p.2) → f0 [encM u] = .ok (encCs (callsM u)) ∧ Nice (encM u) ∧ (encM u).depth ≤ 100)
include hf
end
end
end Mir
set_option Elab.async false
set_option linter.all false
set_option maxRecDepth 100000
set_option maxHeartbeats 4000000
namespace Mir
open PySem PySem.Spec L2
def scD (ns : List Int) : PyData := .list (ns.map PyData.int)
theorem sc_len (ns : List Int) : gLen [scD ns] = some (.d (.int (ns.length : Nat))) := by
  have : gLen [scD ns] = some (Ow.d (.int (ns.map PyData.int).length)) := rfl
  rw [this, List.length_map]
theorem sc_ix {ns : List Int} {k : Nat} {z : Int} (h : ns[k]? = some z) : gIx (scD ns) (.int (k : Nat)) = some (.int z) := by
  show atI (ns.map PyData.int) _ = _
  exact atI_natD (by rw [List.getElem?_map, h]; rfl)
noncomputable section
abbrev bCell : Ev → SR := (sSeq (sIf (eB (eBin gLt (eVar 1) (eM (eCa gLen (aCons (eVar 0) aNil)) viewD)) asB)
    (sRet (eM (eBin gIx (eVar 0) (eVar 1)) Ow.d))
    sSkip)
    (sRet (eM (eC (.int 0)) Ow.d)))
def scCell (ns : List Int) (k : Nat) : Int := ns.getD k 0
theorem cell_fin (ns : List Int) (k : Nat) : finR (bCell (envOf 0 [scD ns, .int (k : Nat)])) = .ok (.d (.int (scCell ns k))) := by
  have hl := sc_len ns
  unfold scCell
  rw [List.getD_eq_getElem?_getD]
  by_cases h : k < ns.length
  · have ix := sc_ix (List.getElem?_eq_getElem h)
    have h' : (k : Int) < (ns.length : Nat) := by omega
    rw [List.getElem?_eq_getElem h]
    generalize scD ns = S at hl ix
    have he : envOf 0 [S, .int (k : Nat)] = [some (.d S), some (.d (.int (k : Nat)))] := rfl
    rw [he]
    simp [hl, ix, h, h']
  · have h' : ¬ (k : Int) < (ns.length : Nat) := by omega
    rw [List.getElem?_eq_none (by omega)]
    generalize scD ns = S at hl
    have he : envOf 0 [S, .int (k : Nat)] = [some (.d S), some (.d (.int (k : Nat)))] := rfl
    rw [he]
    simp [hl, h, h']
end
end Mir
set_option Elab.async false
set_option linter.all false
set_option maxRecDepth 100000
set_option maxHeartbeats 4000000
namespace Mir
open PySem PySem.Spec L2
def brOf : List Rw → Str → Option (List Str)
  | [], _ => none
  | r :: rs, nm => if r.nm == nm then some r.br else brOf rs nm
def obD : Option (List Str) → D
  | none => .none
  | some bs => brD bs
mutual
def isOf (w : Wood) : Tr → Str → Bool
  | .mk nm _ bs, k => match brOf (rowsOf w k) nm with
    | none => false
    | some ks => decide (ks.length = bs.length) && isOfs w bs ks
def isOfs (w : Wood) : List Tr → List Str → Bool
  | [], _ => true
  | _ :: _, [] => true
  | b :: bs, k :: ks => isOf w b k && isOfs w bs ks
end
theorem isOf_mk (w : Wood) (nm : Str) (mk : Int) (bs : List Tr) (k : Str) : isOf w (.mk nm mk bs) k = match brOf (rowsOf w k) nm with
    | none => false
    | some ks => decide (ks.length = bs.length) && isOfs w bs ks := by rw [isOf]
theorem isOfs_zip (w : Wood) : ∀ (bs : List Tr) (ks : List Str), isOfs w bs ks = (ks.zip bs).all fun p => isOf w p.2 p.1
  | [], ks => by rw [isOfs]; simp
  | b :: bs, [] => by rw [isOfs]; rfl
  | b :: bs, k :: ks => by rw [isOfs, isOfs_zip w bs ks]; rfl
noncomputable section
abbrev bRowOf (f1 : List D → R Ow) : Ev → SR := (sSeq (sFor (eB (eM (eB (aCons (eVar 0) (aCons (eVar 1) aNil)) f1) viewD) itD) (gtTup 2 (gtCons (gtName 3) (gtCons (gtName 4) gtNil)))
    (sIf (eB (eBin gEq (eVar 3) (eVar 2)) asB)
    (sRet (eM (eVar 4) Ow.d))
    sSkip))
    (sRet (eM (eC .none) Ow.d)))
theorem brOf_find (nm : Str) : ∀ rs : List Rw, (rs.findSome? fun r => if r.nm == nm then some (Ow.d (brD r.br)) else none) = (brOf rs nm).map fun b => Ow.d (brD b)
  | [] => rfl
  | r :: rs => by
    rw [List.findSome?_cons, brOf]
    cases r.nm == nm with
    | true => rfl
    | false => exact brOf_find nm rs
theorem rowOf_fin {w : Wood} {f1 : List D → R Ow} (k nm : Str) (h1 : ∃ o, f1 [encWd w, .str k] = .ok o ∧ viewD o = rwsD (rowsOf w k)) : finR (bRowOf f1 (envOf 2 [encWd w, .str k, .str nm])) = .ok (.d (obD (brOf (rowsOf w k) nm))) := by
  have he : envOf 2 [encWd w, .str k, .str nm] = [some (.d (encWd w)), some (.d (.str k)), some (.d (.str nm)), none, none] := rfl
  rw [he]
  obtain ⟨o, o1, o2⟩ := h1
  obtain ⟨env', ⟨x3, x4, rfl⟩, lp⟩ := forL_first (g := gtTup 2 (gtCons (gtName 3) (gtCons (gtName 4) gtNil))) (f := sIf (eB (eBin gEq (eVar 3) (eVar 2)) asB)
    (sRet (eM (eVar 4) Ow.d))
    sSkip) encRw (fun r => if r.nm == nm then some (Ow.d (brD r.br)) else none) (fun env => ∃ x3 x4, env = [some (.d (encWd w)), some (.d (.str k)), some (.d (.str nm)), x3, x4]) (rowsOf w k) (fun r _ env ⟨x3, x4, e⟩ => by
      subst e
      refine ⟨[some (.d (encWd w)), some (.d (.str k)), some (.d (.str nm)), some (.d (.str r.nm)), some (.d (brD r.br))], rfl, [some (.d (encWd w)), some (.d (.str k)), some (.d (.str nm)), some (.d (.str r.nm)), some (.d (brD r.br))], ⟨_, _, rfl⟩, ?_⟩
      generalize brD r.br = B
      generalize encWd w = W
      cases c : r.nm == nm <;> simp [gEq_str, c, orRt]) [some (.d (encWd w)), some (.d (.str k)), some (.d (.str nm)), none, none] ⟨none, none, rfl⟩
  rw [brOf_find] at lp
  show finR (sSeq _ _ _) = _
  rw [sSeq_eq, sFor_eq]
  have e3 : (eB (eM (eB (aCons (eVar 0) (aCons (eVar 1) aNil)) f1) viewD) itD) [some (.d (encWd w)), some (.d (.str k)), some (.d (.str nm)), none, none] = .ok ((rowsOf w k).map encRw) := by
    have : itD (rwsD (rowsOf w k)) = .ok ((rowsOf w k).map encRw) := rfl
    generalize rwsD (rowsOf w k) = RS at this o2
    simp [o1, o2, this]
  rw [e3, R.st_ok, lp]
  cases brOf (rowsOf w k) nm with
  | none => simp [orRt, obD]
  | some i => simp [orRt, obD]
abbrev isStep (f3 : List D → R Ow) : Ev → SR := (sIf (tNotE (eB (eM (eB (aCons (eVar 0) (aCons (eVar 4) (aCons (eVar 5) aNil))) f3) viewD) asB))
    (sRet (eM (eC (.bool false)) Ow.d))
    sSkip)
abbrev bIsOf (f2 f3 : List D → R Ow) : Ev → SR := (sSeq (sSet 3 (eM (eM (eB (aCons (eVar 0) (aCons (eVar 1) (aCons (eBin gIx (eVar 2) (eC (.int 0))) aNil))) f2) viewD) Ow.d))
    (sSeq (sIf (tOrE (eB (eBin gIsN (eVar 3) (eC .none)) asB) (eB (eBin gNe (eM (eCa gLen (aCons (eVar 3) aNil)) viewD) (eM (eCa gLen (aCons (eBin gIx (eVar 2) (eC (.int 2))) aNil)) viewD)) asB))
    (sRet (eM (eC (.bool false)) Ow.d))
    sSkip)
    (sSeq (sFor (eB (aCons (eVar 3) (aCons (eBin gIx (eVar 2) (eC (.int 2))) aNil)) zpArg) (gtTup 2 (gtCons (gtName 4) (gtCons (gtName 5) gtNil)))
    (isStep f3))
    (sRet (eM (eC (.bool true)) Ow.d)))))
theorem tup_len (l : List D) : gLen [.tuple l] = some (.d (.int (l.length : Nat))) := rfl
theorem isOf_fin {w : Wood} {f2 f3 : List D → R Ow} (k nm : Str) (mk : Int) (bs : List Tr) (h2 : f2 [encWd w, .str k, .str nm] = .ok (.d (obD (brOf (rowsOf w k) nm)))) (h3 : ∀ b ∈ bs, ∀ k, f3 [encWd w, .str k, encT b] = .ok (.d (.bool (isOf w b k)))) :
    finR (bIsOf f2 f3 (envOf 3 [encWd w, .str k, encT (.mk nm mk bs)])) = .ok (.d (.bool (isOf w (.mk nm mk bs) k))) := by
  have he : envOf 3 [encWd w, .str k, encT (.mk nm mk bs)] = [some (.d (encWd w)), some (.d (.str k)), some (.d (encT (.mk nm mk bs))), none, none, none] := rfl
  rw [he, isOf_mk]
  have i0 := t_ix0 nm mk bs
  have i2 := t_ix2 nm mk bs
  have l2 := tup_len (bs.map encT)
  rw [List.length_map] at l2
  refine fin_step (env1 := [some (.d (encWd w)), some (.d (.str k)), some (.d (encT (.mk nm mk bs))), some (.d (obD (brOf (rowsOf w k) nm))), none, none]) (by
    generalize obD (brOf (rowsOf w k) nm) = O at h2 ⊢
    generalize encT (.mk nm mk bs) = T at i0
    generalize encWd w = W at h2
    simp [i0, h2]) ?_
  cases brOf (rowsOf w k) nm with
  | none =>
    generalize encT (.mk nm mk bs) = T
    generalize encWd w = W
    have n1 : isNone (PyData.none) = true := rfl
    simp [obD, n1]
  | some ks =>
    have n1 : isNone (brD ks) = false := rfl
    have lk := br_len ks
    show finR (sSeq (sIf _ _ _) (sSeq (sFor _ _ _) _) [some (.d (encWd w)), some (.d (.str k)), some (.d (encT (.mk nm mk bs))), some (.d (brD ks)), none, none]) = _
    have zp : zpArg [brD ks, .tuple (bs.map encT)] = .ok ((ks.zip bs).map fun p => .tuple [.str p.1, encT p.2]) := by
      have : zpArg [brD ks, .tuple (bs.map encT)] = .ok (zipD (ks.map PyData.str) (bs.map encT)) := rfl
      rw [this, zipD_zip]
    by_cases c : ks.length = bs.length
    · have ct : (tOrE (eB (eBin gIsN (eVar 3) (eC .none)) asB) (eB (eBin gNe (eM (eCa gLen (aCons (eVar 3) aNil)) viewD) (eM (eCa gLen (aCons (eBin gIx (eVar 2) (eC (.int 2))) aNil)) viewD)) asB)) [some (.d (encWd w)), some (.d (.str k)), some (.d (encT (.mk nm mk bs))), some (.d (brD ks)), none, none] = .ok false := by
        generalize PyData.tuple (bs.map encT) = TB at i2 l2
        generalize encT (.mk nm mk bs) = T at i2
        generalize encWd w = W
        generalize brD ks = B at n1 lk
        simp [n1, lk, i2, l2, c]
      rw [sSeq_eq, sIf_eq, ct, R.st_ok]
      simp only [Bool.false_eq_true, if_false, sSkip_eq, SR.andThen]
      obtain ⟨env', ⟨x4, x5, rfl⟩, lp⟩ := forL_first (g := gtTup 2 (gtCons (gtName 4) (gtCons (gtName 5) gtNil))) (f := isStep f3) (fun p : Str × Tr => PyData.tuple [.str p.1, encT p.2]) (fun p => noF (isOf w p.2 p.1)) (fun env => ∃ x4 x5, env = [some (.d (encWd w)), some (.d (.str k)), some (.d (encT (.mk nm mk bs))), some (.d (brD ks)), x4, x5]) (ks.zip bs) (fun p hp env ⟨x4, x5, e⟩ => by
        subst e
        refine ⟨[some (.d (encWd w)), some (.d (.str k)), some (.d (encT (.mk nm mk bs))), some (.d (brD ks)), some (.d (.str p.1)), some (.d (encT p.2))], rfl, [some (.d (encWd w)), some (.d (.str k)), some (.d (encT (.mk nm mk bs))), some (.d (brD ks)), some (.d (.str p.1)), some (.d (encT p.2))], ⟨_, _, rfl⟩, ?_⟩
        have hh := h3 p.2 (List.of_mem_zip hp).2 p.1
        generalize encT p.2 = T2 at hh ⊢
        generalize encT (.mk nm mk bs) = T
        generalize encWd w = W at hh
        generalize brD ks = B
        cases cc : isOf w p.2 p.1 with
        | true => rw [cc] at hh; simp [hh, noF_t, orRt]
        | false => rw [cc] at hh; simp [hh, noF_f, orRt]) [some (.d (encWd w)), some (.d (.str k)), some (.d (encT (.mk nm mk bs))), some (.d (brD ks)), none, none] ⟨none, none, rfl⟩
      rw [find_noF] at lp
      rw [sSeq_eq, sFor_eq]
      have e3 : (eB (aCons (eVar 3) (aCons (eBin gIx (eVar 2) (eC (.int 2))) aNil)) zpArg) [some (.d (encWd w)), some (.d (.str k)), some (.d (encT (.mk nm mk bs))), some (.d (brD ks)), none, none] = .ok ((ks.zip bs).map fun p => .tuple [.str p.1, encT p.2]) := by
        generalize PyData.tuple (bs.map encT) = TB at i2 zp
        generalize encT (.mk nm mk bs) = T at i2
        generalize encWd w = W
        generalize brD ks = B at zp
        simp [i2, zp]
      rw [e3, R.st_ok, lp, decide_eq_true c, Bool.true_and, isOfs_zip]
      cases (ks.zip bs).all fun p => isOf w p.2 p.1 with
      | true => simp [noF_t, orRt]
      | false => simp [noF_f, orRt]
    · have c' : ¬ ((ks.length : Nat) : Int) = (bs.length : Nat) := by omega
      simp only [decide_eq_false c, Bool.false_and]
      generalize PyData.tuple (bs.map encT) = TB at i2 l2
      generalize encT (.mk nm mk bs) = T at i2
      generalize encWd w = W
      generalize brD ks = B at n1 lk
      simp [n1, lk, i2, l2, c']
def aboveT (u : Tr) : Tr := .mk "" 0 [u]
def mkOf (kp : Bool) (ad mk : Int) : Int := if kp then ad + mk else ad
end
end Mir
set_option Elab.async false
set_option linter.all false
set_option maxRecDepth 100000
set_option maxHeartbeats 4000000
namespace Mir
open PySem PySem.Spec L2
def onStep (i : Int) (l : List Int) (c : Int × Int) : List Int := if c.2 = i ∧ c.1 ∉ l then l ++ [c.1] else l
def onAll (i : Int) (cs : List (Int × Int)) (l : List Int) : List Int := cs.foldl (onStep i) l
def risen (l : List Int) : List Int := l.mergeSort fun a b => decide (a ≤ b)
noncomputable section
/-- the modes in which terms call a branch, rising -/
def modesOn (i : Int) (Ts : List Trm) : List Int := risen (onAll i (callsMs Ts) [])
end
def trNm : Tr → Str
  | .mk n _ _ => n
def trBs : Tr → List Tr
  | .mk _ _ bs => bs
def noTm : Trm := .call 0 0
def noTr : Tr := .mk "" 0 []
/-- the rule of a mode for a name -/
def ruleT (t : Trn) (m : Int) (nm : Str) : Option Trm := match t.modes[m.toNat]? with
  | none => none
  | some p => match numOf (rowsOf t.wood p.1) nm 0 with
    | none => none
    | some i => p.2[i]?
def ruleF (t : Trn) (m : Int) (nm : Str) : Trm := (ruleT t m nm).getD noTm
mutual
def madB (mk : Int) (fs : List (Int → Tr)) : Trm → Tr
  | .call m b => (fs.getD b.toNat fun _ => noTr) m
  | .put nm kp ad ps => .mk nm (mkOf kp ad mk) (madBs mk fs ps)
def madBs (mk : Int) (fs : List (Int → Tr)) : List Trm → List Tr
  | [] => []
  | p :: ps => madB mk fs p :: madBs mk fs ps
end
theorem madBs_map (mk : Int) (fs : List (Int → Tr)) : ∀ ps, madBs mk fs ps = ps.map (madB mk fs)
  | [] => by rw [madBs]; rfl
  | p :: ps => by rw [madBs, madBs_map mk fs ps]; rfl
mutual
def madT (t : Trn) : Tr → Trm → Tr
  | .mk _ mk bs => madB mk (madTs t bs)
def madTs (t : Trn) : List Tr → List (Int → Tr)
  | [] => []
  | b :: bs => (fun m => madT t b (ruleF t m (trNm b))) :: madTs t bs
end
theorem madT_put (t : Trn) (nm : Str) (mk : Int) (bs : List Tr) (n : Str) (kp : Bool) (ad : Int) (ps : List Trm) : madT t (.mk nm mk bs) (.put n kp ad ps) = .mk n (mkOf kp ad mk) (ps.map (madT t (.mk nm mk bs))) := by
  rw [madT, madB, madBs_map]
/-- size and levels -/
def mesD (o : Tr) : D := .tuple [.int (sizeT o : Nat), .int (levT o : Nat)]
noncomputable section
end
end Mir
set_option Elab.async false
set_option linter.all false
set_option maxRecDepth 100000
set_option maxHeartbeats 4000000
namespace Mir
open PySem PySem.Spec L2
/-- the calls of a term fit branches of these kinds -/
def FitT (t : Trn) (ks : List Str) (T : Trm) : Prop := ∀ c ∈ callsM T, 0 ≤ c.1 ∧ 0 ≤ c.2 ∧ ∃ p, t.modes[c.1.toNat]? = some p ∧ ks[c.2.toNat]? = some p.1
structure GoodM (B : Nat) (T : Trm) : Prop where
  ok : okM T
  lev : levM T ≤ B
  few : sizeM T ≤ 1000
structure SndT (t : Trn) (B : Nat) : Prop where
  few : t.modes.length ≤ 1000
  wide : ∀ k nm ks, brOf (rowsOf t.wood k) nm = some ks → ks.length ≤ 1000
  lens : ∀ p ∈ t.modes, p.2.length = (rowsOf t.wood p.1).length
  fits : ∀ p ∈ t.modes, ∀ (i : Nat) (row : Rw) (T : Trm), (rowsOf t.wood p.1)[i]? = some row → p.2[i]? = some T → FitT t row.br T ∧ GoodM B T
theorem sizeMs_memM : ∀ {ps : List Trm} {p : Trm}, p ∈ ps → sizeM p ≤ sizeMs ps
  | q :: ps, p, h => by
    rw [sizeMs]
    rcases List.mem_cons.mp h with rfl | h
    · omega
    · have := sizeMs_memM h
      omega
theorem fit_put {t : Trn} {ks : List Str} {nm : Str} {kp : Bool} {ad : Int} {ps : List Trm} (h : FitT t ks (.put nm kp ad ps)) : ∀ p ∈ ps, FitT t ks p := fun p hp c hc => h c (by rw [callsM, callsMs_flat, List.mem_flatten]; exact ⟨_, List.mem_map.mpr ⟨p, hp, rfl⟩, hc⟩)
/-- what below_of tells -/
def prsB (t : Trn) (Ts : List Trm) (i : Nat) (b : Tr) : List (D × D) := (modesOn (i : Int) Ts).map fun m => (PyData.int m, mesD (madT t b (ruleF t m (trNm b))))
def belL (t : Trn) (Ts : List Trm) : Nat → List Tr → List D
  | _, [] => []
  | i, b :: bs => .dict (prsB t Ts i b) :: belL t Ts (i + 1) bs
noncomputable section
end
end Mir
set_option Elab.async false
set_option linter.all false
set_option maxRecDepth 100000
set_option maxHeartbeats 4000000
namespace Mir
open PySem PySem.Spec L2
noncomputable section
@[simp] theorem R.map_exc {α β : Type} (f : α → β) (c : Str) : R.map f (.ex c) = .ex c := rfl
@[simp] theorem R.bind_exc {α β : Type} (f : α → R β) (c : Str) : R.bind (.ex c) f = .ex c := rfl
@[simp] theorem R.st_exc {α : Type} (env : Ev) (f : α → SR) (c : Str) : (R.ex c : R α).st env f = .ex c env := rfl
@[simp] theorem andThen_exc (c : Str) (env : Ev) (g : Ev → SR) : (SR.ex c env).andThen g = .ex c env := rfl
@[simp] theorem finR_exc (c : Str) (env : Ev) : finR (.ex c env) = .ex c := rfl
/-- what the walk of a branch needs -/
structure BrOk (t : Trn) (Ts : List Trm) (f5 f9 f10 f11 : List D → R Ow) (j : Nat) (b : Tr) : Prop where
  few : (modesOn (j : Int) Ts).length ≤ 1000
  h9 : f9 [trsD Ts, .int (j : Nat)] = .ok (.l ((modesOn (j : Int) Ts).map fun m => .d (.int m)))
  h5 : ∀ m ∈ modesOn (j : Int) Ts, f5 [encTn t, .int m, .str (trNm b)] = .ok (.d (encM (ruleF t m (trNm b))))
  h11 : f11 [encTn t, trsD ((modesOn (j : Int) Ts).map fun m => ruleF t m (trNm b)), encT b] = .ok (.l ((belL t ((modesOn (j : Int) Ts).map fun m => ruleF t m (trNm b)) 0 (trBs b)).map Ow.d))
  h10 : ∀ m ∈ modesOn (j : Int) Ts, f10 [encM (ruleF t m (trNm b)), .list (belL t ((modesOn (j : Int) Ts).map fun m => ruleF t m (trNm b)) 0 (trBs b))] = .ok (.d (mesD (madT t b (ruleF t m (trNm b)))))
end
end Mir
set_option Elab.async false
set_option linter.all false
set_option maxRecDepth 100000
set_option maxHeartbeats 4000000
namespace Mir
open PySem PySem.Spec L2
/-- names below sixteen, told apart -/
def KnInj (kn : Nat → Str) : Prop := ∀ i j, i < 16 → j < 16 → kn i = kn j → i = j
theorem WdOk.kinds {w : Wood} {kn : Nat → Str} (h : WdOk w kn) (hk : KnInj kn) : (w.map (·.1)).Nodup := by
  unfold List.Nodup
  rw [List.pairwise_iff_getElem]
  intro i j hi hj hij e
  rw [List.length_map] at hi hj
  have hf := h.few
  rw [List.getElem_map, List.getElem_map] at e
  have a := h.at_ i _ (List.getElem?_eq_getElem hi)
  have b := h.at_ j _ (List.getElem?_eq_getElem hj)
  have e2 : w[i].1 = w[j].1 := e
  rw [a, b] at e2
  have := hk i j (by omega) (by omega) e2
  omega
theorem RwNm.nodup {kn : Nat → Str} {rs : List Rw} (h : RwNm kn rs) (hl : rs.length ≤ 3) (hk : KnInj kn) : (rs.map (·.nm)).Nodup := by
  obtain ⟨b, hb, hp⟩ := h
  rw [hp.nodup_iff]
  unfold List.Nodup
  rw [List.pairwise_iff_getElem]
  intro i j hi hj hij e
  rw [List.length_map, List.length_range] at hi hj
  rw [List.getElem_map, List.getElem_map, List.getElem_range, List.getElem_range] at e
  have := hk _ _ (by omega) (by omega) e
  omega
theorem rowsK_or (w : Wood) (k : Str) : rowsOf w k = [] ∨ ∃ p ∈ w, p.1 = k ∧ rowsOf w k = p.2 := by
  induction w with
  | nil => exact .inl rfl
  | cons p w ih =>
    rw [rowsOf]
    cases c : p.1 == k with
    | true => exact .inr ⟨p, List.mem_cons_self, by simpa using c, rfl⟩
    | false =>
      rcases ih with h | ⟨q, h1, h2, h3⟩
      · exact .inl h
      · exact .inr ⟨q, List.mem_cons_of_mem _ h1, h2, h3⟩
theorem brOf_in {nm : Str} : ∀ {rs : List Rw} {ks : List Str}, brOf rs nm = some ks → ∃ r ∈ rs, r.nm = nm ∧ r.br = ks
  | [], ks, h => by cases h
  | r :: rs, ks, h => by
    rw [brOf] at h
    split at h
    · rename_i c
      exact ⟨r, List.mem_cons_self, by simpa using c, Option.some.inj h⟩
    · obtain ⟨q, h1, h2⟩ := brOf_in h
      exact ⟨q, List.mem_cons_of_mem _ h1, h2⟩
theorem brOf_of {rs : List Rw} (hd : (rs.map (·.nm)).Nodup) {r : Rw} (hr : r ∈ rs) : brOf rs r.nm = some r.br := by
  induction rs with
  | nil => cases hr
  | cons q rs ih =>
    rw [List.map_cons, List.nodup_cons] at hd
    rw [brOf]
    rcases List.mem_cons.mp hr with e | e
    · rw [e, beq_self_eq_true, if_pos rfl]
    · rw [if_neg, ih hd.2 e]
      intro c
      have c : q.nm = r.nm := by simpa using c
      exact hd.1 (List.mem_map.mpr ⟨r, e, c.symm⟩)
/-- what the later laws need of a drawn turning -/
structure TnGd (t : Trn) : Prop where
  snd : SndT t 3
  ok : TnOk t
  kinds : (t.wood.map (·.1)).Nodup
  rows : ∀ p ∈ t.wood, (p.2.map (·.nm)).Nodup ∧ (∃ r ∈ p.2, r.br = []) ∧ ∀ r ∈ p.2, PyData.strOk r.nm = true ∧ r.br.length ≤ 4 ∧ ∀ z ∈ r.br, ∃ q ∈ t.wood, q.1 = z
  mkind : ∀ p ∈ t.modes, ∃ q ∈ t.wood, q.1 = p.1
  some : 1 ≤ t.wood.length
  stop : ∃ N, N ≤ 36 ∧ tab (mds t) (N + 1) = tab (mds t) N ∧ ∀ i, i < N → tab (mds t) (i + 1) ≠ tab (mds t) i
theorem TnMade.gd {t : Trn} {kn : Nat → Str} (m : TnMade t) (hw : WdOk t.wood kn) (hk : KnInj kn) : TnGd t := by
  have ok := m.ok hw
  refine ⟨⟨by have := m.few; omega, fun k nm ks h => ?_, fun p hp => (m.rules p hp).1, fun p hp i row T hr hT => ?_⟩, ok, hw.kinds hk, fun p hp => ?_, m.kind, hw.one, ?_⟩
  · obtain ⟨r, hr, _, e⟩ := brOf_in h
    rcases rowsK_or t.wood k with z | ⟨p, hp, _, e2⟩
    · rw [z] at hr; cases hr
    · rw [e2] at hr
      have := ((hw.rows p hp).2.2 r hr).2.1
      rw [← e]
      omega
  · obtain ⟨a, b, c, d⟩ := (m.rules p hp).2 i row T hr hT
    refine ⟨fun z hz => ?_, a, b, by omega⟩
    obtain ⟨x, y, e, q, h1, h2⟩ := d z hz
    subst e
    rw [List.getElem?_map] at h1
    cases hx : t.modes[x]? with
    | none => rw [hx] at h1; cases h1
    | some p' =>
      rw [hx] at h1
      have e : p'.1 = q := Option.some.inj h1
      exact ⟨by show (0 : Int) ≤ (x : Nat); omega, by show (0 : Int) ≤ (y : Nat); omega, p', by rw [Int.toNat_natCast]; exact hx, by rw [Int.toNat_natCast, e]; exact h2⟩
  · obtain ⟨a, b, c⟩ := hw.rows p hp
    refine ⟨(hw.rnm p hp).nodup a hk, b, fun r hr => ?_⟩
    obtain ⟨c1, c2, c3⟩ := c r hr
    refine ⟨c1, c2, fun z hz => ?_⟩
    obtain ⟨j, hj, e⟩ := c3 z hz
    exact ⟨t.wood[j], List.getElem_mem hj, by rw [e]; exact hw.at_ j _ (List.getElem?_eq_getElem hj)⟩
  · obtain ⟨N, h1, h2, h3⟩ := tab_stop (mds t) (mds_ok ok)
    refine ⟨N, ?_, h2, h3⟩
    have each : ∀ s ∈ tab (mds t) 0, cS s ≤ 9 := fun s hs => by
      obtain ⟨md, hm, rfl⟩ := List.mem_map.mp (show s ∈ (mds t).map fun m => metOf ((bares m).map (stIn [])) from hs)
      obtain ⟨p, hp, rfl⟩ := List.mem_map.mp hm
      obtain ⟨h1, _⟩ := ok.bare p hp
      obtain ⟨r, rest, e⟩ : ∃ r rest, bares (mdOf t.wood p) = r :: rest := by
        cases e : bares (mdOf t.wood p) with
        | nil => exact absurd e h1
        | cons r rest => exact ⟨r, rest, rfl⟩
      have le : leS (metOf ((bares (mdOf t.wood p)).map (stIn []))) (stIn [] r) := metOf_le (by rw [e]; simp)
      have hr : r ∈ p.2 := bares_in r (by rw [e]; simp)
      obtain ⟨i, hi, ei⟩ := List.mem_iff_getElem.mp hr
      obtain ⟨q1, q2⟩ := m.rules p hp
      have := (q2 i _ r (List.getElem?_eq_getElem (by omega)) (by rw [List.getElem?_eq_getElem hi, ei])).2.2.1
      have a := (leS_c le).1
      have b := stIn_c r
      omega
    have := cSs_le (n := 9) (ss := tab (mds t) 0) each
    rw [tab_len] at this
    have l : (mds t).length = t.modes.length := List.length_map _
    rw [l] at this
    have := m.few
    have : 9 * t.modes.length ≤ 9 * 4 := Nat.mul_le_mul_left _ this
    omega
end Mir
set_option Elab.async false
set_option linter.all false
set_option maxRecDepth 100000
set_option maxHeartbeats 4000000
namespace Mir
open PySem PySem.Spec L2
theorem occ_abc : ∀ j : Fin 26, Builtin.Str.occurrences abc (tx [97 + j.val]) 0 abc.length 1 = [j.val] := by decide +kernel
theorem gSl_from {l : List Nat} {k : Nat} (hk : k ≤ l.length) (hl : l.length ≤ 16777216) : gSl (.str (tx l)) (some (k : Int)) none = some (.d (.str (tx (l.drop k)))) := by
  show (if (tx l).length ≤ sizeLine then some (Ow.d (.str (cutS (tx l) (some (k : Int)) none))) else none) = _
  rw [tx_len, if_pos (by rw [sizeLine_eq]; exact hl)]
  unfold cutS
  rw [tx_len, tx_cps, HT.sIx_nat, HT.sIx_none, Nat.min_eq_left hk, List.take_of_length_le (by rw [List.length_drop]; omega)]
  rfl
noncomputable section
abbrev n9Step : Ev → SR := (sSet 5 (eM (eM (eBinO gAdd (eVar 5) (eBin gIx (eVar 3) (eBin gMod (eM (eBinO gAdd (eBin gDiv (eVar 4) (eM (eBinO gAdd (eVar 6) (eC (.int 1))) viewD)) (eBin gMul (eBin gMul (eC (.int 3)) (eVar 6)) (eVar 6))) viewD) (eC (.int 26))))) viewD) Ow.d))
abbrev bNames9 : Ev → SR := (sSeq (sSet 3 (eM (eC (.str "abcdefghijklmnopqrstuvwxyz")) Ow.d))
    (sSeq (sSet 4 (eM (eBin gMod (eVar 0) (eBin gPow (eC (.int 10)) (eC (.int 20)))) Ow.d))
    (sSeq (sSet 5 (eM (eC (.str "")) Ow.d))
    (sSeq (sFor (eB (aCons (eM (eBinO gAdd (eC (.int 1)) (eBin gMod (eVar 4) (eC (.int 8)))) viewD) aNil) rg1) (gtName 6)
    n9Step)
    (sSeq (sSet 7 (eM (eBin gMod (eVar 1) (eM (eCa gLen (aCons (eVar 5) aNil)) viewD)) Ow.d))
    (sSeq (sSet 8 (eM (eTxIndex (eVar 3) (eBin gIx (eVar 5) (eVar 7))) Ow.d))
    (sRet (eLc (eB (aCons (eVar 2) aNil) rg1) (gtName 6) cYes (eBinO gAdd (eB (eBinO gAdd (eB (eSl (eVar 5) oNone (eB (eVar 7) asI)) shD) (eBin gIx (eVar 3) (eBin gMod (eM (eBinO gAdd (eVar 8) (eVar 6)) viewD) (eC (.int 26))))) shD) (eB (eSl (eVar 5) (eB (eM (eBinO gAdd (eVar 7) (eC (.int 1))) viewD) asI) oNone) shD)) (List.map (·.2) ([("_law_k", 6)] : List (Str × Nat)))))))))))
/-- the k-th name: one letter moved on -/
def nm9 (b : List Nat) (t f k : Nat) : List Nat := b.take t ++ [97 + (f + k) % 26] ++ b.drop (t + 1)
theorem nm9_apart {b : List Nat} {t f i j : Nat} (ht : t < b.length) (hi : i < 26) (hj : j < 26) (h : nm9 b t f i = nm9 b t f j) : i = j := by
  unfold nm9 at h
  have tl : (b.take t).length = t := by rw [List.length_take]; omega
  have e := congrArg (fun l => l[t]?) h
  simp only [List.append_assoc, List.getElem?_append, tl, Nat.lt_irrefl, if_false, Nat.sub_self] at e
  simp at e
  omega
theorem names9_fin (c w : Int) (n : Nat) (hn : n ≤ 100) : ∃ (b : List Nat) (t f : Nat), t < b.length ∧ b.length ≤ 8 ∧ (∀ z ∈ b, isL z = true) ∧ f < 26 ∧ finR (bNames9 (envOf 6 [.int c, .int w, .int (n : Nat)])) = .ok (.l ((List.range n).map fun k => .d (.str (tx (nm9 b t f k))))) := by
  have p20 : gPow (.int 10) (.int 20) = some (.int (10 ^ 20)) := gPow10 20 (by decide)
  obtain ⟨M, hM⟩ : ∃ M : Int, M = c % 10 ^ 20 := ⟨_, rfl⟩
  have hM0 : 0 ≤ M := by rw [hM]; exact Int.emod_nonneg _ (by decide)
  have mM : gMod (.int c) (.int (10 ^ 20)) = some (.int M) := by rw [hM]; exact gMod_int (by decide)
  obtain ⟨T20, hT20⟩ : ∃ T : Int, T = 10 ^ 20 := ⟨_, rfl⟩
  rw [← hT20] at p20 mM
  obtain ⟨lg, hlg⟩ : ∃ lg : Nat, 1 + M % 8 = (lg : Int) := ⟨(1 + M % 8).toNat, by omega⟩
  have lb : 1 ≤ lg ∧ lg ≤ 8 := by omega
  have m8 : gMod (.int M) (.int 8) = some (.int (M % 8)) := gMod_int (by decide)
  have letter : ∀ i : Int, 0 ≤ i → isL (97 + (i % 26).toNat) = true ∧ gMod (.int i) (.int 26) = some (.int (i % 26)) ∧ gIx (.str abc) (.int (i % 26)) = some (.str (tx [97 + (i % 26).toNat])) := fun i h => by
    obtain ⟨k, hk⟩ : ∃ k : Nat, i % 26 = (k : Int) := ⟨(i % 26).toNat, by omega⟩
    have hk26 : k < 26 := by omega
    rw [hk, Int.toNat_natCast]
    refine ⟨?_, by rw [← hk]; exact gMod_int (by decide), abc_ix hk26⟩
    unfold isL
    have a : 97 ≤ 97 + k := by omega
    have b : 97 + k ≤ 122 := by omega
    simp [a, b]
  obtain ⟨env', e1, x6, b, e2, bl, hL⟩ := forL_ind (g := gtName 6) (f := n9Step) (rangeD 0 lg)
    (fun i env => ∃ (x6 : Option Ow) (b : List Nat), env = [some (.d (.int c)), some (.d (.int w)), some (.d (.int (n : Nat))), some (.d (.str abc)), some (.d (.int M)), some (.d (.str (tx b))), x6, none, none] ∧ b.length = i ∧ ∀ z ∈ b, isL z = true) (fun i d env hd ⟨x6, b, he, bl, hL⟩ => by
      obtain ⟨hi, ed⟩ := rangeD_at hd
      rw [Int.zero_add] at ed
      subst ed he
      have dv : gDiv (.int M) (.int ((i : Nat) + 1 : Int)) = some (.int (M / ((i : Nat) + 1 : Int))) := gDiv_small (by omega) (by omega)
      have g3 : gMul (.int 3) (.int (i : Nat)) = some (.int (3 * (i : Nat))) := gMul_by (by omega) (by omega)
      have g4 : gMul (.int (3 * (i : Nat))) (.int (i : Nat)) = some (.int (3 * (i : Nat) * (i : Nat))) := gMul_by (by omega) (by omega)
      have z1 : 0 ≤ M / ((i : Nat) + 1 : Int) := Int.ediv_nonneg hM0 (by omega)
      have z2 : 0 ≤ 3 * (i : Int) * (i : Int) := Int.mul_nonneg (by omega) (by omega)
      obtain ⟨hc, h1, h2⟩ := letter (M / ((i : Nat) + 1 : Int) + 3 * (i : Nat) * (i : Nat)) (by omega)
      generalize 3 * (i : Int) * (i : Int) = Q at g4 h1 h2 hc
      generalize M / ((i : Nat) + 1 : Int) = P at dv h1 h2 hc
      generalize 97 + ((P + Q) % 26).toNat = ch at hc h2
      have hadd : gAdd (.str (tx b)) (.str (tx [ch])) = some (.d (.str (tx (b ++ [ch])))) := gAdd_tx (by rw [List.length_singleton]; omega)
      refine ⟨[some (.d (.int c)), some (.d (.int w)), some (.d (.int (n : Nat))), some (.d (.str abc)), some (.d (.int M)), some (.d (.str (tx b))), some (.d (.int (i : Nat))), none, none], rfl, [some (.d (.int c)), some (.d (.int w)), some (.d (.int (n : Nat))), some (.d (.str abc)), some (.d (.int M)), some (.d (.str (tx (b ++ [ch])))), some (.d (.int (i : Nat))), none, none], .inl ?_, _, _, rfl, by rw [List.length_append, bl]; rfl, fun z hz => ?_⟩
      · generalize Str.ofString "x" = dummy
        simp [dv, g3, g4, h1, h2, hadd]
      · rcases List.mem_append.mp hz with h | h
        · exact hL z h
        · rw [List.mem_singleton] at h; subst h; exact hc) [some (.d (.int c)), some (.d (.int w)), some (.d (.int (n : Nat))), some (.d (.str abc)), some (.d (.int M)), some (.d (.str (tx []))), none, none, none] ⟨none, [], rfl, rfl, fun z h => by cases h⟩
  subst e2
  rw [show (rangeD 0 lg).length = lg from by simp [rangeD]] at bl
  obtain ⟨t, ht⟩ : ∃ t : Nat, w % (lg : Int) = (t : Int) := ⟨(w % (lg : Int)).toNat, by have := Int.emod_nonneg w (show (lg : Int) ≠ 0 by omega); omega⟩
  have tl : t < lg := by have := Int.emod_lt_of_pos w (show (0 : Int) < (lg : Int) by omega); omega
  have mt : gMod (.int w) (.int (lg : Nat)) = some (.int (t : Nat)) := by rw [← ht]; exact gMod_int (by omega)
  have tb : t < b.length := by omega
  obtain ⟨ch, hch⟩ : ∃ ch, b[t]? = some ch := ⟨_, List.getElem?_eq_getElem tb⟩
  have cL := hL ch (List.mem_of_getElem? hch)
  obtain ⟨f, hf, hf26⟩ : ∃ f, ch = 97 + f ∧ f < 26 := by
    unfold isL at cL
    simp at cL
    exact ⟨ch - 97, by omega, by omega⟩
  refine ⟨b, t, f, tb, by omega, hL, hf26, ?_⟩
  have ib : gIx (.str (tx b)) (.int (t : Nat)) = some (.str (tx [97 + f])) := by rw [← hf]; exact gIx_tx hch (by omega)
  have oc : gIndex (.str abc) (.str (tx [97 + f])) = some (.int (f : Nat)) := by
    show (match Builtin.Str.occurrences abc (tx [97 + f]) 0 abc.length 1 with
      | i :: _ => some (PyData.int (i : Nat))
      | [] => none) = _
    rw [occ_abc ⟨f, hf26⟩]
  have lenb : gLen [.str (tx b)] = some (.d (.int (lg : Nat))) := by
    have : gLen [.str (tx b)] = some (Ow.d (.int ((tx b).length : Nat))) := if_pos (by rw [tx_len, sizeLine_eq]; omega)
    rw [this, tx_len, bl]
  have he : envOf 6 [.int c, .int w, .int (n : Nat)] = [some (.d (.int c)), some (.d (.int w)), some (.d (.int (n : Nat))), none, none, none, none, none, none] := rfl
  rw [he]
  refine fin_step (env1 := [some (.d (.int c)), some (.d (.int w)), some (.d (.int (n : Nat))), some (.d (.str abc)), none, none, none, none, none]) rfl ?_
  refine fin_step (env1 := [some (.d (.int c)), some (.d (.int w)), some (.d (.int (n : Nat))), some (.d (.str abc)), some (.d (.int M)), none, none, none, none]) (by generalize abc = A; simp [p20, mM]) ?_
  refine fin_step (env1 := [some (.d (.int c)), some (.d (.int w)), some (.d (.int (n : Nat))), some (.d (.str abc)), some (.d (.int M)), some (.d (.str (tx []))), none, none, none]) (by rw [← empty_is]; rfl) ?_
  refine fin_step (env1 := _) (by
    rw [sFor_eq]
    have it : (eB (aCons (eM (eBinO gAdd (eC (.int 1)) (eBin gMod (eVar 4) (eC (.int 8)))) viewD) aNil) rg1) [some (.d (.int c)), some (.d (.int w)), some (.d (.int (n : Nat))), some (.d (.str abc)), some (.d (.int M)), some (.d (.str (tx []))), none, none, none] = .ok (rangeD 0 lg) := by
      have rg := rg1_nat lg (by omega)
      generalize abc = A
      generalize rangeD 0 lg = RG at rg ⊢
      simp [m8, hlg, rg]
    rw [it, R.st_ok]
    exact e1) ?_
  refine fin_step (env1 := [some (.d (.int c)), some (.d (.int w)), some (.d (.int (n : Nat))), some (.d (.str abc)), some (.d (.int M)), some (.d (.str (tx b))), x6, some (.d (.int (t : Nat))), none]) (by generalize abc = A; generalize tx b = B at lenb ⊢; simp [lenb, mt]) ?_
  refine fin_step (env1 := [some (.d (.int c)), some (.d (.int w)), some (.d (.int (n : Nat))), some (.d (.str abc)), some (.d (.int M)), some (.d (.str (tx b))), x6, some (.d (.int (t : Nat))), some (.d (.int (f : Nat)))]) (by
    have ei : eTxIndex (eVar 3) (eBin gIx (eVar 5) (eVar 7)) [some (.d (.int c)), some (.d (.int w)), some (.d (.int (n : Nat))), some (.d (.str abc)), some (.d (.int M)), some (.d (.str (tx b))), x6, some (.d (.int (t : Nat))), none] = .ok (.int (f : Nat)) := by
      unfold eTxIndex
      have e3 : eVar 3 [some (.d (.int c)), some (.d (.int w)), some (.d (.int (n : Nat))), some (.d (.str abc)), some (.d (.int M)), some (.d (.str (tx b))), x6, some (.d (.int (t : Nat))), none] = .ok (.str abc) := rfl
      rw [e3, R.bind_ok]
      simp only
      generalize abc = A at oc ⊢
      generalize tx b = B at ib ⊢
      simp [ib, oc]
    rw [sSet_eq, eM_eq, ei]
    rfl) ?_
  have lc : (eLc (eB (aCons (eVar 2) aNil) rg1) (gtName 6) cYes (eBinO gAdd (eB (eBinO gAdd (eB (eSl (eVar 5) oNone (eB (eVar 7) asI)) shD) (eBin gIx (eVar 3) (eBin gMod (eM (eBinO gAdd (eVar 8) (eVar 6)) viewD) (eC (.int 26))))) shD) (eB (eSl (eVar 5) (eB (eM (eBinO gAdd (eVar 7) (eC (.int 1))) viewD) asI) oNone) shD)) (List.map (·.2) ([("_law_k", 6)] : List (Str × Nat)))) [some (.d (.int c)), some (.d (.int w)), some (.d (.int (n : Nat))), some (.d (.str abc)), some (.d (.int M)), some (.d (.str (tx b))), x6, some (.d (.int (t : Nat))), some (.d (.int (f : Nat)))] = .ok (.l ((List.range n).map fun k => .d (.str (tx (nm9 b t f k))))) := by
    refine eLc_of (ds := (List.range n).map fun k : Nat => PyData.int (k : Nat)) ?_ (by rw [List.length_map, List.length_range, sizeLine_eq]; omega) (lcR_map (fun k : Nat => PyData.int (k : Nat)) _ (List.range n) fun k hk => ⟨[some (.d (.int c)), some (.d (.int w)), some (.d (.int (n : Nat))), some (.d (.str abc)), some (.d (.int M)), some (.d (.str (tx b))), some (.d (.int (k : Nat))), some (.d (.int (t : Nat))), some (.d (.int (f : Nat)))], rfl, rfl, ?_⟩)
    · have rg := rg1_nat n (by omega)
      rw [rangeD_map] at rg
      exact rg
    · obtain ⟨_, h1, h2⟩ := letter ((f : Int) + (k : Int)) (by omega)
      have hm : ((f : Int) + (k : Int)) % 26 = (((f + k) % 26 : Nat) : Int) := by omega
      have s1 := gSl_to (l := b) (k := t) (by omega)
      have s2 := gSl_from (l := b) (k := t + 1) (by omega) (by omega)
      have tc : ((t + 1 : Nat) : Int) = (t : Int) + 1 := by omega
      rw [tc] at s2
      rw [hm, Int.toNat_natCast] at h2
      rw [hm] at h1
      have a1 : gAdd (.str (tx (b.take t))) (.str (tx [97 + (f + k) % 26])) = some (.d (.str (tx (b.take t ++ [97 + (f + k) % 26])))) := gAdd_tx (by rw [List.length_take]; simp; omega)
      have a2 : gAdd (.str (tx (b.take t ++ [97 + (f + k) % 26]))) (.str (tx (b.drop (t + 1)))) = some (.d (.str (tx (nm9 b t f k)))) := by
        unfold nm9
        exact gAdd_tx (by rw [List.length_append, List.length_take, List.length_drop]; simp; omega)
      generalize tx (nm9 b t f k) = R1 at a2 ⊢
      generalize tx (b.take t ++ [97 + (f + k) % 26]) = R2 at a1 a2
      generalize tx [97 + (f + k) % 26] = R3 at a1 h2
      generalize tx (b.take t) = R4 at a1 s1
      generalize tx (b.drop (t + 1)) = R5 at a2 s2
      generalize tx b = B at s1 s2 ⊢
      generalize abc = A at h2 ⊢
      generalize (((f + k) % 26 : Nat) : Int) = z at h1 h2
      simp [s1, s2, h1, h2, a1, a2]
  rw [sRet_eq, lc]
  rfl
end
end Mir
set_option Elab.async false
set_option linter.all false
set_option maxRecDepth 100000
set_option maxHeartbeats 4000000
namespace Mir
open PySem PySem.Spec L2
/-- rows in order have their names in order -/
theorem row_order (a b : Rw) (h : PySem.W.dataLe false id (encRw a) (encRw b) = true) : PySem.W.dataLt (.str b.nm) (.str a.nm) = false := by
  have h : (!PySem.W.dataLt (encRw b) (encRw a)) = true := h
  cases c : PySem.W.dataLt (.str b.nm) (.str a.nm) with
  | false => rfl
  | true =>
    exfalso
    have hne : b.nm.cps.toList ≠ a.nm.cps.toList := fun e => by
      rw [PySem.W.dataLt_str, decide_eq_true_eq, e] at c
      exact List.lt_irrefl _ c
    have : PySem.W.dataLt (encRw b) (encRw a) = true := by
      unfold encRw
      rw [PySem.W.dataLt_tuple]
      simp only [PySem.W.keyToksAll, PySem.W.keyToks]
      have l1 := PySem.W.lex_pre [Sum.inl 1] ([Sum.inr b.nm.cps.toList] ++ (Sum.inl 1 :: (PySem.W.keyToksAll (b.br.map PyData.str) ++ [Sum.inl 0]))) ([Sum.inr a.nm.cps.toList] ++ (Sum.inl 1 :: (PySem.W.keyToksAll (a.br.map PyData.str) ++ [Sum.inl 0])))
      have l2 := PySem.W.lex_atom (p := (Sum.inr b.nm.cps.toList : Int ⊕ List Nat)) (q := Sum.inr a.nm.cps.toList) (fun e => hne (Sum.inr.inj e)) (Sum.inl 1 :: (PySem.W.keyToksAll (b.br.map PyData.str) ++ [Sum.inl 0])) (Sum.inl 1 :: (PySem.W.keyToksAll (a.br.map PyData.str) ++ [Sum.inl 0]))
      refine l1.trans (l2.trans ?_)
      exact c
    rw [this] at h
    cases h
theorem sorted_rows2 (rows : List Rw) : ∃ rows' : List Rw, rows'.Perm rows ∧ gSorted [.list (rows.map encRw)] = some (.l (rows'.map fun r => .d (encRw r))) ∧ rows'.Pairwise fun a b => PySem.W.dataLt (.str b.nm) (.str a.nm) = false := by
  obtain ⟨rows', h1, h2⟩ := sorted_rows rows
  refine ⟨rows', h1, h2, ?_⟩
  have so : sortedD (rows.map encRw) = rows'.map encRw := by
    have h3 : (if sortOk (rows.map encRw) = true then some (Ow.l ((sortedD (rows.map encRw)).map Ow.d)) else none) = some (.l (rows'.map fun r => .d (encRw r))) := h2
    split at h3
    · injection h3 with h3
      injection h3 with h3
      have e : (rows'.map fun r => Ow.d (encRw r)) = (rows'.map encRw).map Ow.d := by rw [List.map_map]; rfl
      rw [e] at h3
      exact List.map_inj_right (fun a b h => Ow.d.inj h) |>.mp h3
    · cases h3
  have T := PySem.W.sortLe_total (PyProof.Rows.listOrd PyProof.Rows.itemOrd) false fun d : PyData => PySem.W.keyToks (id d)
  have pw : (sortedD (rows.map encRw)).Pairwise fun a b => PySem.W.dataLe false id a b = true := List.pairwise_mergeSort T.trans (fun a b => by rw [Bool.or_eq_true]; exact T.total a b) _
  rw [so, List.pairwise_map] at pw
  exact pw.imp fun h => row_order _ _ h
noncomputable section
abbrev r9Step (f4 : List D → R Ow) : Ev → SR := (sSeq (sSet 7 (eM (eBin gMod (eM (eB (aCons (eVar 0) (aCons (eM (eBinO gAdd (eVar 1) (eVar 6)) viewD) aNil)) f4) viewD) (eBin gPow (eC (.int 10)) (eC (.int 12)))) Ow.d))
    (sSeq (sSet 8 (eM (eM (eCa gTuple (aCons (eB (eLc (eB (aCons (eBin gMod (eVar 7) (eC (.int 5))) aNil) rg1) (gtName 9) cYes (eM (eBin gIx (eVar 2) (eBin gMod (eBin gDiv (eVar 7) (eM (eBinO gAdd (eC (.int 4)) (eBin gMul (eC (.int 3)) (eVar 9))) viewD)) (eC (.int 2)))) Ow.d) (List.map (·.2) ([("_law_j", 9)] : List (Str × Nat)))) shD) aNil)) viewD) Ow.d))
    (sApp 5 (eM (eTup (aCons (eBin gIx (eVar 3) (eBin gMod (eM (eBinO gAdd (eVar 4) (eVar 6)) viewD) (eC (.int 6)))) (aCons (eVar 8) aNil))) Ow.d))))
abbrev bRows9 (f4 : List D → R Ow) : Ev → SR := (sSeq (sSet 4 (eM (eBin gMod (eM (eB (aCons (eVar 0) (aCons (eVar 1) aNil)) f4) viewD) (eBin gPow (eC (.int 10)) (eC (.int 12)))) Ow.d))
    (sSeq (sSet 5 (eLst (aCons (eTup (aCons (eBin gIx (eVar 3) (eBin gMod (eVar 4) (eC (.int 6)))) (aCons (eTup aNil) aNil))) aNil)))
    (sSeq (sFor (eB (aCons (eC (.int 1)) (aCons (eM (eBinO gAdd (eC (.int 2)) (eBin gMod (eBin gDiv (eVar 4) (eC (.int 6))) (eC (.int 3)))) viewD) aNil)) rg2) (gtName 6)
    (r9Step f4))
    (sRet (eCa gSorted (aCons (eB (eVarO 5) shD) aNil))))))
/-- a row of the wood: a name of these, few branches of these two kinds -/
def Rw9 (kd nm : Nat → Str) (r : Rw) : Prop := (∃ i, i < 6 ∧ r.nm = nm i) ∧ r.br.length ≤ 4 ∧ ∀ z ∈ r.br, ∃ j, j < 2 ∧ z = kd j
theorem rows9_fin {f4 : List D → R Ow} {SC : D} (h4 : ∀ i : Nat, ∃ z : Int, f4 [SC, .int (i : Nat)] = .ok (.d (.int z))) (st : Nat) (hst : st ≤ 1000) (kd nm : Nat → Str) :
    ∃ rs : List Rw, finR (bRows9 f4 (envOf 6 [SC, .int (st : Nat), .list ((List.range 3).map fun k => .str (kd k)), .list ((List.range 7).map fun k => .str (nm k))])) = .ok (.l (rs.map fun r => .d (encRw r))) ∧ rs.length ≤ 4 ∧ (∀ r ∈ rs, Rw9 kd nm r) ∧ (∃ r ∈ rs, r.br = []) ∧ rs.Pairwise fun a b => PySem.W.dataLt (.str b.nm) (.str a.nm) = false := by
  have p12 : gPow (.int 10) (.int 12) = some (.int (10 ^ 12)) := gPow10 12 (by decide)
  obtain ⟨T, hT⟩ : ∃ T : Int, T = 10 ^ 12 := ⟨_, rfl⟩
  have hTp : 0 < T := by rw [hT]; decide
  have hTu : T < 2 ^ 62 := by rw [hT]; decide
  rw [← hT] at p12
  obtain ⟨KD, hKD⟩ : ∃ KD, KD = PyData.list ((List.range 3).map fun k => .str (kd k)) := ⟨_, rfl⟩
  obtain ⟨NM, hNM⟩ : ∃ NM, NM = PyData.list ((List.range 7).map fun k => .str (nm k)) := ⟨_, rfl⟩
  have kx : ∀ k : Nat, k < 3 → gIx KD (.int (k : Nat)) = some (.str (kd k)) := fun k hk => by
    rw [hKD]
    show atI _ _ = _
    exact atI_natD (by rw [List.getElem?_map, List.getElem?_range hk]; rfl)
  have nx : ∀ k : Nat, k < 7 → gIx NM (.int (k : Nat)) = some (.str (nm k)) := fun k hk => by
    rw [hNM]
    show atI _ _ = _
    exact atI_natD (by rw [List.getElem?_map, List.getElem?_range hk]; rfl)
  rw [← hKD, ← hNM]
  obtain ⟨z0, e0⟩ := h4 st
  obtain ⟨n, hn⟩ : ∃ n : Nat, z0 % T = (n : Int) := ⟨(z0 % T).toNat, by have := Int.emod_nonneg z0 (Int.ne_of_gt hTp); omega⟩
  have nT : (n : Int) < T := by have := Int.emod_lt_of_pos z0 hTp; omega
  have m0 : gMod (.int z0) (.int T) = some (.int (n : Nat)) := by rw [← hn]; exact gMod_int hTp
  have m6 : gMod (.int (n : Nat)) (.int 6) = some (.int ((n % 6 : Nat) : Int)) := by
    have : gMod (.int (n : Nat)) (.int 6) = some (.int ((n : Int) % 6)) := gMod_int (by decide)
    rw [this]; congr 2
  have ix6 := nx (n % 6) (by omega)
  have he : envOf 6 [SC, .int (st : Nat), KD, NM] = [some (.d SC), some (.d (.int (st : Nat))), some (.d KD), some (.d NM), none, none, none, none, none, none] := rfl
  rw [he]
  obtain ⟨c, hc⟩ : ∃ c : Nat, n / 6 % 3 = c := ⟨_, rfl⟩
  have d6 : gDiv (.int (n : Nat)) (.int 6) = some (.int ((n / 6 : Nat) : Int)) := by
    have : gDiv (.int (n : Nat)) (.int 6) = some (.int ((n : Int) / 6)) := gDiv_small (by decide) (by decide)
    rw [this]; congr 2
  have m3 : gMod (.int ((n / 6 : Nat) : Int)) (.int 3) = some (.int (c : Nat)) := by
    have : gMod (.int ((n / 6 : Nat) : Int)) (.int 3) = some (.int (((n / 6 : Nat) : Int) % 3)) := gMod_int (by decide)
    rw [this]; congr 2; omega
  obtain ⟨env', lp, x6, x7, x8, rows, e, rl, hr, hb⟩ := forL_ind (g := gtName 6) (f := r9Step f4) (rangeD 1 (c + 1))
    (fun i env => ∃ (x6 x7 x8 : Option Ow) (rows : List Rw), env = [some (.d SC), some (.d (.int (st : Nat))), some (.d KD), some (.d NM), some (.d (.int (n : Nat))), some (rwO rows), x6, x7, x8, none] ∧ rows.length = i + 1 ∧ (∀ r ∈ rows, Rw9 kd nm r) ∧ ∃ r ∈ rows, r.br = [])
    (fun i d env hd ⟨x6, x7, x8, rows, e, rl, hr, hb⟩ => by
      obtain ⟨hi, ed⟩ := rangeD_at hd
      subst ed e
      obtain ⟨k, hk⟩ : ∃ k : Nat, (1 : Int) + (i : Nat) = (k : Int) := ⟨1 + i, by omega⟩
      rw [hk]
      obtain ⟨z1, e1⟩ := h4 (st + k)
      have sk : ((st + k : Nat) : Int) = (st : Int) + (k : Int) := by omega
      rw [sk] at e1
      obtain ⟨mo, hmo⟩ : ∃ mo : Nat, z1 % T = (mo : Int) := ⟨(z1 % T).toNat, by have := Int.emod_nonneg z1 (Int.ne_of_gt hTp); omega⟩
      have m1 : gMod (.int z1) (.int T) = some (.int (mo : Nat)) := by rw [← hmo]; exact gMod_int hTp
      have m5 : gMod (.int (mo : Nat)) (.int 5) = some (.int ((mo % 5 : Nat) : Int)) := by
        have : gMod (.int (mo : Nat)) (.int 5) = some (.int ((mo : Int) % 5)) := gMod_int (by decide)
        rw [this]; congr 2
      have mk : gMod (.int ((n : Int) + (k : Int))) (.int 6) = some (.int (((n + k) % 6 : Nat) : Int)) := by
        have : gMod (.int ((n : Int) + (k : Int))) (.int 6) = some (.int (((n : Int) + (k : Int)) % 6)) := gMod_int (by decide)
        rw [this]; congr 2
      have ixk := nx ((n + k) % 6) (by omega)
      have lc : (eLc (eB (aCons (eBin gMod (eVar 7) (eC (.int 5))) aNil) rg1) (gtName 9) cYes (eM (eBin gIx (eVar 2) (eBin gMod (eBin gDiv (eVar 7) (eM (eBinO gAdd (eC (.int 4)) (eBin gMul (eC (.int 3)) (eVar 9))) viewD)) (eC (.int 2)))) Ow.d) (List.map (·.2) ([("_law_j", 9)] : List (Str × Nat)))) [some (.d SC), some (.d (.int (st : Nat))), some (.d KD), some (.d NM), some (.d (.int (n : Nat))), some (rwO rows), some (.d (.int (k : Nat))), some (.d (.int (mo : Nat))), x8, none] = .ok (.l ((List.range (mo % 5)).map fun j => .d (.str (kd (mo / (4 + 3 * j) % 2))))) := by
        refine eLc_of (ds := (List.range (mo % 5)).map fun j : Nat => PyData.int (j : Nat)) ?_ (by rw [List.length_map, List.length_range, sizeLine_eq]; omega) (lcR_map (fun j : Nat => PyData.int (j : Nat)) _ (List.range (mo % 5)) fun j hj => ⟨[some (.d SC), some (.d (.int (st : Nat))), some (.d KD), some (.d NM), some (.d (.int (n : Nat))), some (rwO rows), some (.d (.int (k : Nat))), some (.d (.int (mo : Nat))), x8, some (.d (.int (j : Nat)))], rfl, rfl, ?_⟩)
        · have rg := rg1_nat (mo % 5) (by omega)
          rw [rangeD_map] at rg
          generalize rwO rows = RO
          generalize (List.range (mo % 5)).map (fun k : Nat => PyData.int (k : Nat)) = RG at rg ⊢
          generalize ((mo % 5 : Nat) : Int) = w5 at m5 rg
          simp [m5, rg]
        · have jl := List.mem_range.mp hj
          have g3 : gMul (.int 3) (.int (j : Nat)) = some (.int (3 * (j : Nat))) := gMul_by (by omega) (by omega)
          have gd : gDiv (.int (mo : Nat)) (.int (4 + 3 * (j : Int))) = some (.int ((mo / (4 + 3 * j) : Nat) : Int)) := by
            have : gDiv (.int (mo : Nat)) (.int (4 + 3 * (j : Int))) = some (.int ((mo : Int) / (4 + 3 * (j : Int)))) := gDiv_small (by omega) (by omega)
            rw [this]; congr 2
          have g2 : gMod (.int ((mo / (4 + 3 * j) : Nat) : Int)) (.int 2) = some (.int ((mo / (4 + 3 * j) % 2 : Nat) : Int)) := by
            have : gMod (.int ((mo / (4 + 3 * j) : Nat) : Int)) (.int 2) = some (.int (((mo / (4 + 3 * j) : Nat) : Int) % 2)) := gMod_int (by decide)
            rw [this]; congr 2
          have ixd := kx (mo / (4 + 3 * j) % 2) (by omega)
          generalize mo / (4 + 3 * j) % 2 = q at g2 ixd
          generalize ((mo / (4 + 3 * j) : Nat) : Int) = P at gd g2
          generalize rwO rows = RO
          simp [g3, gd, g2, ixd]
      have sh : shD (.l ((List.range (mo % 5)).map fun j => .d (.str (kd (mo / (4 + 3 * j) % 2))))) = .ok (.list ((List.range (mo % 5)).map fun j => PyData.str (kd (mo / (4 + 3 * j) % 2)))) := unDs_of (fun j : Nat => PyData.str (kd (mo / (4 + 3 * j) % 2))) _
      have gt : gTuple [.list ((List.range (mo % 5)).map fun j => PyData.str (kd (mo / (4 + 3 * j) % 2)))] = some (.d (.tuple ((List.range (mo % 5)).map fun j => PyData.str (kd (mo / (4 + 3 * j) % 2))))) := rfl
      obtain ⟨row, hrow⟩ : ∃ row : Rw, row = ⟨nm ((n + k) % 6), (List.range (mo % 5)).map fun j => kd (mo / (4 + 3 * j) % 2)⟩ := ⟨_, rfl⟩
      have er : encRw row = .tuple [.str (nm ((n + k) % 6)), .tuple ((List.range (mo % 5)).map fun j => PyData.str (kd (mo / (4 + 3 * j) % 2)))] := by
        rw [hrow]
        unfold encRw
        simp only [List.map_map]
        rfl
      refine ⟨[some (.d SC), some (.d (.int (st : Nat))), some (.d KD), some (.d NM), some (.d (.int (n : Nat))), some (rwO rows), some (.d (.int (k : Nat))), x7, x8, none], rfl, [some (.d SC), some (.d (.int (st : Nat))), some (.d KD), some (.d NM), some (.d (.int (n : Nat))), some (rwO (rows ++ [row])), some (.d (.int (k : Nat))), some (.d (.int (mo : Nat))), some (.d (.tuple ((List.range (mo % 5)).map fun j => PyData.str (kd (mo / (4 + 3 * j) % 2))))), none], .inl ?_, _, _, _, _, rfl, by rw [List.length_append, rl]; rfl, fun r hr' => ?_, ?_⟩
      · refine seq_nx (env1 := [some (.d SC), some (.d (.int (st : Nat))), some (.d KD), some (.d NM), some (.d (.int (n : Nat))), some (rwO rows), some (.d (.int (k : Nat))), some (.d (.int (mo : Nat))), x8, none]) (by generalize rwO rows = RO; simp [e1, p12, m1]) ?_
        refine seq_nx (env1 := [some (.d SC), some (.d (.int (st : Nat))), some (.d KD), some (.d NM), some (.d (.int (n : Nat))), some (rwO rows), some (.d (.int (k : Nat))), some (.d (.int (mo : Nat))), some (.d (.tuple ((List.range (mo % 5)).map fun j => PyData.str (kd (mo / (4 + 3 * j) % 2))))), none]) (by
          rw [sSet_eq, eM_eq, eM_eq, eCa_eq, aCons_eq, eB_eq, lc, R.bind_ok, sh]
          generalize PyData.list ((List.range (mo % 5)).map fun j => PyData.str (kd (mo / (4 + 3 * j) % 2))) = LL at gt
          generalize PyData.tuple ((List.range (mo % 5)).map fun j => PyData.str (kd (mo / (4 + 3 * j) % 2))) = TT at gt ⊢
          generalize rwO rows = RO
          simp [gt]) ?_
        have al : (rows.map fun r => Ow.d (encRw r)).length < 16777216 := by rw [List.length_map, rl]; omega
        have ap : rwO (rows ++ [row]) = .l ((rows.map fun r => Ow.d (encRw r)) ++ [.d (encRw row)]) := by unfold rwO; rw [List.map_append]; rfl
        rw [ap, er]
        unfold rwO
        generalize PyData.tuple ((List.range (mo % 5)).map fun j => PyData.str (kd (mo / (4 + 3 * j) % 2))) = TT
        generalize (rows.map fun r => Ow.d (encRw r)) = OS at al ⊢
        generalize (((n + k) % 6 : Nat) : Int) = w6 at mk ixk
        simp [mk, ixk, sizeLine_eq, al]
      · rcases List.mem_append.mp hr' with h | h
        · exact hr r h
        · rw [List.mem_singleton] at h
          subst h
          rw [hrow]
          refine ⟨⟨(n + k) % 6, by omega, rfl⟩, by simp; omega, fun z hz => ?_⟩
          obtain ⟨j, _, rfl⟩ := List.mem_map.mp hz
          exact ⟨_, by omega, rfl⟩
      · obtain ⟨r, h1, h2⟩ := hb
        exact ⟨r, List.mem_append_left _ h1, h2⟩) [some (.d SC), some (.d (.int (st : Nat))), some (.d KD), some (.d NM), some (.d (.int (n : Nat))), some (rwO [⟨nm (n % 6), []⟩]), none, none, none, none] ⟨none, none, none, _, rfl, rfl, fun r hr => by
      rw [List.mem_singleton] at hr
      subst hr
      exact ⟨⟨n % 6, by omega, rfl⟩, by simp, fun z hz => by cases hz⟩, ⟨_, List.mem_singleton.mpr rfl, rfl⟩⟩
  subst e
  obtain ⟨rs, pm, gs, pw⟩ := sorted_rows2 rows
  refine ⟨rs, ?_, ?_, fun r hr' => hr r (pm.mem_iff.mp hr'), ?_, pw⟩
  · refine fin_step (env1 := [some (.d SC), some (.d (.int (st : Nat))), some (.d KD), some (.d NM), some (.d (.int (n : Nat))), none, none, none, none, none]) (by simp [e0, p12, m0]) ?_
    refine fin_step (env1 := [some (.d SC), some (.d (.int (st : Nat))), some (.d KD), some (.d NM), some (.d (.int (n : Nat))), some (rwO [⟨nm (n % 6), []⟩]), none, none, none, none]) (by
      have e : rwO [⟨nm (n % 6), []⟩] = .l [.d (.tuple [.str (nm (n % 6)), .tuple []])] := rfl
      rw [e]
      generalize ((n % 6 : Nat) : Int) = w6 at m6 ix6
      simp [m6, ix6, sizeLine_eq]) ?_
    refine fin_step (env1 := _) (by
      rw [sFor_eq]
      have it : (eB (aCons (eC (.int 1)) (aCons (eM (eBinO gAdd (eC (.int 2)) (eBin gMod (eBin gDiv (eVar 4) (eC (.int 6))) (eC (.int 3)))) viewD) aNil)) rg2) [some (.d SC), some (.d (.int (st : Nat))), some (.d KD), some (.d NM), some (.d (.int (n : Nat))), some (rwO [⟨nm (n % 6), []⟩]), none, none, none, none] = .ok (rangeD 1 (c + 1)) := by
        have rg : rg2 [.int 1, .int (2 + (c : Int))] = .ok (rangeD 1 (c + 1)) := by
          have e : rg2 [.int 1, .int (2 + (c : Int))] = .ok (rangeD 1 ((2 + (c : Int)) - 1).toNat) := guard_ok (by omega)
          rw [e, show ((2 + (c : Int)) - 1).toNat = c + 1 from by omega]
        generalize rwO [⟨nm (n % 6), []⟩] = RO
        generalize rangeD 1 (c + 1) = RG at rg ⊢
        generalize ((n / 6 : Nat) : Int) = w6 at d6 m3
        simp [d6, m3, rg]
      rw [it, R.st_ok]
      exact lp) ?_
    have sh := shD_rwO rows
    generalize PyData.list (rows.map encRw) = RL at sh gs
    generalize rwO rows = RO at sh
    simp [sh, gs]
  · have := pm.length_eq
    have l2 : (rangeD 1 (c + 1)).length = c + 1 := by simp [rangeD]
    rw [l2] at rl
    omega
  · obtain ⟨r, h1, h2⟩ := hb
    exact ⟨r, pm.mem_iff.mpr h1, h2⟩
end
end Mir
set_option Elab.async false
set_option linter.all false
set_option maxRecDepth 100000
set_option maxHeartbeats 4000000
namespace Mir
open PySem PySem.Spec L2
/-- a tree laid out: name, mark, blanks ahead of its mark (where it is told), ahead of (, behind it, between, ahead of ) -/
inductive LN where
  | mk (nm : List Nat) (k : Int) (mb : Option Nat) (o i g c : Nat) (bs : List LN)
end Mir
set_option Elab.async false
set_option linter.all false
set_option maxRecDepth 100000
set_option maxHeartbeats 4000000
namespace Mir
open PySem PySem.Spec L2
end Mir
set_option Elab.async false
set_option linter.all false
set_option maxRecDepth 100000
set_option maxHeartbeats 4000000
namespace Mir
open PySem PySem.Spec L2
def lets (l : List Nat) : Str := tx (l.map fun d => 97 + d)
def mixI (c j : Int) : Int :=
  let n1 := c % 2147483647 + 48271 * (j + 1)
  let n2 := (n1 * n1 + 69621 * j) % 2147483647
  (n2 * n2 + 16807 * j + 1) % 2147483647
noncomputable section
/-- eight names, all unlike -/
structure Names8 (ls : List (List Nat)) : Prop where
  eight : ls.length = 8
  nd : ls.Nodup
  lets : ∀ l ∈ ls, ∀ d ∈ l, d < 26
  some : ∀ l ∈ ls, 1 ≤ l.length ∧ l.length ≤ 8
theorem emod_nat {c : Int} {n : Nat} (h : 0 < n) : ∃ k : Nat, c % (n : Int) = (k : Int) ∧ k < n := ⟨(c % (n : Int)).toNat, by have := Int.emod_nonneg c (show (n : Int) ≠ 0 by omega); omega, by have := Int.emod_lt_of_pos c (show 0 < (n : Int) by omega); have := Int.emod_nonneg c (show (n : Int) ≠ 0 by omega); omega⟩
end
end Mir
set_option Elab.async false
set_option linter.all false
set_option maxRecDepth 100000
set_option maxHeartbeats 4000000
namespace Mir
open PySem PySem.Spec L2
noncomputable section
end
end Mir
set_option Elab.async false
set_option linter.all false
set_option maxRecDepth 100000
set_option maxHeartbeats 4000000
namespace Mir
open PySem PySem.Spec L2
/-- names at hand: eight, all unlike -/
structure NamesD (NS : D) (N : Nat → Str) : Prop where
  ix : ∀ i : Nat, i < 8 → gIx NS (.int (i : Nat)) = some (.str (N i))
  ne : ∀ i j : Nat, i < 8 → j < 8 → i ≠ j → N i ≠ N j
  ok : ∀ i : Nat, i < 8 → PyData.strOk (N i) = true
end Mir
set_option Elab.async false
set_option linter.all false
set_option maxRecDepth 100000
set_option maxHeartbeats 4000000
namespace Mir
open PySem PySem.Spec L2
theorem can_s {z : Str} (h : PyData.strOk z = true) : (PyData.str z).canLay0 = true := by rw [PyData.canLay0]; exact h
theorem dep_s (z : Str) : (PyData.str z).depth = 0 := by rw [PyData.depth]
structure NcTn (t : Trn) (B : Nat) : Prop where
  kinds : ∀ p ∈ t.wood, PyData.strOk p.1 = true
  rows : ∀ p ∈ t.wood, ∀ r ∈ p.2, PyData.strOk r.nm = true ∧ ∀ z ∈ r.br, PyData.strOk z = true
  start : okM t.start ∧ levM t.start ≤ B
  mkinds : ∀ p ∈ t.modes, PyData.strOk p.1 = true
  rules : ∀ p ∈ t.modes, ∀ T ∈ p.2, okM T ∧ levM T ≤ B
theorem nice_rwsD {rs : List Rw} (h : ∀ r ∈ rs, PyData.strOk r.nm = true ∧ ∀ z ∈ r.br, PyData.strOk z = true) : (rwsD rs).canLay0 = true ∧ (rwsD rs).depth ≤ 3 := by
  have e : ∀ d ∈ rs.map encRw, d.canLay0 = true ∧ d.depth ≤ 2 := fun d hd => by
    obtain ⟨r, hr, rfl⟩ := List.mem_map.mp hd
    obtain ⟨a, b⟩ := h r hr
    obtain ⟨c1, c2⟩ := nice_strs b
    have dd : (PyData.tuple (r.br.map PyData.str)).depth ≤ 1 := by
      rw [PyData.depth]
      have := depthAll_of (n := 0) (r.br.map PyData.str) fun d hd => by
        obtain ⟨z, _, rfl⟩ := List.mem_map.mp hd
        rw [dep_s]; omega
      omega
    unfold encRw
    refine ⟨?_, ?_⟩
    · rw [PyData.canLay0, PyData.canLayAll0, PyData.canLayAll0, PyData.canLayAll0, can_s a, c1]
      rfl
    · rw [PyData.depth, PyData.depthAll, PyData.depthAll, PyData.depthAll, dep_s]
      omega
  unfold rwsD
  refine ⟨?_, ?_⟩
  · rw [PyData.canLay0]
    exact canAll_of _ fun d hd => (e d hd).1
  · rw [PyData.depth]
    have := depthAll_of (n := 2) (rs.map encRw) fun d hd => (e d hd).2
    omega
end Mir
set_option Elab.async false
set_option linter.all false
set_option maxRecDepth 100000
set_option maxHeartbeats 4000000
namespace Mir
open PySem PySem.Spec L2
noncomputable section
/-- a tree's branches are of these kinds -/
def KidsOk (w : Wood) (ks : List Str) (u : Tr) : Prop := ks.length = (trBs u).length ∧ isOfs w (trBs u) ks = true
/-- the way from a tree to one below it -/
def atT : Tr → List Int → Option Tr
  | t, [] => some t
  | .mk _ _ bs, b :: p => if 0 ≤ b then match bs[b.toNat]? with
    | some c => atT c p
    | none => none
    else none
def labD : Option Tr → D
  | none => .none
  | some (.mk nm mk bs) => .tuple [.str nm, .int mk, .int (bs.length : Nat)]
/-- what settled tells -/
def Settles (t : Trn) (B : Nat) (L : Nat) (f15 : List D → R Ow) : Prop := ∀ (u : Tr) (T : Trm) (ks : List Str), levT u ≤ L → FitT t ks T → GoodM B T → KidsOk t.wood ks u →
    ∃ nm kp ad ps u' ks', madT t u T = madT t u' (.put nm kp ad ps) ∧ FitT t ks' (.put nm kp ad ps) ∧ GoodM B (.put nm kp ad ps) ∧ KidsOk t.wood ks' u' ∧ levT u' ≤ levT u ∧ f15 [encTn t, encM T, encT u] = .ok (.d (.tuple [encM (.put nm kp ad ps), encT u']))
end
end Mir
set_option Elab.async false
set_option linter.all false
set_option maxRecDepth 100000
set_option maxHeartbeats 4000000
namespace Mir
open PySem PySem.Spec L2
/-- a wood whose kinds and rows are told apart, each kind with a row without branches -/
structure WoodOk (w : Wood) : Prop where
  some : 1 ≤ w.length ∧ w.length ≤ 3
  kinds : (w.map (·.1)).Nodup
  kok : ∀ p ∈ w, PyData.strOk p.1 = true
  few : ∀ p ∈ w, p.2.length ≤ 3
  dist : ∀ p ∈ w, (p.2.map (·.nm)).Nodup
  rok : ∀ p ∈ w, ∀ r ∈ p.2, PyData.strOk r.nm = true ∧ r.br.length ≤ 3 ∧ ∀ z ∈ r.br, z ∈ w.map (·.1)
  leaf : ∀ p ∈ w, ∃ r ∈ p.2, r.br = []
noncomputable section
section
variable {f13 : List D → R Ow} (h13 : ∀ (c : Int) (j : Nat), j ≤ 1000 → f13 [.int c, .int (j : Nat)] = .ok (.d (.int (mixI c (j : Nat))))) {N : Nat → Str} {NS : PyData} (hN : NamesD NS N) {n : Nat} (hn : 1 ≤ n ∧ n ≤ 3) (c : Int)
include h13 hN hn
end
end
end Mir
set_option Elab.async false
set_option linter.all false
set_option maxRecDepth 100000
set_option maxHeartbeats 4000000
namespace Mir
open PySem PySem.Spec L2
instance : Inhabited Trm := ⟨noTm⟩
structure DrawnM (cs : List (Int × Int)) (d : Nat) (T : Trm) : Prop where
  ok : okM T
  lev : levM T ≤ d + 1
  size : sizeM T + 1 ≤ 2 ^ (d + 1)
  calls : ∀ c ∈ callsM T, c ∈ cs
def csD (cs : List (Int × Int)) : PyData := .list (cs.map encC)
noncomputable section
end
end Mir
set_option Elab.async false
set_option linter.all false
set_option maxRecDepth 100000
set_option maxHeartbeats 4000000
namespace Mir
open PySem PySem.Spec L2
def clsAt (bs os : List Str) (b : Nat) : List (Int × Int) := ((List.range os.length).filter fun m => os.getD m "" == bs.getD b "").map fun m : Nat => ((m : Int), (b : Int))
def clsOf (bs os : List Str) : List (Int × Int) := ((List.range bs.length).map (clsAt bs os)).flatten
noncomputable section
def osD (os : List Str) : PyData := .list (os.map PyData.str)
/-- branches, as a list or a tuple -/
structure IsBr (BD : D) (bs : List Str) : Prop where
  len : gLen [BD] = some (.d (.int (bs.length : Nat)))
  ix : ∀ b, b < bs.length → gIx BD (.int (b : Nat)) = some (.str (bs.getD b ""))
def small250 (x : Int) : Prop := x.natAbs < 2 ^ 250
end
end Mir
set_option Elab.async false
set_option linter.all false
set_option maxRecDepth 100000
set_option maxHeartbeats 4000000
namespace Mir
open PySem PySem.Spec L2
structure TnDrawn (t : Trn) (os : List Str) : Prop where
  cnt : 1 ≤ os.length ∧ os.length ≤ 4
  kinds : ∀ z ∈ os, z ∈ t.wood.map (·.1)
  len : t.modes.length = os.length
  mode : ∀ (m : Nat) (p : Str × List Trm), t.modes[m]? = some p → p.1 = os.getD m "" ∧ p.2.length = (rowsOf t.wood p.1).length ∧ ∀ (i : Nat) (row : Rw) (T : Trm), (rowsOf t.wood p.1)[i]? = some row → p.2[i]? = some T → DrawnM (clsOf row.br os) 2 T
  start : DrawnM (clsOf [(t.wood.map (·.1)).getD 0 ""] os) 2 t.start
theorem rowsOf_kind {w : Wood} (hw : (w.map (·.1)).Nodup) {p : Str × List Rw} (hp : p ∈ w) : rowsOf w p.1 = p.2 := by
  induction w with
  | nil => cases hp
  | cons q w ih =>
    rw [List.map_cons, List.nodup_cons] at hw
    rw [rowsOf]
    rcases List.mem_cons.mp hp with rfl | h
    · rw [beq_self_eq_true]; rfl
    · have : (q.1 == p.1) = false := by
        rw [beq_eq_false_iff_ne]
        intro e
        exact hw.1 (e ▸ List.mem_map.mpr ⟨p, h, rfl⟩)
      rw [this]
      exact ih hw.2 h
noncomputable section
section
variable {f12 f13 f17 f18 : List D → R Ow} {SC NS : PyData} {cell : Nat → Int} (h12 : ∀ k : Nat, f12 [SC, .int (k : Nat)] = .ok (.d (.int (cell k))))
  (h17 : ∀ (c : Int) (cs : List (Int × Int)) (kp : Bool), ∃ T, DrawnM cs 2 T ∧ f17 [.int c, .int 0, .int 2, csD cs, NS, .bool kp] = .ok (.d (encM T)))
  (h18 : ∀ (BD : D) (bs os : List Str), IsBr BD bs → bs.length ≤ 3 → os.length ≤ 10 → f18 [BD, osD os] = .ok (.l ((clsOf bs os).map fun c => .d (encC c))))
include h12 h17 h18
variable (h13 : ∀ (c : Int) (j : Nat), j ≤ 1000 → f13 [.int c, .int (j : Nat)] = .ok (.d (.int (mixI c (j : Nat)))))
include h13
end
end
end Mir
set_option Elab.async false
set_option linter.all false
set_option maxRecDepth 100000
set_option maxHeartbeats 4000000
namespace Mir
open PySem PySem.Spec L2
structure Nd where
  kind : Str
  lev : Nat
  row : Option Rw
  mark : Int
  kids : List Nat
structure NdOk (w : Wood) (top : Nat) (ns : List Nd) (i : Nat) (n : Nd) : Prop where
  kind : n.kind ∈ w.map (·.1)
  lev : 1 ≤ n.lev ∧ n.lev ≤ top
  mark : small250 n.mark
  bare : n.row = none → n.kids = []
  full : ∀ r, n.row = some r → r ∈ rowsOf w n.kind ∧ r.br ≠ [] ∧ n.kids.length = r.br.length ∧ ∀ (j k : Nat), n.kids[j]? = some k → i < k ∧ ∃ c, ns[k]? = some c ∧ r.br[j]? = some c.kind ∧ c.lev = n.lev + 1
structure GInv (w : Wood) (top : Nat) (ns : List Nd) (bare : List Nat) : Prop where
  root : ∃ n0, ns[0]? = some n0 ∧ n0.kind = (w.map (·.1)).getD 0 ("" : Str)
  each : ∀ (i : Nat) (n : Nd), ns[i]? = some n → NdOk w top ns i n
  bnd : bare.Nodup
  bare : ∀ b ∈ bare, ∃ n, ns[b]? = some n ∧ n.row = none
noncomputable section
end
end Mir
set_option Elab.async false
set_option linter.all false
set_option maxRecDepth 100000
set_option maxHeartbeats 4000000
namespace Mir
open PySem PySem.Spec L2
noncomputable section
end
end Mir
set_option Elab.async false
set_option linter.all false
set_option maxRecDepth 100000
set_option maxHeartbeats 4000000
namespace Mir
open PySem PySem.Spec L2
noncomputable section
section
variable {w : Wood} (hw : WoodOk w) (CE : D) (top : Nat)
include hw
variable {f13 f20 : List D → R Ow} (h13 : ∀ (c : Int) (j : Nat), j ≤ 1000 → f13 [.int c, .int (j : Nat)] = .ok (.d (.int (mixI c (j : Nat))))) (h20 : ∀ c z : Int, ∃ x : Int, small250 x ∧ f20 [.int c, .int z] = .ok (.d (.int x)))
include h13 h20
end
end
end Mir
set_option Elab.async false
set_option linter.all false
set_option maxRecDepth 100000
set_option maxHeartbeats 4000000
namespace Mir
open PySem PySem.Spec L2
mutual
def smallT : Tr → Prop
  | .mk _ k bs => small250 k ∧ smallTs bs
def smallTs : List Tr → Prop
  | [] => True
  | b :: bs => smallT b ∧ smallTs bs
end
structure GoodT (w : Wood) (top : Nat) (n : Nd) (t : Tr) : Prop where
  is : isOf w t n.kind = true
  lev : levT t + n.lev ≤ top + 1
  small : smallT t
  ok : okT t
def GoodK (w : Wood) (top : Nat) (ns : List Nd) (tf : Nat → Tr) (k : Nat) (n : Nd) : Prop := GoodT w top n (tf k) ∧ trBs (tf k) = n.kids.map tf ∧ ∃ r ∈ rowsOf w n.kind, trNm (tf k) = r.nm ∧ ∀ (j b : Nat), n.kids[j]? = some b → k < b ∧ ∃ c, ns[b]? = some c ∧ r.br[j]? = some c.kind
noncomputable section
theorem eq_tnil {ds : List D} (h : Nice (.tuple ds)) : gEq (.tuple ds) (.tuple []) = some (.bool ds.isEmpty) := by
  have n0 : Nice (.tuple []) := ⟨rfl, by simp [PyData.depth, PyData.depthAll]⟩
  rw [gEq_nice h n0]
  cases ds with
  | nil => rw [eqv_self n0]; rfl
  | cons d ds => rfl
section
variable {w : Wood} (hw : WoodOk w) {top : Nat} {ns : List Nd} {bare : List Nat} (hI : GInv w top ns bare) (hl : ns.length ≤ 200) {f13 : List D → R Ow} (h13 : ∀ (c : Int) (j : Nat), j ≤ 1000 → f13 [.int c, .int (j : Nat)] = .ok (.d (.int (mixI c (j : Nat)))))
include hw hI hl h13
end
end
end Mir
set_option Elab.async false
set_option linter.all false
set_option maxRecDepth 100000
set_option maxHeartbeats 4000000
namespace Mir
open PySem PySem.Spec L2
noncomputable section
end
end Mir
set_option Elab.async false
set_option linter.all false
set_option maxRecDepth 100000
set_option maxHeartbeats 4000000
namespace Mir
open PySem PySem.Spec L2
noncomputable section
section
variable {t : Trn} {ns : List Nd} {TS BL : D} {f28 f30 : List D → R Ow} {u : Tr} {k : Nat} {n : Nd}
end
section
variable {t : Trn} {B top : Nat} (hw : WoodOk t.wood) (ok : SndT t B) {ns : List Nd} {tf : Nat → Tr} (hl : ns.length ≤ 200) (hg : ∀ (k : Nat) (n : Nd), ns[k]? = some n → GoodK t.wood top ns tf k n) (hkl : ∀ (k : Nat) (n : Nd), ns[k]? = some n → n.kids.length ≤ 1000)
  {f28 f30 : List D → R Ow} (h28 : ∀ (c : Nat) (p : Str × List Trm), t.modes[c]? = some p → ∀ nm, f28 [encTn t, .int (c : Nat), .str nm] = .ok (.d (ruleOf t.wood p nm)))
  (h30 : ∀ (u : Tr) (T : Trm) (bl : List D), levM T ≤ B → (∀ c ∈ callsM T, ∃ ps, atI bl c.2 = some (.dict ps) ∧ getP ps (.int c.1) = some (mesD (madT t u (.call c.1 c.2)))) → f30 [encM T, .list bl] = .ok (.d (mesD (madT t u T))))
include hw ok hg
include hl hkl h28 h30
end
end
end Mir
set_option Elab.async false
set_option linter.all false
set_option maxRecDepth 100000
set_option maxHeartbeats 4000000
namespace Mir
open PySem PySem.Spec L2
noncomputable section
end
end Mir
set_option Elab.async false
set_option linter.all false
set_option maxRecDepth 100000
set_option maxHeartbeats 4000000
namespace Mir
open PySem PySem.Spec L2
noncomputable section
theorem atT_app : ∀ (p : List Int) (t : Tr) (q : List Int), atT t (p ++ q) = (atT t p).bind fun o => atT o q
  | [], t, q => by rw [List.nil_append, atT]; rfl
  | b :: p, .mk nm mk bs, q => by
    rw [List.cons_append, atT, atT]
    split
    · split
      · exact atT_app p _ q
      · rfl
    · rfl
/-- a place of what is made, the put that stands there and what it reads -/
structure AtP (t : Trn) (B L : Nat) (o : Tr) (p : List Int) (nm : Str) (kp : Bool) (ad : Int) (ps : List Trm) (u : Tr) (ks : List Str) : Prop where
  at_ : atT o p = some (madT t u (.put nm kp ad ps))
  fit : FitT t ks (.put nm kp ad ps)
  good : GoodM B (.put nm kp ad ps)
  kids : KidsOk t.wood ks u
  lev : levT u ≤ L
theorem AtP.step {t : Trn} {B L : Nat} {o : Tr} {p : List Int} {nm : Str} {kp : Bool} {ad : Int} {ps : List Trm} {u : Tr} {ks : List Str} (h : AtP t B L o p nm kp ad ps u ks) {f : List D → R Ow} (hs : Settles t B L f) {i : Nat} {T : Trm} (hi : ps[i]? = some T) :
    ∃ nm' kp' ad' ps' u' ks', AtP t B L o (p ++ [(i : Int)]) nm' kp' ad' ps' u' ks' ∧ f [encTn t, encM T, encT u] = .ok (.d (.tuple [encM (.put nm' kp' ad' ps'), encT u'])) := by
  have hm := List.mem_of_getElem? hi
  have okp : okM T := by have := h.good.ok; rw [okM, okMs_iff] at this; exact this.2.2 _ hm
  have lvp : levM T ≤ B := by have := h.good.lev; rw [levM] at this; exact levMs_le (by omega) _ hm
  have szp : sizeM T ≤ 1000 := by have := h.good.few; rw [sizeM] at this; have := sizeMs_memM hm; omega
  obtain ⟨nm2, kp2, ad2, ps2, u2, ks2, s1, s2, s3, s4, s5, s6⟩ := hs u T ks h.lev (fit_put h.fit _ hm) ⟨okp, lvp, szp⟩ h.kids
  refine ⟨nm2, kp2, ad2, ps2, u2, ks2, ⟨?_, s2, s3, s4, by have := h.lev; omega⟩, s6⟩
  rw [atT_app, h.at_]
  obtain ⟨n2, mk, bs⟩ := u
  show atT (madT t (.mk n2 mk bs) (.put nm kp ad ps)) [(i : Int)] = _
  rw [madT_put, atT, if_pos (by omega), Int.toNat_natCast, List.getElem?_map, hi]
  show atT (madT t (.mk n2 mk bs) T) [] = _
  rw [s1]
  generalize madT t u2 (.put nm2 kp2 ad2 ps2) = z
  rw [atT]
theorem AtP.start {t : Trn} {B L : Nat} {f : List D → R Ow} (hs : Settles t B L f) {u : Tr} {T : Trm} {ks : List Str} (hu : levT u ≤ L) (hf : FitT t ks T) (hg : GoodM B T) (hk : KidsOk t.wood ks u) :
    ∃ nm' kp' ad' ps' u' ks', AtP t B L (madT t u T) [] nm' kp' ad' ps' u' ks' ∧ f [encTn t, encM T, encT u] = .ok (.d (.tuple [encM (.put nm' kp' ad' ps'), encT u'])) := by
  obtain ⟨nm2, kp2, ad2, ps2, u2, ks2, s1, s2, s3, s4, s5, s6⟩ := hs u T ks hu hf hg hk
  refine ⟨nm2, kp2, ad2, ps2, u2, ks2, ⟨?_, s2, s3, s4, by omega⟩, s6⟩
  rw [← s1]
  generalize madT t u T = z
  rw [atT]
def PreOk (t : Trn) (B L : Nat) (o : Tr) (p : List Int) : Prop := ∀ i, i ≤ p.length → ∃ nm kp ad ps u ks, AtP t B L o (p.take i) nm kp ad ps u ks
theorem PreOk.nil {t : Trn} {B L : Nat} {o : Tr} {nm : Str} {kp : Bool} {ad : Int} {ps : List Trm} {u : Tr} {ks : List Str} (h : AtP t B L o [] nm kp ad ps u ks) : PreOk t B L o [] := fun i _ => ⟨nm, kp, ad, ps, u, ks, by rw [List.take_nil]; exact h⟩
theorem PreOk.snoc {t : Trn} {B L : Nat} {o : Tr} {p : List Int} {b : Int} {nm : Str} {kp : Bool} {ad : Int} {ps : List Trm} {u : Tr} {ks : List Str} (h0 : PreOk t B L o p) (h : AtP t B L o (p ++ [b]) nm kp ad ps u ks) : PreOk t B L o (p ++ [b]) := fun i hi => by
  by_cases c : i ≤ p.length
  · rw [List.take_append_of_le_length c]
    exact h0 i c
  · rw [List.length_append, List.length_singleton] at hi
    rw [List.take_of_length_le (by rw [List.length_append, List.length_singleton]; omega)]
    exact ⟨nm, kp, ad, ps, u, ks, h⟩
section
variable {t : Trn} {B L : Nat} {f13 f24 f25 : List D → R Ow} (h13 : ∀ (c : Int) (j : Nat), j ≤ 1000 → f13 [.int c, .int (j : Nat)] = .ok (.d (.int (mixI c (j : Nat))))) (hs : Settles t B L f24) (hB : B ≤ 20)
  (h25 : ∀ nm kp ad ps u, f25 [encM (.put nm kp ad ps), encT u] = .ok (.d (labD (some (madT t u (.put nm kp ad ps)))))) {u0 : Tr} {ks0 : List Str} (hu : levT (aboveT u0) ≤ L) (hf : FitT t ks0 t.start) (hg : GoodM B t.start) (hk : KidsOk t.wood ks0 (aboveT u0))
include h13 hs h25 hu hf hg hk hB
end
end
end Mir
set_option Elab.async false
set_option linter.all false
set_option maxRecDepth 100000
set_option maxHeartbeats 4000000
namespace Mir
open PySem PySem.Spec L2
noncomputable section
theorem nice_lab' {z : Str} (h : PyData.strOk z = true) (a b : Int) : Nice (.tuple [.str z, .int a, .int b]) := by
  refine ⟨?_, ?_⟩
  · rw [PyData.canLay0, PyData.canLayAll0, PyData.canLayAll0, PyData.canLayAll0, can_s h]
    rfl
  · simp [PyData.depth, PyData.depthAll]
end
end Mir
set_option Elab.async false
set_option linter.all false
set_option maxRecDepth 100000
set_option maxHeartbeats 4000000
namespace Mir
open PySem PySem.Spec L2
noncomputable section
structure Hd where
  nm : Str
  mrk : Int
  up : Nat
def encHd (h : Hd) : D := .tuple [.str h.nm, .int h.mrk, .int (h.up : Nat)]
def encTd (q : Str × Nat) : D := .tuple [.str q.1, .int (q.2 : Nat)]
abbrev hdO (hs : List Hd) : Ow := .l ((hs.map encHd).map Ow.d)
abbrev tdO (ts : List (Str × Nat)) : Ow := .l ((ts.map encTd).map Ow.d)
abbrev dr9C : Ev → R Bool := (eB (eBin gNe (eM (eVarO 3) viewD) (eM (eLst aNil) viewD)) asB)
abbrev dr9B : Ev → SR := (sSeq (sXAsg (gtTup 2 (gtCons (gtName 4) (gtCons (gtName 5) gtNil))) (xPop 3))
    (sSeq (sSet 6 (eM (eC (.int 0)) Ow.d))
    (sSeq (sIf (eB (eBin gLt (eM (eCa gLen (aCons (eB (eVarO 2) shD) aNil)) viewD) (eM (eCa gLen (aCons (eVar 1) aNil)) viewD)) asB)
    (sSet 6 (eM (eBin gMod (eBin gIx (eVar 1) (eM (eCa gLen (aCons (eB (eVarO 2) shD) aNil)) viewD)) (eBin gPow (eC (.int 10)) (eC (.int 64)))) Ow.d))
    sSkip)
    (sSeq (sSet 7 (eM (eDictIx (eVar 0) (eVar 4)) Ow.d))
    (sSeq (sIf (eB (eBin gGe (eM (eCa gLen (aCons (eB (eVarO 2) shD) aNil)) viewD) (eC (.int 24))) asB)
    (sSet 7 (eM (eM (eLc (eB (eVar 7) itD) (gtName 8) (eB (eBin gEq (eBin gIx (eVar 8) (eC (.int 1))) (eTup aNil)) asB) (eM (eVar 8) Ow.d) (List.map (·.2) ([("_law_row_here", 8)] : List (Str × Nat)))) viewD) Ow.d))
    sSkip)
    (sSeq (sAsg (gtTup 2 (gtCons (gtName 9) (gtCons (gtName 10) gtNil))) (eBin gIx (eVar 7) (eBin gMod (eVar 6) (eM (eCa gLen (aCons (eVar 7) aNil)) viewD))))
    (sSeq (sApp 2 (eM (eTup (aCons (eVar 9) (aCons (eM (eBinO gAdd (eBin gSub (eBin gMod (eBin gMul (eBin gDiv (eVar 6) (eC (.int 3))) (eC (.int 69621))) (eBin gSub (eBin gMul (eC (.int 2)) (eBin gPow (eC (.int 10)) (eC (.int 60)))) (eC (.int 1)))) (eBin gPow (eC (.int 10)) (eC (.int 60)))) (eC (.int 1))) viewD) (aCons (eVar 5) aNil)))) Ow.d))
    (sFor (eB (eVar 10) itD) (gtName 11)
    (sApp 3 (eM (eTup (aCons (eVar 11) (aCons (eBin gSub (eM (eCa gLen (aCons (eB (eVarO 2) shD) aNil)) viewD) (eC (.int 1))) aNil))) Ow.d)))))))))) 
abbrev bDrawn9 : Ev → SR := (sSeq (sSet 2 (eLst aNil))
    (sSeq (sSet 3 (eLst (aCons (eTup (aCons (eBin gIx (eBin gIx (eVar 0) (eC (.int 0))) (eC (.int 0))) (aCons (eC (.int 0)) aNil))) aNil)))
    (sSeq (whileN dr9C dr9B 1000000)
    (sRetV 2))))
/-- what the wood of k09 is like -/
structure Wd9 (w : Wood) : Prop where
  two : ∃ p q, w = [p, q]
  kinds : (w.map (·.1)).Nodup
  kok : ∀ p ∈ w, PyData.strOk p.1 = true
  rows : ∀ p ∈ w, p.2.length ≤ 4 ∧ (∃ r ∈ p.2, r.br = []) ∧ ∀ r ∈ p.2, PyData.strOk r.nm = true ∧ r.br.length ≤ 4 ∧ ∀ z ∈ r.br, PyData.strOk z = true ∧ ∃ q ∈ w, q.1 = z
/-- heads so far: each one's own place is before it -/
def HdsOk (hs : List Hd) : Prop := ∀ (i : Nat) (h : Hd), hs[i]? = some h → PyData.strOk h.nm = true ∧ (h.up < i ∨ (i = 0 ∧ h.up = 0)) ∧ h.up < 24
def pot (h todo : Nat) : Nat := todo + 5 * (24 - h)
/-- one head more -/
theorem dr9B_ok {w : Wood} (hw : Wd9 w) {cs : List Int} (hs : List Hd) (ts : List (Str × Nat)) (k : Str) (up : Nat) (hh : HdsOk hs) (hup : up < hs.length ∨ (hs.length = 0 ∧ up = 0)) (hk : ∃ q ∈ w, q.1 = k) (hl : hs.length ≤ 200) (tl : ts.length ≤ 200) (x4 x5 x6 x7 x9 x10 x11 : Option Ow) :
    ∃ (h : Hd) (zs : List Str) (y4 y5 y6 y7 y9 y10 y11 : Option Ow), h.up = up ∧ PyData.strOk h.nm = true ∧ zs.length ≤ 4 ∧ (24 ≤ hs.length → zs = []) ∧ (∀ z ∈ zs, ∃ q ∈ w, q.1 = z) ∧
      dr9B [some (.d (encWd w)), some (.d (.list (cs.map PyData.int))), some (hdO hs), some (tdO (ts ++ [(k, up)])), x4, x5, x6, x7, none, x9, x10, x11] = .nx [some (.d (encWd w)), some (.d (.list (cs.map PyData.int))), some (hdO (hs ++ [h])), some (tdO (ts ++ zs.map fun z => (z, hs.length))), y4, y5, y6, y7, none, y9, y10, y11] := by
  have sh2 : shD (hdO hs) = .ok (.list (hs.map encHd)) := shD_l _
  have ln2 : gLen [.list (hs.map encHd)] = some (.d (.int (hs.length : Nat))) := by rw [gLen_list, List.length_map]
  have lnc : gLen [.list (cs.map PyData.int)] = some (.d (.int (cs.length : Nat))) := by rw [gLen_list, List.length_map]
  have p64 : gPow (.int 10) (.int 64) = some (.int (10 ^ 64)) := gPow10 64 (by decide)
  have p60 : gPow (.int 10) (.int 60) = some (.int (10 ^ 60)) := gPow10 60 (by decide)
  obtain ⟨T, hT⟩ : ∃ T : Int, T = 10 ^ 64 := ⟨_, rfl⟩
  obtain ⟨U, hU⟩ : ∃ U : Int, U = 10 ^ 60 := ⟨_, rfl⟩
  have hTp : 0 < T := by rw [hT]; decide
  have hUp : 0 < U := by rw [hU]; decide
  have hUb : U.natAbs < 2 ^ 250 := by rw [hU]; decide
  rw [← hT] at p64
  rw [← hU] at p60
  -- the kind's rows
  obtain ⟨q, hq, rfl⟩ := hk
  have rq : rowsOf w q.1 = q.2 := rowsOf_kind hw.kinds hq
  obtain ⟨rl, ⟨rb, rb1, rb2⟩, rr⟩ := hw.rows q hq
  have ap := asPairs_wd w
  have lp := lastP_wd (k := q.1) hw.kinds
  have an : (w.any fun p => p.1 == q.1) = true := List.any_eq_true.mpr ⟨q, hq, beq_self_eq_true _⟩
  rw [an, if_pos rfl, rq] at lp
  -- popped
  have s1 : sXAsg (gtTup 2 (gtCons (gtName 4) (gtCons (gtName 5) gtNil))) (xPop 3) [some (.d (encWd w)), some (.d (.list (cs.map PyData.int))), some (hdO hs), some (tdO (ts ++ [(q.1, up)])), x4, x5, x6, x7, none, x9, x10, x11] = .nx [some (.d (encWd w)), some (.d (.list (cs.map PyData.int))), some (hdO hs), some (tdO ts), some (.d (.str q.1)), some (.d (.int (up : Nat))), x6, x7, none, x9, x10, x11] := by
    have pop : xPop 3 [some (.d (encWd w)), some (.d (.list (cs.map PyData.int))), some (hdO hs), some (tdO (ts ++ [(q.1, up)])), x4, x5, x6, x7, none, x9, x10, x11] = .ok (encTd (q.1, up), [some (.d (encWd w)), some (.d (.list (cs.map PyData.int))), some (hdO hs), some (tdO ts), x4, x5, x6, x7, none, x9, x10, x11]) := by
      refine xPop_of (dk := ts.map encTd) (d := encTd (q.1, up)) ?_
      show some (some (tdO (ts ++ [(q.1, up)]))) = _
      unfold tdO
      rw [List.map_append]
      rfl
    rw [sXAsg_eq, pop]
    rfl
  -- the number
  have X0 : ∃ (n : Nat), ∃ (_ : Unit), (sSeq (sSet 6 (eM (eC (.int 0)) Ow.d)) (sIf (eB (eBin gLt (eM (eCa gLen (aCons (eB (eVarO 2) shD) aNil)) viewD) (eM (eCa gLen (aCons (eVar 1) aNil)) viewD)) asB)
    (sSet 6 (eM (eBin gMod (eBin gIx (eVar 1) (eM (eCa gLen (aCons (eB (eVarO 2) shD) aNil)) viewD)) (eBin gPow (eC (.int 10)) (eC (.int 64)))) Ow.d))
    sSkip)) [some (.d (encWd w)), some (.d (.list (cs.map PyData.int))), some (hdO hs), some (tdO ts), some (.d (.str q.1)), some (.d (.int (up : Nat))), x6, x7, none, x9, x10, x11] = .nx [some (.d (encWd w)), some (.d (.list (cs.map PyData.int))), some (hdO hs), some (tdO ts), some (.d (.str q.1)), some (.d (.int (up : Nat))), some (.d (.int (n : Nat))), x7, none, x9, x10, x11] := by
    by_cases c : hs.length < cs.length
    · have ic : gIx (.list (cs.map PyData.int)) (.int (hs.length : Nat)) = some (.int cs[hs.length]) := by
        show atI _ _ = _
        exact atI_natD (by rw [List.getElem?_map, List.getElem?_eq_getElem c]; rfl)
      obtain ⟨n, hn⟩ : ∃ n : Nat, cs[hs.length] % T = (n : Int) := ⟨(cs[hs.length] % T).toNat, by have := Int.emod_nonneg cs[hs.length] (Int.ne_of_gt hTp); omega⟩
      have gm : gMod (.int cs[hs.length]) (.int T) = some (.int (n : Nat)) := by rw [← hn]; exact gMod_int hTp
      have c' : (hs.length : Int) < (cs.length : Int) := by omega
      refine ⟨n, (), ?_⟩
      generalize cs[hs.length] = z at ic gm
      generalize PyData.list (cs.map PyData.int) = CL at lnc ic ⊢
      generalize PyData.list (hs.map encHd) = HL at sh2 ln2
      generalize hdO hs = HO at sh2 ⊢
      generalize tdO ts = TO
      generalize encWd w = W
      generalize ((hs.length : Nat) : Int) = a at ln2 ic c'
      generalize ((cs.length : Nat) : Int) = b at lnc c'
      simp [sh2, ln2, lnc, c', ic, p64, gm]
    · have c' : ¬ (hs.length : Int) < (cs.length : Int) := by omega
      refine ⟨0, (), ?_⟩
      generalize PyData.list (cs.map PyData.int) = CL at lnc ⊢
      generalize PyData.list (hs.map encHd) = HL at sh2 ln2
      generalize hdO hs = HO at sh2 ⊢
      generalize tdO ts = TO
      generalize encWd w = W
      generalize ((hs.length : Nat) : Int) = a at ln2 c'
      generalize ((cs.length : Nat) : Int) = b at lnc c'
      simp [sh2, ln2, lnc, c']
  obtain ⟨n, _, s3⟩ := X0
  let E : Option Ow → Option Ow → Option Ow → Option Ow → Option Ow → Ev := fun y6 y7 y9 y10 y11 => [some (.d (encWd w)), some (.d (.list (cs.map PyData.int))), some (hdO hs), some (tdO ts), some (.d (.str q.1)), some (.d (.int (up : Nat))), y6, y7, none, y9, y10, y11]
  have s4 : sSet 7 (eM (eDictIx (eVar 0) (eVar 4)) Ow.d) (E (some (.d (.int (n : Nat)))) x7 x9 x10 x11) = .nx (E (some (.d (.int (n : Nat)))) (some (.d (rwsD q.2))) x9 x10 x11) := by
    show sSet 7 _ [_, _, _, _, _, _, _, _, _, _, _, _] = .nx [_, _, _, _, _, _, _, _, _, _, _, _]
    change _ = some (rwsD q.2) at lp
    generalize rwsD q.2 = RW at lp
    generalize hdO hs = HO
    generalize tdO ts = TO
    generalize PyData.list (cs.map PyData.int) = CL
    generalize encWd w = W at ap
    simp [ap, lp]
  obtain ⟨rs, rsl, rs0, rsm, rsb, s5⟩ : ∃ rs : List Rw, rs.length ≤ 4 ∧ 0 < rs.length ∧ (∀ r ∈ rs, r ∈ q.2) ∧ (24 ≤ hs.length → ∀ r ∈ rs, r.br = []) ∧
      sIf (eB (eBin gGe (eM (eCa gLen (aCons (eB (eVarO 2) shD) aNil)) viewD) (eC (.int 24))) asB)
        (sSet 7 (eM (eM (eLc (eB (eVar 7) itD) (gtName 8) (eB (eBin gEq (eBin gIx (eVar 8) (eC (.int 1))) (eTup aNil)) asB) (eM (eVar 8) Ow.d) (List.map (·.2) ([("_law_row_here", 8)] : List (Str × Nat)))) viewD) Ow.d))
        sSkip (E (some (.d (.int (n : Nat)))) (some (.d (rwsD q.2))) x9 x10 x11) = .nx (E (some (.d (.int (n : Nat)))) (some (.d (rwsD rs))) x9 x10 x11) := by
    by_cases c : 24 ≤ hs.length
    · have c' : (24 : Int) ≤ (hs.length : Int) := by omega
      refine ⟨q.2.filter fun r => r.br.isEmpty, Nat.le_trans (List.length_filter_le _ _) rl, List.length_pos_of_mem (List.mem_filter.mpr ⟨rb1, by rw [rb2]; rfl⟩), fun r hr => (List.mem_filter.mp hr).1, fun _ r hr => List.isEmpty_iff.mp (List.mem_filter.mp hr).2, ?_⟩
      have ct : (eB (eBin gGe (eM (eCa gLen (aCons (eB (eVarO 2) shD) aNil)) viewD) (eC (.int 24))) asB) (E (some (.d (.int (n : Nat)))) (some (.d (rwsD q.2))) x9 x10 x11) = .ok true := by
        show eB _ _ [_, _, _, _, _, _, _, _, _, _, _, _] = _
        generalize rwsD q.2 = RW
        generalize PyData.list (cs.map PyData.int) = CL
        generalize PyData.list (hs.map encHd) = HL at sh2 ln2
        generalize hdO hs = HO at sh2 ⊢
        generalize tdO ts = TO
        generalize encWd w = W
        generalize ((hs.length : Nat) : Int) = a at ln2 c'
        simp [sh2, ln2, c']
      have lc : (eLc (eB (eVar 7) itD) (gtName 8) (eB (eBin gEq (eBin gIx (eVar 8) (eC (.int 1))) (eTup aNil)) asB) (eM (eVar 8) Ow.d) (List.map (·.2) ([("_law_row_here", 8)] : List (Str × Nat)))) (E (some (.d (.int (n : Nat)))) (some (.d (rwsD q.2))) x9 x10 x11) = .ok (.l ((q.2.filter fun r => r.br.isEmpty).map fun r => .d (encRw r))) := by
        refine eLc_of (ds := q.2.map encRw) ?_ (by rw [List.length_map, sizeLine_eq]; omega) (lcR_filt encRw (fun r => r.br.isEmpty) _ q.2 fun r hr => ?_)
        · have i2 : itD (rwsD q.2) = .ok (q.2.map encRw) := rfl
          show eB _ _ [_, _, _, _, _, _, _, _, _, _, _, _] = _
          generalize rwsD q.2 = RW at i2
          generalize hdO hs = HO
          generalize tdO ts = TO
          generalize PyData.list (cs.map PyData.int) = CL
          generalize encWd w = W
          simp [i2]
        · obtain ⟨_, _, ok⟩ := rr r hr
          have i1 := rw_ix1 r
          have nb : gEq (brD r.br) (.tuple []) = some (.bool r.br.isEmpty) := by
            have := eq_tnil (nice_strs (l := r.br) fun z hz => (ok z hz).1)
            rwa [List.isEmpty_map] at this
          refine ⟨[some (.d (encWd w)), some (.d (.list (cs.map PyData.int))), some (hdO hs), some (tdO ts), some (.d (.str q.1)), some (.d (.int (up : Nat))), some (.d (.int (n : Nat))), some (.d (rwsD q.2)), some (.d (encRw r)), x9, x10, x11], by
            show gtName 8 _ (wipeE [_, _, _, _, _, _, _, _, _, _, _, _] _) = some _
            generalize rwsD q.2 = RW
            generalize hdO hs = HO
            generalize tdO ts = TO
            generalize PyData.list (cs.map PyData.int) = CL
            generalize encWd w = W
            simp [wipeE], ?_, fun _ => rfl⟩
          generalize r.br.isEmpty = B at nb
          generalize brD r.br = BD at nb i1
          generalize encRw r = ER at i1
          generalize rwsD q.2 = RW
          generalize hdO hs = HO
          generalize tdO ts = TO
          generalize PyData.list (cs.map PyData.int) = CL
          generalize encWd w = W
          simp [i1, nb, sizeLine_eq]
      have vc : viewD (.l ((q.2.filter fun r => r.br.isEmpty).map fun r => .d (encRw r))) = rwsD (q.2.filter fun r => r.br.isEmpty) := viewD_of encRw _
      rw [sIf_eq, ct, R.st_ok, if_pos rfl, sSet_eq, eM_eq, eM_eq]
      refine (congrArg (fun r => R.st _ (R.map Ow.d (R.map viewD r)) _) lc).trans ?_
      rw [R.map_ok, R.map_ok, vc, R.st_ok]
      rfl
    · have c' : ¬ (24 : Int) ≤ (hs.length : Int) := by omega
      refine ⟨q.2, rl, List.length_pos_of_mem rb1, fun r hr => hr, fun c2 => absurd c2 c, ?_⟩
      show sIf _ _ _ [_, _, _, _, _, _, _, _, _, _, _, _] = .nx [_, _, _, _, _, _, _, _, _, _, _, _]
      generalize rwsD q.2 = RW
      generalize PyData.list (cs.map PyData.int) = CL
      generalize PyData.list (hs.map encHd) = HL at sh2 ln2
      generalize hdO hs = HO at sh2 ⊢
      generalize tdO ts = TO
      generalize encWd w = W
      generalize ((hs.length : Nat) : Int) = a at ln2 c'
      simp [sh2, ln2, c']
  -- picked
  obtain ⟨i, hi, il⟩ := emod_nat (c := (n : Int)) (n := rs.length) rs0
  obtain ⟨r, hre⟩ : ∃ r, rs[i]? = some r := ⟨_, List.getElem?_eq_getElem il⟩
  have rm := rsm r (List.mem_of_getElem? hre)
  obtain ⟨ro1, ro2, ro3⟩ := rr r rm
  have s6 : sAsg (gtTup 2 (gtCons (gtName 9) (gtCons (gtName 10) gtNil))) (eBin gIx (eVar 7) (eBin gMod (eVar 6) (eM (eCa gLen (aCons (eVar 7) aNil)) viewD))) (E (some (.d (.int (n : Nat)))) (some (.d (rwsD rs))) x9 x10 x11) = .nx (E (some (.d (.int (n : Nat)))) (some (.d (rwsD rs))) (some (.d (.str r.nm))) (some (.d (brD r.br))) x11) := by
    have gm : gMod (.int (n : Nat)) (.int (rs.length : Nat)) = some (.int (i : Nat)) := by rw [gMod_int (by omega), hi]
    have fln := rws_len rs
    have fix : gIx (rwsD rs) (.int (i : Nat)) = some (.tuple [.str r.nm, brD r.br]) := by
      show atI (rs.map encRw) _ = _
      exact atI_natD (by rw [List.getElem?_map, hre]; rfl)
    show sAsg _ _ [_, _, _, _, _, _, _, _, _, _, _, _] = .nx [_, _, _, _, _, _, _, _, _, _, _, _]
    generalize brD r.br = BD at fix ⊢
    generalize rwsD rs = RF at fln fix ⊢
    generalize ((rs.length : Nat) : Int) = FL at fln gm
    generalize hdO hs = HO
    generalize tdO ts = TO
    generalize PyData.list (cs.map PyData.int) = CL
    generalize encWd w = W
    simp [fln, fix, gm]
  obtain ⟨Q, hQ⟩ : ∃ Q : Int, Q = (n : Int) / 3 * 69621 % (2 * U - 1) := ⟨_, rfl⟩
  have s7 : sApp 2 (eM (eTup (aCons (eVar 9) (aCons (eM (eBinO gAdd (eBin gSub (eBin gMod (eBin gMul (eBin gDiv (eVar 6) (eC (.int 3))) (eC (.int 69621))) (eBin gSub (eBin gMul (eC (.int 2)) (eBin gPow (eC (.int 10)) (eC (.int 60)))) (eC (.int 1)))) (eBin gPow (eC (.int 10)) (eC (.int 60)))) (eC (.int 1))) viewD) (aCons (eVar 5) aNil)))) Ow.d) (E (some (.d (.int (n : Nat)))) (some (.d (rwsD rs))) (some (.d (.str r.nm))) (some (.d (brD r.br))) x11) = .nx [some (.d (encWd w)), some (.d (.list (cs.map PyData.int))), some (hdO (hs ++ [⟨r.nm, Q - U + 1, up⟩])), some (tdO ts), some (.d (.str q.1)), some (.d (.int (up : Nat))), some (.d (.int (n : Nat))), some (.d (rwsD rs)), none, some (.d (.str r.nm)), some (.d (brD r.br)), x11] := by
    have m1 : gDiv (.int (n : Nat)) (.int 3) = some (.int ((n : Int) / 3)) := gDiv_small (by decide) (by decide)
    have m2 : gMul (.int ((n : Int) / 3)) (.int 69621) = some (.int ((n : Int) / 3 * 69621)) := gMul_by (by decide) (by decide)
    have m3 : gMul (.int 2) (.int U) = some (.int (2 * U)) := gMul_small (by decide) hUb
    have m4 : gMod (.int ((n : Int) / 3 * 69621)) (.int (2 * U - 1)) = some (.int Q) := by rw [hQ]; exact gMod_int (by omega)
    have ls : hs.length < 16777216 := by omega
    show sApp _ _ [_, _, _, _, _, _, _, _, _, _, _, _] = .nx [_, _, _, _, _, _, _, _, _, _, _, _]
    generalize brD r.br = BD
    generalize rwsD rs = RF
    generalize tdO ts = TO
    generalize PyData.list (cs.map PyData.int) = CL
    generalize encWd w = W
    clear hQ
    simp [m1, m2, m3, m4, p60, ls, encHd, hdO, sizeLine_eq]
  obtain ⟨h, hhe⟩ : ∃ h : Hd, h = ⟨r.nm, Q - U + 1, up⟩ := ⟨_, rfl⟩
  rw [← hhe] at s7
  have h1 : h.up = up := by rw [hhe]
  have h2 : PyData.strOk h.nm = true := by rw [hhe]; exact ro1
  obtain ⟨env', s8, x11', he⟩ := forL_map (g := gtName 11) (f := (sApp 3 (eM (eTup (aCons (eVar 11) (aCons (eBin gSub (eM (eCa gLen (aCons (eB (eVarO 2) shD) aNil)) viewD) (eC (.int 1))) aNil))) Ow.d))) PyData.str r.br
    (fun i env => ∃ x11 : Option Ow, env = [some (.d (encWd w)), some (.d (.list (cs.map PyData.int))), some (hdO (hs ++ [h])), some (tdO (ts ++ (r.br.take i).map fun z => (z, hs.length))), some (.d (.str q.1)), some (.d (.int (up : Nat))), some (.d (.int (n : Nat))), some (.d (rwsD rs)), none, some (.d (.str r.nm)), some (.d (brD r.br)), x11]) (fun i z env hz hi => by
      obtain ⟨y, rfl⟩ := hi
      have il := (List.getElem?_eq_some_iff.mp hz).1
      have tk : r.br.take (i + 1) = r.br.take i ++ [z] := by rw [List.take_add_one, hz]; rfl
      refine ⟨_, rfl, _, .inl ?_, some (.d (.str z)), rfl⟩
      have sh3 : shD (hdO (hs ++ [h])) = .ok (.list ((hs ++ [h]).map encHd)) := shD_l _
      have ln3 : gLen [.list ((hs ++ [h]).map encHd)] = some (.d (.int ((hs.length : Nat) + 1 : Int))) := by rw [gLen_list, List.length_map, List.length_append]; rfl
      have ls : (ts ++ (r.br.take i).map fun z => (z, hs.length)).length < 16777216 := by rw [List.length_append, List.length_map, List.length_take]; omega
      rw [tk, List.map_append, ← List.append_assoc]
      generalize (ts ++ (r.br.take i).map fun z => (z, hs.length)) = tz at ls ⊢
      show sApp _ _ [_, _, _, _, _, _, _, _, _, _, _, _] = .nx [_, _, _, _, _, _, _, _, _, _, _, _]
      generalize brD r.br = BD
      generalize rwsD rs = RF
      generalize PyData.list ((hs ++ [h]).map encHd) = HL at sh3 ln3
      generalize hdO (hs ++ [h]) = HO at sh3 ⊢
      generalize PyData.list (cs.map PyData.int) = CL
      generalize encWd w = W
      simp [sh3, ln3, ls, encTd, tdO, sizeLine_eq]) [some (.d (encWd w)), some (.d (.list (cs.map PyData.int))), some (hdO (hs ++ [h])), some (tdO ts), some (.d (.str q.1)), some (.d (.int (up : Nat))), some (.d (.int (n : Nat))), some (.d (rwsD rs)), none, some (.d (.str r.nm)), some (.d (brD r.br)), x11] ⟨x11, by rw [List.take_zero, List.map_nil, List.append_nil]⟩
  rw [List.take_length] at he
  subst he
  refine ⟨h, r.br, some (.d (.str q.1)), some (.d (.int (up : Nat))), some (.d (.int (n : Nat))), some (.d (rwsD rs)), some (.d (.str r.nm)), some (.d (brD r.br)), x11', h1, h2, ro2, fun c => rsb c r (List.mem_of_getElem? hre), fun z hz => (ro3 z hz).2, ?_⟩
  refine seq_nx s1 ?_
  have s3' := s3
  have sq : ∀ (a b c : Ev → SR) (e : Ev), sSeq a (sSeq b c) e = sSeq (sSeq a b) c e := fun a b c e => by
    rw [sSeq_eq, sSeq_eq, sSeq_eq]
    cases a e <;> rfl
  rw [sq]
  refine seq_nx s3 ?_
  refine seq_nx s4 ?_
  refine seq_nx s5 ?_
  refine seq_nx s6 ?_
  refine seq_nx s7 ?_
  have it : (eB (eVar 10) itD) [some (.d (encWd w)), some (.d (.list (cs.map PyData.int))), some (hdO (hs ++ [h])), some (tdO ts), some (.d (.str q.1)), some (.d (.int (up : Nat))), some (.d (.int (n : Nat))), some (.d (rwsD rs)), none, some (.d (.str r.nm)), some (.d (brD r.br)), x11] = .ok (r.br.map PyData.str) := by
    have i2 : itD (brD r.br) = .ok (r.br.map PyData.str) := rfl
    generalize brD r.br = BD at i2
    generalize rwsD rs = RF
    generalize hdO (hs ++ [h]) = HO
    generalize tdO ts = TO
    generalize PyData.list (cs.map PyData.int) = CL
    generalize encWd w = W
    simp [i2]
  rw [sFor_eq, it, R.st_ok, s8]
theorem nice_td {ts : List (Str × Nat)} (h : ∀ q ∈ ts, PyData.strOk q.1 = true) : Nice (.list (ts.map encTd)) := nice_list (n := 2) (fun d hd => by
  obtain ⟨q, hq, rfl⟩ := List.mem_map.mp hd
  have n1 := nice_lab' (h q hq) 0 0
  have ok := h q hq
  refine ⟨?_, ?_⟩
  · rw [encTd, PyData.canLay0, PyData.canLayAll0, PyData.canLayAll0, can_s ok]
    rfl
  · simp [encTd, PyData.depth, PyData.depthAll]) (by decide)
theorem td_ne {ts : List (Str × Nat)} (h : ∀ q ∈ ts, PyData.strOk q.1 = true) : gNe (.list (ts.map encTd)) (.list []) = some (.bool (!ts.isEmpty)) := by
  have n0 : Nice (.list []) := ⟨rfl, by simp [PyData.depth, PyData.depthAll]⟩
  rw [gNe_nice (nice_td h) n0]
  cases ts with
  | nil => rw [List.map_nil, eqv_self n0]; rfl
  | cons d ds => rfl
theorem hds_snoc {hs : List Hd} {h : Hd} (hh : HdsOk hs) (hk : PyData.strOk h.nm = true) (hu : h.up < hs.length ∨ (hs.length = 0 ∧ h.up = 0)) (h24 : h.up < 24) : HdsOk (hs ++ [h]) := by
  intro i g hg
  rcases Nat.lt_or_ge i hs.length with c | c
  · rw [List.getElem?_append_left c] at hg
    exact hh i g hg
  · rw [List.getElem?_append_right c] at hg
    have : i - hs.length = 0 := by
      have := (List.getElem?_eq_some_iff.mp hg).1
      simp at this
      omega
    rw [this] at hg
    cases hg
    have : i = hs.length := by omega
    subst this
    exact ⟨hk, hu, h24⟩
theorem viewD_td (ts : List (Str × Nat)) : viewD (tdO ts) = .list (ts.map encTd) := by
  have := viewD_of encTd ts
  unfold tdO
  rw [List.map_map]
  exact this
theorem dr9C_ok {ts : List (Str × Nat)} (h : ∀ q ∈ ts, PyData.strOk q.1 = true) (W C H x4 x5 x6 x7 x8 x9 x10 x11 : Option Ow) : dr9C [W, C, H, some (tdO ts), x4, x5, x6, x7, x8, x9, x10, x11] = .ok (!ts.isEmpty) := by
  have e1 := td_ne h
  have e2 := viewD_td ts
  generalize PyData.list (ts.map encTd) = TL at e1 e2
  generalize tdO ts = TO at e2 ⊢
  generalize (!ts.isEmpty) = B at e1 ⊢
  simp [e1, e2, sizeLine_eq]
theorem dr9_loop {w : Wood} (hw : Wd9 w) {cs : List Int} : ∀ (P n : Nat) (hs : List Hd) (ts : List (Str × Nat)) (x4 x5 x6 x7 x9 x10 x11 : Option Ow), pot hs.length ts.length ≤ P → hs.length + P ≤ 200 → P + 2 ≤ n → HdsOk hs → (0 < hs.length ∨ 0 < ts.length) → (∀ q ∈ ts, (q.2 < hs.length ∨ (hs.length = 0 ∧ q.2 = 0)) ∧ q.2 < 24 ∧ ∃ p ∈ w, p.1 = q.1) →
    ∃ hs' : List Hd, HdsOk hs' ∧ 0 < hs'.length ∧ hs'.length ≤ 200 ∧ finR (sSeq (whileN dr9C dr9B n) (sRetV 2) [some (.d (encWd w)), some (.d (.list (cs.map PyData.int))), some (hdO hs), some (tdO ts), x4, x5, x6, x7, none, x9, x10, x11]) = .ok (hdO hs') := by
  intro P
  induction P with
  | zero =>
    intro n hs ts x4 x5 x6 x7 x9 x10 x11 hp hl hn hh h0 ht
    have tn : ts = [] := List.eq_nil_of_length_eq_zero (by unfold pot at hp; omega)
    subst tn
    refine ⟨hs, hh, by rw [List.length_nil] at h0; omega, by omega, ?_⟩
    obtain ⟨n, rfl⟩ : ∃ m, n = m + 1 := ⟨n - 1, by omega⟩
    rw [sSeq_eq, whileN, dr9C_ok (fun q hq => by cases hq)]
    rfl
  | succ P ih =>
    intro n hs ts x4 x5 x6 x7 x9 x10 x11 hp hl hn hh h0 ht
    obtain ⟨n, rfl⟩ : ∃ m, n = m + 1 := ⟨n - 1, by omega⟩
    have ck := dr9C_ok (ts := ts) (fun q hq => by
      obtain ⟨_, _, p, hp, e⟩ := ht q hq
      rw [← e]
      exact hw.kok p hp) (some (.d (encWd w))) (some (.d (.list (cs.map PyData.int)))) (some (hdO hs)) x4 x5 x6 x7 none x9 x10 x11
    rcases List.eq_nil_or_concat ts with tn | ⟨ts', ⟨k, up⟩, te⟩
    · subst tn
      refine ⟨hs, hh, by rw [List.length_nil] at h0; omega, by omega, ?_⟩
      rw [sSeq_eq, whileN, ck]
      rfl
    · have te : ts = ts' ++ [(k, up)] := by rw [te]; simp
      subst te
      have hq := ht (k, up) (by simp)
      have lt : (ts' ++ [(k, up)]).length = ts'.length + 1 := by simp
      have hp' := hp
      unfold pot at hp'
      rw [lt] at hp'
      obtain ⟨h, zs, y4, y5, y6, y7, y9, y10, y11, h1, h2, h3, h4, h5, e⟩ := dr9B_ok hw (cs := cs) hs ts' k up hh hq.1 hq.2.2 (by omega) (by omega) x4 x5 x6 x7 x9 x10 x11
      have ie : (!(ts' ++ [(k, up)]).isEmpty) = true := by cases ts' <;> rfl
      rw [ie] at ck
      have l1 : (hs ++ [h]).length = hs.length + 1 := by simp
      have l2 : (ts' ++ zs.map fun z => (z, hs.length)).length = ts'.length + zs.length := by simp
      have hz : zs.length ≤ 4 ∧ (24 ≤ hs.length → zs.length = 0) := ⟨h3, fun c => by rw [h4 c]; rfl⟩
      obtain ⟨hs', a, b, c, d⟩ := ih n (hs ++ [h]) (ts' ++ zs.map fun z => (z, hs.length)) y4 y5 y6 y7 y9 y10 y11 (by unfold pot; rw [l1, l2]; omega) (by omega) (by omega) (hds_snoc hh h2 (by rw [h1]; exact hq.1) (by rw [h1]; exact hq.2.1)) (.inl (by omega)) (fun q hq' => by
        rcases List.mem_append.mp hq' with m | m
        · obtain ⟨u, v⟩ := ht q (List.mem_append_left _ m)
          exact ⟨.inl (by omega), v⟩
        · obtain ⟨z, hz', rfl⟩ := List.mem_map.mp m
          exact ⟨.inl (by rw [l1]; exact Nat.lt_succ_self _), Nat.lt_of_not_le (fun c => absurd hz' (by rw [h4 c]; exact List.not_mem_nil)), h5 z hz'⟩)
      refine ⟨hs', a, b, c, ?_⟩
      rw [← d, sSeq_eq, sSeq_eq, whileN, ck, R.st_ok, if_pos rfl, e]
theorem drawn9_fin {w : Wood} (hw : Wd9 w) (cs : List Int) : ∃ hs : List Hd, HdsOk hs ∧ 0 < hs.length ∧ hs.length ≤ 200 ∧ finR (bDrawn9 (envOf 10 [encWd w, .list (cs.map PyData.int)])) = .ok (hdO hs) := by
  obtain ⟨p, q, e⟩ := hw.two
  obtain ⟨hs, a, b, c, d⟩ := dr9_loop hw (cs := cs) 121 1000000 [] [(p.1, 0)] none none none none none none none (Nat.le_refl 121) (by decide) (by decide) (fun i h hh => by simp at hh) (.inr Nat.zero_lt_one) (fun r hr => by
    simp at hr
    subst hr
    exact ⟨.inr ⟨rfl, rfl⟩, (by decide : 0 < 24), p, by rw [e]; simp, rfl⟩)
  refine ⟨hs, a, b, c, ?_⟩
  have he : envOf 10 [encWd w, .list (cs.map PyData.int)] = [some (.d (encWd w)), some (.d (.list (cs.map PyData.int))), none, none, none, none, none, none, none, none, none, none] := rfl
  rw [he]
  have i0 : gIx (encWd w) (.int 0) = some (encKd p) := by
    show atI (w.map encKd) _ = _
    rw [e]
    rfl
  have i1 : gIx (encKd p) (.int 0) = some (.str p.1) := rfl
  refine fin_step (env1 := [some (.d (encWd w)), some (.d (.list (cs.map PyData.int))), some (hdO []), none, none, none, none, none, none, none, none, none]) (by
    generalize encWd w = W
    generalize PyData.list (cs.map PyData.int) = CL
    simp [sizeLine_eq]) ?_
  refine fin_step (env1 := [some (.d (encWd w)), some (.d (.list (cs.map PyData.int))), some (hdO []), some (tdO [(p.1, 0)]), none, none, none, none, none, none, none, none]) (by
    generalize encKd p = KP at i0 i1
    generalize encWd w = W at i0
    generalize hdO [] = HO
    generalize PyData.list (cs.map PyData.int) = CL
    simp [i0, i1, sizeLine_eq, encTd]) ?_
  exact d
end
end Mir
set_option Elab.async false
set_option linter.all false
set_option maxRecDepth 100000
set_option maxHeartbeats 4000000
namespace Mir
open PySem PySem.Spec L2
section
variable {t : Trn} (gd : TnGd t)
include gd
theorem rows_nd (k : Str) : ((rowsOf t.wood k).map (·.nm)).Nodup := by
  rcases rowsK_or t.wood k with z | ⟨p, hp, _, e⟩
  · rw [z]; exact List.nodup_nil
  · rw [e]; exact (gd.rows p hp).1
theorem isOf_row {k : Str} {row : Rw} (hr : row ∈ rowsOf t.wood k) (mk : Int) (bs : List Tr) (hl : row.br.length = bs.length) (hb : isOfs t.wood bs row.br = true) : isOf t.wood (.mk row.nm mk bs) k = true := by
  rw [isOf_mk, brOf_of (rows_nd gd k) hr]
  show (decide (row.br.length = bs.length) && isOfs t.wood bs row.br) = true
  rw [decide_eq_true hl, hb]
  rfl
end
/-- the kind's leaf -/
def leafT (w : Wood) (k : Str) : Tr := .mk ((((rowsOf w k).filter fun r => r.br.isEmpty).map (·.nm)).getD 0 "") 0 []
section
variable {t : Trn} (gd : TnGd t)
include gd
theorem leaf_row {k : Str} (hk : ∃ q ∈ t.wood, q.1 = k) : ∃ (i : Nat) (row : Rw), (rowsOf t.wood k)[i]? = some row ∧ row.br = [] ∧ leafT t.wood k = .mk row.nm 0 [] := by
  obtain ⟨q, hq, hqr⟩ := rowsOf_mem hk
  obtain ⟨r0, hr0, hb0⟩ := (gd.rows q hq).2.1
  rw [hqr] at hr0
  have ne : 0 < ((rowsOf t.wood k).filter fun r => r.br.isEmpty).length := List.length_pos_of_mem (List.mem_filter.mpr ⟨hr0, by rw [hb0]; rfl⟩)
  have h0 := List.getElem?_eq_getElem ne
  have hm := List.getElem_mem ne
  rw [List.mem_filter] at hm
  obtain ⟨i, hi, e⟩ := List.mem_iff_getElem.mp hm.1
  refine ⟨i, _, by rw [List.getElem?_eq_getElem hi, e], List.isEmpty_iff.mp hm.2, ?_⟩
  unfold leafT
  rw [List.getD_eq_getElem?_getD, List.getElem?_map, h0]
  rfl
theorem leaf_of {k : Str} (hk : ∃ q ∈ t.wood, q.1 = k) : isOf t.wood (leafT t.wood k) k = true := by
  obtain ⟨i, row, h1, h2, h3⟩ := leaf_row gd hk
  rw [h3]
  exact isOf_row gd (List.mem_of_getElem? h1) 0 [] (by rw [h2]; rfl) (by rw [h2, isOfs])
end
end Mir
set_option Elab.async false
set_option linter.all false
set_option maxRecDepth 100000
set_option maxHeartbeats 4000000
namespace Mir
open PySem PySem.Spec L2
section
variable {t : Trn} (gd : TnGd t)
include gd
end
section
variable {t : Trn} (gd : TnGd t)
include gd
end
end Mir
set_option Elab.async false
set_option linter.all false
set_option maxRecDepth 100000
set_option maxHeartbeats 4000000
namespace Mir
open PySem PySem.Spec L2
noncomputable section
abbrev bLeafOf (f3 : List D → R Ow) : Ev → SR := (sSeq (sSet 2 (eM (eM (eLc (eB (eM (eB (aCons (eVar 0) (aCons (eVar 1) aNil)) f3) viewD) itD) (gtTup 2 (gtCons (gtName 3) (gtCons (gtName 4) gtNil))) (eB (eBin gEq (eVar 4) (eTup aNil)) asB) (eM (eVar 3) Ow.d) (List.map (·.2) ([("name", 3), ("branches", 4)] : List (Str × Nat)))) viewD) Ow.d))
    (sRet (eM (eTup (aCons (eBin gIx (eVar 2) (eC (.int 0))) (aCons (eC (.int 0)) (aCons (eTup aNil) aNil)))) Ow.d)))
theorem leafOf_fin {w : Wood} {k : Str} {f3 : List D → R Ow} (h3 : ∃ o, f3 [encWd w, .str k] = .ok o ∧ viewD o = .list ((rowsOf w k).map encRw)) (hl : (rowsOf w k).length ≤ 1000) (hok : ∀ r ∈ rowsOf w k, ∀ z ∈ r.br, PyData.strOk z = true) (hb : ∃ r ∈ rowsOf w k, r.br = []) : finR (bLeafOf f3 (envOf 3 [encWd w, .str k])) = .ok (.d (encT (leafT w k))) := by
  have he : envOf 3 [encWd w, .str k] = [some (.d (encWd w)), some (.d (.str k)), none, none, none] := rfl
  rw [he]
  obtain ⟨o, o1, o2⟩ := h3
  have lc : (eLc (eB (eM (eB (aCons (eVar 0) (aCons (eVar 1) aNil)) f3) viewD) itD) (gtTup 2 (gtCons (gtName 3) (gtCons (gtName 4) gtNil))) (eB (eBin gEq (eVar 4) (eTup aNil)) asB) (eM (eVar 3) Ow.d) (List.map (·.2) ([("name", 3), ("branches", 4)] : List (Str × Nat)))) [some (.d (encWd w)), some (.d (.str k)), none, none, none] = .ok (.l (((rowsOf w k).filter fun r => r.br.isEmpty).map fun r => .d (.str r.nm))) := by
    refine eLc_of (ds := (rowsOf w k).map encRw) ?_ (by rw [List.length_map, sizeLine_eq]; omega) (lcR_filt encRw (fun r => r.br.isEmpty) _ (rowsOf w k) fun r hr => ?_)
    · have it : itD (.list ((rowsOf w k).map encRw)) = .ok ((rowsOf w k).map encRw) := rfl
      generalize PyData.list ((rowsOf w k).map encRw) = L at o2 it
      generalize encWd w = W at o1
      simp [o1, o2, it]
    · refine ⟨[some (.d (encWd w)), some (.d (.str k)), none, some (.d (.str r.nm)), some (.d (.tuple (r.br.map PyData.str)))], rfl, ?_, fun _ => rfl⟩
      have be := bare_eq (hok r hr)
      generalize PyData.tuple (r.br.map PyData.str) = B at be
      generalize encWd w = W
      simp [be, sizeLine_eq]
  have vw : viewD (.l (((rowsOf w k).filter fun r => r.br.isEmpty).map fun r => .d (.str r.nm))) = .list (((rowsOf w k).filter fun r => r.br.isEmpty).map fun r => .str r.nm) := viewD_of _ _
  refine fin_step (env1 := [some (.d (encWd w)), some (.d (.str k)), some (.d (.list (((rowsOf w k).filter fun r => r.br.isEmpty).map fun r => .str r.nm))), none, none]) (by
    rw [sSet_eq, eM_eq, eM_eq]
    refine (congrArg (fun r => R.st _ (R.map Ow.d (R.map viewD r)) _) lc).trans ?_
    rw [R.map_ok, R.map_ok, vw, R.st_ok]
    rfl) ?_
  have ne : 0 < ((rowsOf w k).filter fun r => r.br.isEmpty).length := by
    obtain ⟨r, hr, hb⟩ := hb
    exact List.length_pos_of_mem (List.mem_filter.mpr ⟨hr, by rw [hb]; rfl⟩)
  have h0 := List.getElem?_eq_getElem ne
  have i0 : gIx (.list (((rowsOf w k).filter fun r => r.br.isEmpty).map fun r => PyData.str r.nm)) (.int 0) = some (.str ((((rowsOf w k).filter fun r => r.br.isEmpty).map (·.nm)).getD 0 "")) := by
    show atI _ _ = _
    rw [List.getD_eq_getElem?_getD, List.getElem?_map, h0]
    exact atI_natD (k := 0) (by rw [List.getElem?_map, h0]; rfl)
  have e : encT (leafT w k) = .tuple [.str ((((rowsOf w k).filter fun r => r.br.isEmpty).map (·.nm)).getD 0 ""), .int 0, .tuple []] := by
    unfold leafT
    rw [encT_mk]
    rfl
  rw [e]
  generalize PyData.list (((rowsOf w k).filter fun r => r.br.isEmpty).map fun r => PyData.str r.nm) = L at i0
  generalize encWd w = W
  simp [i0, sizeLine_eq]
end
end Mir
set_option Elab.async false
set_option linter.all false
set_option maxRecDepth 100000
set_option maxHeartbeats 4000000
namespace Mir
open PySem PySem.Spec L2
noncomputable section
theorem sizeTs_app (a b : List Tr) : sizeTs (a ++ b) = sizeTs a + sizeTs b := by rw [sizeTs_sum, sizeTs_sum, sizeTs_sum, List.map_append, List.sum_append]
/-- what hangs below the first k heads, in places -/
def sz9 (bl : List (List Tr)) (k : Nat) : Nat := ((bl.take k).map sizeTs).sum
theorem sz9_set (T : Tr) : ∀ (bl : List (List Tr)) (k u : Nat) (b : List Tr), u < k → bl[u]? = some b → sz9 (bl.set u (b ++ [T])) k = sz9 bl k + sizeT T := by
  intro bl
  induction bl with
  | nil => intro k u b _ h; simp at h
  | cons x bl ih =>
    intro k u b hu hb
    obtain ⟨k, rfl⟩ : ∃ m, k = m + 1 := ⟨k - 1, by omega⟩
    cases u with
    | zero =>
      cases hb
      unfold sz9
      rw [List.set_cons_zero, List.take_succ_cons, List.take_succ_cons, List.map_cons, List.map_cons, List.sum_cons, List.sum_cons, sizeTs_app]
      have : sizeTs [T] = sizeT T := by rw [sizeTs_sum]; simp
      omega
    | succ u =>
      have := ih k u b (by omega) (by simpa using hb)
      unfold sz9 at this ⊢
      rw [List.set_cons_succ, List.take_succ_cons, List.take_succ_cons, List.map_cons, List.map_cons, List.sum_cons, List.sum_cons, this]
      omega
theorem sz9_succ {bl : List (List Tr)} {k : Nat} {b : List Tr} (h : bl[k]? = some b) : sz9 bl (k + 1) = sz9 bl k + sizeTs b := by
  unfold sz9
  rw [List.take_add_one, h, List.map_append, List.sum_append]
  simp
/-- the parts handed on at the spot -/
def parts9 (here : Bool) (way : Nat) (b : List Tr) : List Tr := if here = true ∧ way = 2 then b.drop 1 else if here = true ∧ way = 3 then b ++ b.take 1 else b
theorem parts9_size (here : Bool) (way : Nat) (b : List Tr) : sizeTs (parts9 here way b) ≤ sizeTs b + (if here = true then sizeTs b else 0) := by
  have tk : sizeTs (b.take 1) ≤ sizeTs b := by
    cases b with
    | nil => exact Nat.le_refl _
    | cons x b => simp [sizeTs]
  have dr : sizeTs (b.drop 1) ≤ sizeTs b := by
    cases b with
    | nil => exact Nat.le_refl _
    | cons x b => simp [sizeTs]
  unfold parts9
  split
  · rename_i c
    rw [if_pos c.1]
    omega
  · split
    · rename_i _ c
      rw [if_pos c.1, sizeTs_app]
      omega
    · omega
theorem parts9_mem {here : Bool} {way : Nat} {b : List Tr} {t : Tr} (h : t ∈ parts9 here way b) : t ∈ b := by
  unfold parts9 at h
  split at h
  · exact List.mem_of_mem_drop h
  · split at h
    · rcases List.mem_append.mp h with m | m
      · exact m
      · exact List.mem_of_mem_take m
    · exact h
theorem parts9_len (here : Bool) (way : Nat) (b : List Tr) : (parts9 here way b).length ≤ b.length + 1 := by
  unfold parts9
  split
  · rw [List.length_drop]; omega
  · split
    · rw [List.length_append, List.length_take]; omega
    · omega
/-- how the heads stand before head k is put in -/
structure Mad9 (n s k : Nat) (bl : List (List Tr)) : Prop where
  len : bl.length = n
  each : ∀ b ∈ bl, ∀ t ∈ b, okT t ∧ levT t ≤ 25 - min k 24
  bare : ∀ j, 24 ≤ j → ∀ b, bl[j]? = some b → b = []
  few : ∀ b ∈ bl, b.length ≤ n - k
  size : sz9 bl k ≤ if k ≤ s then 2 * (n - k) else n - k
theorem mad9_tree {n s k way : Nat} {bl : List (List Tr)} {b : List Tr} (h : Mad9 n s (k + 1) bl) (hn : n ≤ 200) (hk : k < n) (hb : bl[k]? = some b) {nm : Str} (hnm : PyData.strOk nm = true) (m : Int) :
    okT (.mk nm m (parts9 (k == s) way b)) ∧ levT (.mk nm m (parts9 (k == s) way b)) ≤ 25 - min k 24 ∧ sz9 bl k + sizeT (.mk nm m (parts9 (k == s) way b)) ≤ if k ≤ s then 2 * (n - k) else n - k := by
  have bm := List.mem_of_getElem? hb
  have hs := sz9_succ hb
  have sz := h.size
  have ps := parts9_size (k == s) way b
  have fw := h.few b bm
  have pl := parts9_len (k == s) way b
  refine ⟨?_, ?_, ?_⟩
  · rw [okT, okTs_iff]
    exact ⟨hnm, by omega, fun t ht => (h.each b bm t (parts9_mem ht)).1⟩
  · rw [levT]
    have lv : levTs (parts9 (k == s) way b) ≤ 25 - min (k + 1) 24 := levTs_of fun t ht => (h.each b bm t (parts9_mem ht)).2
    rcases Nat.lt_or_ge k 24 with c | c
    · omega
    · have be := h.bare k c b hb
      have lz : levTs (parts9 (k == s) way b) ≤ 0 := levTs_of fun t ht => by
        have := parts9_mem ht
        rw [be] at this
        cases this
      omega
  · rw [sizeT]
    by_cases c : k = s
    · subst c
      rw [if_pos (beq_self_eq_true k)] at ps
      rw [if_neg (by omega)] at sz
      rw [if_pos (Nat.le_refl k)]
      omega
    · rw [if_neg (by simp [c])] at ps
      by_cases d : k ≤ s
      · rw [if_pos (by omega)] at sz
        rw [if_pos d]
        omega
      · rw [if_neg (by omega)] at sz
        rw [if_neg d]
        omega
theorem mad9_step {n s k u : Nat} {bl : List (List Tr)} {bu : List Tr} {T : Tr} (h : Mad9 n s (k + 1) bl) (hk : k < n) (hu : u < k) (h24 : u < 24) (hbu : bl[u]? = some bu) (t1 : okT T) (t2 : levT T ≤ 25 - min k 24) (t3 : sz9 bl k + sizeT T ≤ if k ≤ s then 2 * (n - k) else n - k) : Mad9 n s k (bl.set u (bu ++ [T])) := by
  have bm := List.mem_of_getElem? hbu
  refine ⟨by rw [List.length_set]; exact h.len, fun b hb t ht => ?_, fun j hj b hb => h.bare j hj b (by rwa [List.getElem?_set_ne (by omega)] at hb), fun b hb => ?_, by rw [sz9_set T bl k u bu hu hbu]; exact t3⟩
  · rcases List.mem_or_eq_of_mem_set hb with m | rfl
    · have := h.each b m t ht
      exact ⟨this.1, by omega⟩
    · rcases List.mem_append.mp ht with m | m
      · have := h.each bu bm t m
        exact ⟨this.1, by omega⟩
      · cases List.mem_singleton.mp m
        exact ⟨t1, t2⟩
  · rcases List.mem_or_eq_of_mem_set hb with m | rfl
    · have := h.few b m
      omega
    · have := h.few bu bm
      rw [List.length_append, List.length_singleton]
      omega
theorem mad9_bare (n s : Nat) : Mad9 n s n (List.replicate n []) := by
  refine ⟨List.length_replicate, fun b hb t ht => ?_, fun j _ b hb => (List.mem_replicate.mp (List.mem_of_getElem? hb)).2, fun b hb => ?_, ?_⟩
  · rw [(List.mem_replicate.mp hb).2] at ht
    cases ht
  · rw [(List.mem_replicate.mp hb).2]
    exact Nat.zero_le _
  · have : sz9 (List.replicate n []) n = 0 := by
      unfold sz9
      rw [List.take_replicate, List.map_replicate]
      have z : sizeTs [] = 0 := rfl
      rw [z]
      simp
    rw [this]
    exact Nat.zero_le _
def blO (bl : List (List Tr)) : Ow := .l (bl.map fun b => .l ((b.map encT).map Ow.d))
def hdD (hs : List Hd) : D := .list (hs.map encHd)
abbrev md9F : Ev → SR := (sSeq (sSet 8 (eM (eM (eCa gList (aCons (eB (eIxO (eVarO 4) (eVar 7)) shD) aNil)) viewD) Ow.d))
    (sSeq (sSet 9 (eM (eBin gIx (eBin gIx (eVar 0) (eVar 7)) (eC (.int 0))) Ow.d))
    (sSeq (sIf (tAndE (eB (eBin gEq (eVar 7) (eVar 1)) asB) (eB (eBin gEq (eVar 2) (eC (.int 1))) asB))
    (sSet 9 (eM (eVar 3) Ow.d))
    sSkip)
    (sSeq (sIf (tAndE (eB (eBin gEq (eVar 7) (eVar 1)) asB) (eB (eBin gEq (eVar 2) (eC (.int 2))) asB))
    (sSet 8 (eM (eM (eSl (eVar 8) (eB (eC (.int 1)) asI) oNone) viewD) Ow.d))
    sSkip)
    (sSeq (sIf (tAndE (eB (eBin gEq (eVar 7) (eVar 1)) asB) (eB (eBin gEq (eVar 2) (eC (.int 3))) asB))
    (sSet 8 (eM (eM (eBinO gAdd (eVar 8) (eB (eSl (eVar 8) oNone (eB (eC (.int 1)) asI)) shD)) viewD) Ow.d))
    sSkip)
    (sSeq (sSet 6 (eM (eTup (aCons (eVar 9) (aCons (eBin gIx (eBin gIx (eVar 0) (eVar 7)) (eC (.int 1))) (aCons (eM (eCa gTuple (aCons (eVar 8) aNil)) viewD) aNil)))) Ow.d))
    (sApp1 4 (eBin gIx (eBin gIx (eVar 0) (eVar 7)) (eC (.int 2))) (eM (eVar 6) Ow.d))))))))
abbrev bMade9 : Ev → SR := (sSeq (sSet 4 (eLc (eB (eVar 0) itD) (gtName 5) cYes (eLst aNil) (List.map (·.2) ([("_law_head", 5)] : List (Str × Nat)))))
    (sSeq (sSet 6 (eM (eC .none) Ow.d))
    (sSeq (sFor (eB (aCons (eBin gSub (eM (eCa gLen (aCons (eVar 0) aNil)) viewD) (eC (.int 1))) (aCons (eB (eC (.int 1)) gNeg) (aCons (eB (eC (.int 1)) gNeg) aNil))) rg3) (gtName 7)
    md9F)
    (sRet (eM (eVar 6) Ow.d)))))
theorem spot9 (k s w j : Nat) (H N B x5 x6 x8 x9 : Option Ow) : (tAndE (eB (eBin gEq (eVar 7) (eVar 1)) asB) (eB (eBin gEq (eVar 2) (eC (.int (j : Nat)))) asB)) [H, some (.d (.int (s : Nat))), some (.d (.int (w : Nat))), N, B, x5, x6, some (.d (.int (k : Nat))), x8, x9] = .ok (decide (k = s ∧ w = j)) := by
  by_cases c : k = s
  · by_cases d : w = j
    · simp [c, d]
    · have d' : ((w : Int) == (j : Int)) = false := beq_eq_false_iff_ne.mpr (by omega)
      simp [c, d, d']
  · have c' : ((k : Int) == (s : Int)) = false := beq_eq_false_iff_ne.mpr (by omega)
    simp [c, c']
theorem md9_step {hs : List Hd} {h : Hd} {s w k : Nat} {nm : Str} {bl : List (List Tr)} {b bu : List Tr} (hk : hs[k]? = some h) (hb : bl[k]? = some b) (hbu : bl[h.up]? = some bu) (lb : b.length ≤ 200) (lbu : bu.length ≤ 200) (x5 x6 x8 x9 : Option Ow) :
    ∃ (z : Str) (y8 y9 : Option Ow), (z = h.nm ∨ z = nm) ∧ md9F [some (.d (hdD hs)), some (.d (.int (s : Nat))), some (.d (.int (w : Nat))), some (.d (.str nm)), some (blO bl), x5, x6, some (.d (.int (k : Nat))), x8, x9] = .nx [some (.d (hdD hs)), some (.d (.int (s : Nat))), some (.d (.int (w : Nat))), some (.d (.str nm)), some (blO (bl.set h.up (bu ++ [.mk z h.mrk (parts9 (k == s) w b)]))), x5, some (.d (encT (.mk z h.mrk (parts9 (k == s) w b)))), some (.d (.int (k : Nat))), y8, y9] := by
  have ix : gIx (hdD hs) (.int (k : Nat)) = some (encHd h) := by
    show atI (hs.map encHd) _ = _
    exact atI_natD (by rw [List.getElem?_map, hk]; rfl)
  have i0 : gIx (encHd h) (.int 0) = some (.str h.nm) := rfl
  have i1 : gIx (encHd h) (.int 1) = some (.int h.mrk) := rfl
  have i2 : gIx (encHd h) (.int 2) = some (.int (h.up : Nat)) := rfl
  have bx : ixO (blO bl) (.int (k : Nat)) = .ok (.l ((b.map encT).map Ow.d)) := by
    unfold blO
    rw [ixO_l, atI_natD (x := .l ((b.map encT).map Ow.d)) (by rw [List.getElem?_map, hb]; rfl)]
  have vw : ∀ l : List Tr, viewD (.l ((l.map encT).map Ow.d)) = .list (l.map encT) := fun l => by
    rw [List.map_map]
    exact viewD_of encT l
  let E : Ow → Option Ow → Option Ow → Option Ow → Ev := fun B y6 y8 y9 => [some (.d (hdD hs)), some (.d (.int (s : Nat))), some (.d (.int (w : Nat))), some (.d (.str nm)), some B, x5, y6, some (.d (.int (k : Nat))), y8, y9]
  obtain ⟨z, hz, s3⟩ : ∃ z : Str, (z = h.nm ∨ z = nm) ∧ sIf (tAndE (eB (eBin gEq (eVar 7) (eVar 1)) asB) (eB (eBin gEq (eVar 2) (eC (.int 1))) asB)) (sSet 9 (eM (eVar 3) Ow.d)) sSkip (E (blO bl) x6 (some (.d (.list (b.map encT)))) (some (.d (.str h.nm)))) = .nx (E (blO bl) x6 (some (.d (.list (b.map encT)))) (some (.d (.str z)))) := by
    have c := spot9 k s w 1 (some (.d (hdD hs))) (some (.d (.str nm))) (some (blO bl)) x5 x6 (some (.d (.list (b.map encT)))) (some (.d (.str h.nm)))
    by_cases d : k = s ∧ w = 1
    · refine ⟨nm, .inr rfl, ?_⟩
      rw [decide_eq_true d] at c
      rw [sIf_eq]
      refine (congrArg (fun r => R.st _ r _) c).trans ?_
      rw [R.st_ok, if_pos rfl]
      rfl
    · refine ⟨h.nm, .inl rfl, ?_⟩
      rw [decide_eq_false d] at c
      rw [sIf_eq]
      refine (congrArg (fun r => R.st _ r _) c).trans ?_
      rw [R.st_ok, if_neg Bool.false_ne_true]
      rfl
  refine ⟨z, some (.d (.list ((parts9 (k == s) w b).map encT))), some (.d (.str z)), hz, ?_⟩
  refine seq_nx (env1 := E (blO bl) x6 (some (.d (.list (b.map encT)))) x9) (by
    have v := vw b
    show sSet _ _ [_, _, _, _, _, _, _, _, _, _] = .nx [_, _, _, _, _, _, _, _, _, _]
    generalize b.map encT = BL at v bx ⊢
    generalize blO bl = BO at bx ⊢
    generalize hdD hs = HD
    simp [bx, v]) ?_
  refine seq_nx (env1 := E (blO bl) x6 (some (.d (.list (b.map encT)))) (some (.d (.str h.nm)))) (by
    show sSet _ _ [_, _, _, _, _, _, _, _, _, _] = .nx [_, _, _, _, _, _, _, _, _, _]
    generalize encHd h = EH at ix i0
    generalize hdD hs = HD at ix
    generalize PyData.list (b.map encT) = BL
    generalize blO bl = BO
    simp [ix, i0]) ?_
  refine seq_nx s3 ?_
  refine seq_nx (env1 := E (blO bl) x6 (some (.d (.list ((if k = s ∧ w = 2 then b.drop 1 else b).map encT)))) (some (.d (.str z)))) (by
    have c := spot9 k s w 2 (some (.d (hdD hs))) (some (.d (.str nm))) (some (blO bl)) x5 x6 (some (.d (.list (b.map encT)))) (some (.d (.str z)))
    rw [sIf_eq]
    refine (congrArg (fun r => R.st _ r _) c).trans ?_
    rw [R.st_ok]
    by_cases d : k = s ∧ w = 2
    · rw [decide_eq_true d, if_pos rfl, if_pos d]
      have v := vw (b.drop 1)
      have sl : gSl (.list (b.map encT)) (some ((1 : Nat) : Int)) none = some (.l (((b.drop 1).map encT).map Ow.d)) := by rw [gSl_list, cutL_drop, ← List.map_drop]
      show sSet _ _ [_, _, _, _, _, _, _, _, _, _] = .nx [_, _, _, _, _, _, _, _, _, _]
      generalize ((b.drop 1).map encT) = L2 at v sl ⊢
      generalize Ow.l (L2.map Ow.d) = OL at v sl
      generalize PyData.list (b.map encT) = BL at sl ⊢
      generalize blO bl = BO
      generalize hdD hs = HD
      change gSl BL (some 1) none = _ at sl
      simp [sl, v]
    · rw [decide_eq_false d, if_neg Bool.false_ne_true, if_neg d]
      rfl) ?_
  refine seq_nx (env1 := E (blO bl) x6 (some (.d (.list ((parts9 (k == s) w b).map encT)))) (some (.d (.str z)))) (by
    have c := spot9 k s w 3 (some (.d (hdD hs))) (some (.d (.str nm))) (some (blO bl)) x5 x6 (some (.d (.list ((if k = s ∧ w = 2 then b.drop 1 else b).map encT)))) (some (.d (.str z)))
    rw [sIf_eq]
    refine (congrArg (fun r => R.st _ r _) c).trans ?_
    rw [R.st_ok]
    by_cases d : k = s ∧ w = 3
    · have d2 : ¬ (k = s ∧ w = 2) := by omega
      have pe : parts9 (k == s) w b = b ++ b.take 1 := by
        unfold parts9
        rw [if_neg (by omega), if_pos ⟨by rw [d.1]; exact beq_self_eq_true s, d.2⟩]
      rw [decide_eq_true d, if_pos rfl, if_neg d2, pe]
      have v := vw (b ++ b.take 1)
      have sl : gSl (.list (b.map encT)) none (some ((1 : Nat) : Int)) = some (.l (((b.take 1).map encT).map Ow.d)) := by rw [gSl_list, cutL_take, ← List.map_take]
      have sh : shD (.l (((b.take 1).map encT).map Ow.d)) = .ok (.list ((b.take 1).map encT)) := shD_l _
      have ga : gAdd (.list (b.map encT)) (.list ((b.take 1).map encT)) = some (.l (((b ++ b.take 1).map encT).map Ow.d)) := by
        rw [List.map_append]
        exact if_pos (by rw [List.length_map, List.length_map, List.length_take, sizeLine_eq]; omega)
      show sSet _ _ [_, _, _, _, _, _, _, _, _, _] = .nx [_, _, _, _, _, _, _, _, _, _]
      generalize ((b ++ b.take 1).map encT) = L2 at v ga ⊢
      generalize Ow.l (L2.map Ow.d) = OL at v ga
      generalize PyData.list ((b.take 1).map encT) = TL at sh ga
      generalize Ow.l (((b.take 1).map encT).map Ow.d) = OT at sl sh
      generalize PyData.list (b.map encT) = BL at sl ga ⊢
      generalize blO bl = BO
      generalize hdD hs = HD
      change gSl BL none (some 1) = _ at sl
      simp [sl, v, sh, ga]
    · have pe : parts9 (k == s) w b = if k = s ∧ w = 2 then b.drop 1 else b := by
        unfold parts9
        by_cases e : k = s ∧ w = 2
        · rw [if_pos e, if_pos ⟨by rw [e.1]; exact beq_self_eq_true s, e.2⟩]
        · rw [if_neg e, if_neg (fun h => e ⟨eq_of_beq h.1, h.2⟩), if_neg (fun h => d ⟨eq_of_beq h.1, h.2⟩)]
      rw [decide_eq_false d, if_neg Bool.false_ne_true, pe]
      rfl) ?_
  refine seq_nx (env1 := E (blO bl) (some (.d (encT (.mk z h.mrk (parts9 (k == s) w b))))) (some (.d (.list ((parts9 (k == s) w b).map encT)))) (some (.d (.str z)))) (by
    rw [encT_mk]
    show sSet _ _ [_, _, _, _, _, _, _, _, _, _] = .nx [_, _, _, _, _, _, _, _, _, _]
    generalize (parts9 (k == s) w b).map encT = PS
    generalize encHd h = EH at ix i1
    generalize hdD hs = HD at ix
    generalize blO bl = BO
    simp [ix, i1, sizeLine_eq]) ?_
  generalize (Tr.mk z h.mrk (parts9 (k == s) w b)) = T
  generalize some (Ow.d (.list ((parts9 (k == s) w b).map encT))) = y8
  let F : Tr → Ow := fun t => .d (encT t)
  let G : List Tr → Ow := fun b => .l ((b.map encT).map Ow.d)
  have ul := (List.getElem?_eq_some_iff.mp hbu).1
  have ci : (eBin gIx (eBin gIx (eVar 0) (eVar 7)) (eC (.int 2))) (E (blO bl) (some (.d (encT T))) y8 (some (.d (.str z)))) = .ok (.int (h.up : Nat)) := by
    show eBin _ _ _ [_, _, _, _, _, _, _, _, _, _] = _
    generalize encHd h = EH at ix i2
    generalize hdD hs = HD at ix
    generalize blO bl = BO
    generalize encT T = ET
    simp [ix, i2]
  have e1 : ixN (bl.map G).length ((h.up : Nat) : Int) = some h.up := ixN_nat (by rw [List.length_map]; exact ul)
  have e2 : (bl.map G)[h.up]? = some (.l ((bu.map encT).map Ow.d)) := by rw [List.getElem?_map, hbu]; rfl
  have e3 : (eM (eVar 6) Ow.d) (E (blO bl) (some (.d (encT T))) y8 (some (.d (.str z)))) = .ok (.d (encT T)) := rfl
  unfold sApp1 own1
  rw [ownL_of (os := bl.map G) _ rfl, ci, R.st_ok]
  show (match ixN (bl.map G).length ((h.up : Nat) : Int) with
    | some j => match (bl.map G)[j]? with
      | some (.l os1) => _
      | _ => SR.no
    | none => SR.no) = _
  rw [e1]
  show (match (bl.map G)[h.up]? with
      | some (.l os1) => _
      | _ => SR.no) = _
  rw [e2]
  show R.st _ ((eM (eVar 6) Ow.d) _) _ = _
  rw [e3, R.st_ok, if_pos (by rw [List.length_map, List.length_map, sizeLine_eq]; omega)]
  have e4 : (Ow.l ((bl.map G).set h.up (.l ((bu.map encT).map Ow.d ++ [.d (encT T)])))) = blO (bl.set h.up (bu ++ [T])) := by
    unfold blO
    rw [List.map_set, List.map_append, List.map_append]
    rfl
  rw [e4]
  rfl
theorem made9_fin {hs : List Hd} (hh : HdsOk hs) (h0 : 0 < hs.length) (hl : hs.length ≤ 200) (s w : Nat) {nm : Str} (hnm : PyData.strOk nm = true) :
    ∃ T : Tr, okT T ∧ levT T ≤ 25 ∧ sizeT T ≤ 2 * hs.length ∧ finR (bMade9 (envOf 6 [hdD hs, .int (s : Nat), .int (w : Nat), .str nm])) = .ok (.d (encT T)) := by
  obtain ⟨n, hn⟩ : ∃ n, n = hs.length := ⟨_, rfl⟩
  rw [← hn] at h0 hl ⊢
  have he : envOf 6 [hdD hs, .int (s : Nat), .int (w : Nat), .str nm] = [some (.d (hdD hs)), some (.d (.int (s : Nat))), some (.d (.int (w : Nat))), some (.d (.str nm)), none, none, none, none, none, none] := rfl
  rw [he]
  have hln : gLen [hdD hs] = some (.d (.int (n : Nat))) := by
    unfold hdD
    rw [gLen_list, List.length_map, hn]
  obtain ⟨env', lp, ⟨bl, x6, x7, x8, x9, rfl, _, _, fin⟩⟩ := forL_ind (g := gtName 7) (f := md9F) (rangeCD ((n : Int) - 1) (-1) n)
    (fun i env => ∃ (bl : List (List Tr)) (x6 x7 x8 x9 : Option Ow), env = [some (.d (hdD hs)), some (.d (.int (s : Nat))), some (.d (.int (w : Nat))), some (.d (.str nm)), some (blO bl), none, x6, x7, x8, x9] ∧ bl.length = n ∧ (i < n → Mad9 n s (n - i) bl) ∧ (i = n → ∃ T : Tr, x6 = some (.d (encT T)) ∧ okT T ∧ levT T ≤ 25 ∧ sizeT T ≤ 2 * n)) (fun i d env hd ⟨bl, x6, x7, x8, x9, e, bn, md, _⟩ => by
      obtain ⟨il, rfl⟩ := rangeCD_at hd
      subst e
      obtain ⟨k, hk⟩ : ∃ k, k = n - 1 - i := ⟨_, rfl⟩
      have ek : (n : Int) - 1 + (i : Nat) * -1 = (k : Nat) := by omega
      rw [ek]
      have m1 : Mad9 n s (k + 1) bl := by
        have := md il
        rwa [show n - i = k + 1 by omega] at this
      have kl : k < hs.length := by omega
      obtain ⟨h, eh⟩ : ∃ h, hs[k]? = some h := ⟨_, List.getElem?_eq_getElem kl⟩
      obtain ⟨hok, hup, h24⟩ := hh k h eh
      obtain ⟨b, eb⟩ : ∃ b, bl[k]? = some b := ⟨_, List.getElem?_eq_getElem (by omega)⟩
      obtain ⟨bu, ebu⟩ : ∃ b, bl[h.up]? = some b := ⟨_, List.getElem?_eq_getElem (by omega)⟩
      have f1 := m1.few b (List.mem_of_getElem? eb)
      have f2 := m1.few bu (List.mem_of_getElem? ebu)
      obtain ⟨z, y8, y9, hz, st⟩ := md9_step (s := s) (w := w) (nm := nm) eh eb ebu (by omega) (by omega) none x6 x8 x9
      have zo : PyData.strOk z = true := by
        rcases hz with rfl | rfl
        · exact hok
        · exact hnm
      obtain ⟨t1, t2, t3⟩ := mad9_tree (way := w) m1 hl (by omega) eb zo h.mrk
      refine ⟨_, rfl, _, .inl st, _, _, _, _, _, rfl, by rw [List.length_set]; exact bn, fun c => ?_, fun c => ⟨_, rfl, t1, by omega, ?_⟩⟩
      · have := mad9_step m1 (by omega) (u := h.up) (by omega) h24 ebu t1 t2 t3
        rwa [show n - (i + 1) = k by omega]
      · split at t3 <;> omega) [some (.d (hdD hs)), some (.d (.int (s : Nat))), some (.d (.int (w : Nat))), some (.d (.str nm)), some (blO (List.replicate n [])), none, some (.d .none), none, none, none] ⟨List.replicate n [], _, _, _, _, rfl, List.length_replicate, fun _ => mad9_bare n s, fun c => by omega⟩
  obtain ⟨T, rfl, t1, t2, t3⟩ := fin (by simp [rangeCD])
  refine ⟨T, t1, t2, t3, ?_⟩
  refine fin_step (env1 := [some (.d (hdD hs)), some (.d (.int (s : Nat))), some (.d (.int (w : Nat))), some (.d (.str nm)), some (blO (List.replicate n [])), none, none, none, none, none]) (by
    have lc : (eLc (eB (eVar 0) itD) (gtName 5) cYes (eLst aNil) (List.map (·.2) ([("_law_head", 5)] : List (Str × Nat)))) [some (.d (hdD hs)), some (.d (.int (s : Nat))), some (.d (.int (w : Nat))), some (.d (.str nm)), none, none, none, none, none, none] = .ok (blO (List.replicate n [])) := by
      have eb : blO (List.replicate n []) = .l ((hs.map encHd).map fun _ => Ow.l []) := by
        unfold blO
        rw [List.map_replicate, hn, List.map_const', List.length_map]
        rfl
      rw [eb]
      refine eLc_of (ds := hs.map encHd) (by
        have i2 : itD (hdD hs) = .ok (hs.map encHd) := rfl
        generalize hdD hs = HD at i2
        simp [i2]) (by rw [List.length_map, sizeLine_eq]; omega) (lcR_all (fun _ => Ow.l []) _ fun d hd => ?_)
      generalize hdD hs = HD
      exact ⟨[some (.d HD), some (.d (.int (s : Nat))), some (.d (.int (w : Nat))), some (.d (.str nm)), none, some (.d d), none, none, none, none], rfl, rfl, by simp [sizeLine_eq]⟩
    rw [sSet_eq, lc, R.st_ok]
    rfl) ?_
  refine fin_step (env1 := [some (.d (hdD hs)), some (.d (.int (s : Nat))), some (.d (.int (w : Nat))), some (.d (.str nm)), some (blO (List.replicate n [])), none, some (.d .none), none, none, none]) rfl ?_
  refine fin_step (by
    have rg := rg3_all n (by omega)
    have it : (eB (aCons (eBin gSub (eM (eCa gLen (aCons (eVar 0) aNil)) viewD) (eC (.int 1))) (aCons (eB (eC (.int 1)) gNeg) (aCons (eB (eC (.int 1)) gNeg) aNil))) rg3) [some (.d (hdD hs)), some (.d (.int (s : Nat))), some (.d (.int (w : Nat))), some (.d (.str nm)), some (blO (List.replicate n [])), none, some (.d .none), none, none, none] = .ok (rangeCD ((n : Int) - 1) (-1) n) := by
      generalize hdD hs = HD at hln
      generalize blO (List.replicate n []) = BO
      generalize rangeCD ((n : Int) - 1) (-1) n = RC at rg ⊢
      simp [hln, rg]
    rw [sFor_eq, it, R.st_ok, lp]) ?_
  rfl
end
end Mir
set_option Elab.async false
set_option linter.all false
set_option maxRecDepth 100000
set_option maxHeartbeats 4000000
namespace Mir
open PySem PySem.Spec L2
noncomputable section
abbrev lrIn : Ev → SR := (sIf (tAndE (eB (eBin gEq (eVar 3) (eVar 1)) asB) (eB (eBin gEq (eBin gIx (eVar 5) (eC (.int 0))) (eVar 2)) asB))
    (sRet (eM (eBin gIx (eVar 5) (eC (.int 1))) Ow.d))
    sSkip)
abbrev bLawRow9 : Ev → SR := (sSeq (sFor (eB (eVar 0) itD) (gtTup 2 (gtCons (gtName 3) (gtCons (gtName 4) gtNil)))
    (sFor (eB (eVar 4) itD) (gtName 5)
    lrIn))
    (sRet (eM (eC .none) Ow.d)))
/-- the row sought in every kind of that name -/
def brIn (k nm : Str) (p : Str × List Rw) : Option Ow := if p.1 == k then (brOf p.2 nm).map fun b => Ow.d (brD b) else none
theorem brIn_find (k nm : Str) : ∀ w : Wood, (w.map (·.1)).Nodup → w.findSome? (brIn k nm) = (brOf (rowsOf w k) nm).map fun b => Ow.d (brD b)
  | [], _ => rfl
  | p :: w, h => by
    rw [List.map_cons, List.nodup_cons] at h
    rw [List.findSome?_cons, brIn, rowsOf]
    cases c : p.1 == k with
    | true =>
      rw [if_pos rfl, cond_true]
      cases hb : brOf p.2 nm with
      | some b => rfl
      | none =>
        rw [Option.map_none]
        have e : p.1 = k := eq_of_beq c
        show w.findSome? (brIn k nm) = none
        rw [List.findSome?_eq_none_iff]
        intro q hq
        unfold brIn
        rw [if_neg]
        intro d
        exact h.1 (by rw [e, ← eq_of_beq d]; exact List.mem_map_of_mem hq)
    | false =>
      rw [if_neg Bool.false_ne_true, cond_false]
      exact brIn_find k nm w h.2
theorem lr_kind (k nm : Str) (W : D) (p : Str × List Rw) (x5 : Option Ow) : ∃ y5 : Option Ow, (sFor (eB (eVar 4) itD) (gtName 5) lrIn) [some (.d W), some (.d (.str k)), some (.d (.str nm)), some (.d (.str p.1)), some (.d (rwsD p.2)), x5] = orRt (brIn k nm p) [some (.d W), some (.d (.str k)), some (.d (.str nm)), some (.d (.str p.1)), some (.d (rwsD p.2)), y5] := by
  obtain ⟨env', ⟨y5, rfl⟩, lp⟩ := forL_first (g := gtName 5) (f := lrIn) encRw (fun r => if p.1 == k then (if r.nm == nm then some (Ow.d (brD r.br)) else none) else none) (fun env => ∃ x5, env = [some (.d W), some (.d (.str k)), some (.d (.str nm)), some (.d (.str p.1)), some (.d (rwsD p.2)), x5]) p.2 (fun r _ env ⟨x5, e⟩ => by
      subst e
      refine ⟨[some (.d W), some (.d (.str k)), some (.d (.str nm)), some (.d (.str p.1)), some (.d (rwsD p.2)), some (.d (encRw r))], rfl, [some (.d W), some (.d (.str k)), some (.d (.str nm)), some (.d (.str p.1)), some (.d (rwsD p.2)), some (.d (encRw r))], ⟨_, rfl⟩, ?_⟩
      have i0 : gIx (encRw r) (.int 0) = some (.str r.nm) := rfl
      have i1 := rw_ix1 r
      generalize brD r.br = B at i1
      generalize encRw r = ER at i0 i1
      generalize rwsD p.2 = RD
      cases c : p.1 == k <;> cases d : r.nm == nm <;> simp [gEq_str, c, d, i0, i1, orRt]) [some (.d W), some (.d (.str k)), some (.d (.str nm)), some (.d (.str p.1)), some (.d (rwsD p.2)), x5] ⟨x5, rfl⟩
  refine ⟨y5, ?_⟩
  have e : (p.2.findSome? fun r => if p.1 == k then (if r.nm == nm then some (Ow.d (brD r.br)) else none) else none) = brIn k nm p := by
    unfold brIn
    cases c : p.1 == k with
    | true => simp only [if_true]; exact brOf_find nm p.2
    | false => simp
  rw [e] at lp
  have it : (eB (eVar 4) itD) [some (.d W), some (.d (.str k)), some (.d (.str nm)), some (.d (.str p.1)), some (.d (rwsD p.2)), x5] = .ok (p.2.map encRw) := rfl
  rw [sFor_eq, it, R.st_ok, lp]
theorem lawRow9_fin {w : Wood} (hk : (w.map (·.1)).Nodup) (k nm : Str) : finR (bLawRow9 (envOf 3 [encWd w, .str k, .str nm])) = .ok (.d (obD (brOf (rowsOf w k) nm))) := by
  have he : envOf 3 [encWd w, .str k, .str nm] = [some (.d (encWd w)), some (.d (.str k)), some (.d (.str nm)), none, none, none] := rfl
  rw [he]
  obtain ⟨env', ⟨x3, x4, x5, rfl⟩, lp⟩ := forL_first (g := gtTup 2 (gtCons (gtName 3) (gtCons (gtName 4) gtNil))) (f := sFor (eB (eVar 4) itD) (gtName 5) lrIn) encKd (brIn k nm) (fun env => ∃ x3 x4 x5, env = [some (.d (encWd w)), some (.d (.str k)), some (.d (.str nm)), x3, x4, x5]) w (fun p _ env ⟨x3, x4, x5, e⟩ => by
      subst e
      obtain ⟨y5, e5⟩ := lr_kind k nm (encWd w) p x5
      exact ⟨[some (.d (encWd w)), some (.d (.str k)), some (.d (.str nm)), some (.d (.str p.1)), some (.d (rwsD p.2)), x5], rfl, _, ⟨_, _, _, rfl⟩, e5⟩) [some (.d (encWd w)), some (.d (.str k)), some (.d (.str nm)), none, none, none] ⟨none, none, none, rfl⟩
  rw [brIn_find k nm w hk] at lp
  have it : (eB (eVar 0) itD) [some (.d (encWd w)), some (.d (.str k)), some (.d (.str nm)), none, none, none] = .ok (w.map encKd) := rfl
  show finR (sSeq _ _ _) = _
  rw [sSeq_eq, sFor_eq, it, R.st_ok, lp]
  cases brOf (rowsOf w k) nm with
  | none => simp [orRt, obD]
  | some i => simp [orRt, obD]
end
end Mir
set_option Elab.async false
set_option linter.all false
set_option maxRecDepth 100000
set_option maxHeartbeats 4000000
namespace Mir
open PySem PySem.Spec L2
noncomputable section
def encKT (q : Str × Tr) : D := .tuple [.str q.1, encT q.2]
def ktO (ts : List (Str × Tr)) : Ow := .l ((ts.map encKT).map Ow.d)
/-- what may stand in the stack -/
def KtOk (w : Wood) (q : Str × Tr) : Prop := PyData.strOk q.1 = true ∧ okT q.2 ∧ levT q.2 ≤ 25
theorem nice_kt {w : Wood} {ts : List (Str × Tr)} (h : ∀ q ∈ ts, KtOk w q) : Nice (.list (ts.map encKT)) := nice_list (n := 60) (fun d hd => by
  obtain ⟨q, hq, rfl⟩ := List.mem_map.mp hd
  obtain ⟨a, b, c⟩ := h q hq
  have d1 := can_encT q.2 b
  have d2 := depth_encT q.2
  refine ⟨?_, ?_⟩
  · rw [encKT, PyData.canLay0, PyData.canLayAll0, PyData.canLayAll0, can_s a, d1]
    rfl
  · simp [encKT, PyData.depth, PyData.depthAll]
    omega) (by decide)
theorem kt_ne {w : Wood} {ts : List (Str × Tr)} (h : ∀ q ∈ ts, KtOk w q) : gNe (.list (ts.map encKT)) (.list []) = some (.bool (!ts.isEmpty)) := by
  have n0 : Nice (.list []) := ⟨rfl, by simp [PyData.depth, PyData.depthAll]⟩
  rw [gNe_nice (nice_kt h) n0]
  cases ts with
  | nil => rw [List.map_nil, eqv_self n0]; rfl
  | cons d ds => rfl
abbrev is9C : Ev → R Bool := (eB (eBin gNe (eM (eVarO 3) viewD) (eM (eLst aNil) viewD)) asB)
abbrev is9B (f7 : List D → R Ow) : Ev → SR := (sSeq (sXAsg (gtTup 2 (gtCons (gtName 4) (gtCons (gtName 5) gtNil))) (xPop 3))
    (sSeq (sSet 6 (eM (eM (eB (aCons (eVar 0) (aCons (eVar 4) (aCons (eBin gIx (eVar 5) (eC (.int 0))) aNil))) f7) viewD) Ow.d))
    (sSeq (sIf (tOrE (eB (eBin gIsN (eVar 6) (eC .none)) asB) (eB (eBin gNe (eM (eCa gLen (aCons (eVar 6) aNil)) viewD) (eM (eCa gLen (aCons (eBin gIx (eVar 5) (eC (.int 2))) aNil)) viewD)) asB))
    (sRet (eM (eC (.bool false)) Ow.d))
    sSkip)
    (sFor (eB (aCons (eM (eCa gLen (aCons (eVar 6) aNil)) viewD) aNil) rg1) (gtName 7)
    (sApp 3 (eM (eTup (aCons (eBin gIx (eVar 6) (eVar 7)) (aCons (eBin gIx (eBin gIx (eVar 5) (eC (.int 2))) (eVar 7)) aNil))) Ow.d))))))
theorem viewD_kt (ts : List (Str × Tr)) : viewD (ktO ts) = .list (ts.map encKT) := by
  have := viewD_of encKT ts
  unfold ktO
  rw [List.map_map]
  exact this
theorem is9C_ok {w : Wood} {ts : List (Str × Tr)} (h : ∀ q ∈ ts, KtOk w q) (W K T x4 x5 x6 x7 : Option Ow) : is9C [W, K, T, some (ktO ts), x4, x5, x6, x7] = .ok (!ts.isEmpty) := by
  have e1 := kt_ne h
  have e2 := viewD_kt ts
  generalize PyData.list (ts.map encKT) = TL at e1 e2
  generalize ktO ts = TO at e2 ⊢
  generalize (!ts.isEmpty) = B at e1 ⊢
  simp [e1, e2, sizeLine_eq]
/-- one tree looked at -/
theorem is9B_ok {w : Wood} {f7 : List D → R Ow} (h7 : ∀ k nm, f7 [encWd w, .str k, .str nm] = .ok (.d (obD (brOf (rowsOf w k) nm)))) (K T : D) (ts : List (Str × Tr)) (k nm : Str) (mk : Int) (bs : List Tr) (hl : ts.length ≤ 1000) (hlen : ∀ ks, brOf (rowsOf w k) nm = some ks → ks.length ≤ 100000) (x4 x5 x6 x7 : Option Ow) :
    ∃ y7, is9B f7 [some (.d (encWd w)), some (.d K), some (.d T), some (ktO (ts ++ [(k, .mk nm mk bs)])), x4, x5, x6, x7] = match brOf (rowsOf w k) nm with
      | none => .rt (.d (.bool false)) [some (.d (encWd w)), some (.d K), some (.d T), some (ktO ts), some (.d (.str k)), some (.d (encT (.mk nm mk bs))), some (.d .none), x7]
      | some ks => if ks.length = bs.length then .nx [some (.d (encWd w)), some (.d K), some (.d T), some (ktO (ts ++ ks.zip bs)), some (.d (.str k)), some (.d (encT (.mk nm mk bs))), some (.d (brD ks)), y7]
        else .rt (.d (.bool false)) [some (.d (encWd w)), some (.d K), some (.d T), some (ktO ts), some (.d (.str k)), some (.d (encT (.mk nm mk bs))), some (.d (brD ks)), x7] := by
  have pop : xPop 3 [some (.d (encWd w)), some (.d K), some (.d T), some (ktO (ts ++ [(k, .mk nm mk bs)])), x4, x5, x6, x7] = .ok (encKT (k, .mk nm mk bs), [some (.d (encWd w)), some (.d K), some (.d T), some (ktO ts), x4, x5, x6, x7]) := by
    refine xPop_of (dk := ts.map encKT) (d := encKT (k, .mk nm mk bs)) ?_
    show some (some (ktO (ts ++ [(k, .mk nm mk bs)]))) = _
    unfold ktO
    rw [List.map_append]
    rfl
  let E : Ow → Option Ow → Option Ow → Option Ow → Option Ow → Ev := fun TO y4 y5 y6 y7 => [some (.d (encWd w)), some (.d K), some (.d T), some TO, y4, y5, y6, y7]
  have s1 : sXAsg (gtTup 2 (gtCons (gtName 4) (gtCons (gtName 5) gtNil))) (xPop 3) (E (ktO (ts ++ [(k, .mk nm mk bs)])) x4 x5 x6 x7) = .nx (E (ktO ts) (some (.d (.str k))) (some (.d (encT (.mk nm mk bs)))) x6 x7) := by
    show sXAsg _ _ [_, _, _, _, _, _, _, _] = _
    rw [sXAsg_eq, pop]
    rfl
  have i0 : gIx (encT (.mk nm mk bs)) (.int 0) = some (.str nm) := t_ix0 nm mk bs
  have i2 : gIx (encT (.mk nm mk bs)) (.int 2) = some (.tuple (bs.map encT)) := t_ix2 nm mk bs
  have l2 : gLen [.tuple (bs.map encT)] = some (.d (.int (bs.length : Nat))) := by
    have := tup_len (bs.map encT)
    rwa [List.length_map] at this
  have e7 := h7 k nm
  have s2 : sSet 6 (eM (eM (eB (aCons (eVar 0) (aCons (eVar 4) (aCons (eBin gIx (eVar 5) (eC (.int 0))) aNil))) f7) viewD) Ow.d) (E (ktO ts) (some (.d (.str k))) (some (.d (encT (.mk nm mk bs)))) x6 x7) = .nx (E (ktO ts) (some (.d (.str k))) (some (.d (encT (.mk nm mk bs)))) (some (.d (obD (brOf (rowsOf w k) nm)))) x7) := by
    show sSet _ _ [_, _, _, _, _, _, _, _] = .nx [_, _, _, _, _, _, _, _]
    generalize obD (brOf (rowsOf w k) nm) = OB at e7 ⊢
    generalize encT (.mk nm mk bs) = ET at i0
    generalize ktO ts = TO
    generalize encWd w = W at e7
    simp [i0, e7]
  cases hb : brOf (rowsOf w k) nm with
  | none =>
    rw [hb] at s2
    refine ⟨none, ?_⟩
    refine seq_nx s1 (seq_nx s2 ?_)
    show (sSeq _ _) [_, _, _, _, _, _, some (.d .none), _] = _
    generalize encT (.mk nm mk bs) = ET
    generalize ktO ts = TO
    generalize encWd w = W
    simp [isNone]
  | some ks =>
    rw [hb] at s2
    have nn : isNone (brD ks) = false := rfl
    have lk : gLen [brD ks] = some (.d (.int (ks.length : Nat))) := by
      have := tup_len (ks.map PyData.str)
      rwa [List.length_map] at this
    by_cases c : ks.length = bs.length
    · have bl : ks.length ≤ 100000 := hlen ks hb
      obtain ⟨env', s8, x7', he⟩ := forL_ind (g := gtName 7) (f := (sApp 3 (eM (eTup (aCons (eBin gIx (eVar 6) (eVar 7)) (aCons (eBin gIx (eBin gIx (eVar 5) (eC (.int 2))) (eVar 7)) aNil))) Ow.d))) (rangeD 0 ks.length)
        (fun i env => ∃ x7 : Option Ow, env = E (ktO (ts ++ (ks.zip bs).take i)) (some (.d (.str k))) (some (.d (encT (.mk nm mk bs)))) (some (.d (brD ks))) x7) (fun i d env hd hi => by
          obtain ⟨y, rfl⟩ := hi
          obtain ⟨il, rfl⟩ := rangeD_at hd
          have ez : (0 : Int) + (i : Nat) = (i : Nat) := by omega
          rw [ez]
          have ka : ks[i]? = some ks[i] := List.getElem?_eq_getElem il
          have bi : i < bs.length := by omega
          have ba : bs[i]? = some bs[i] := List.getElem?_eq_getElem bi
          have za : (ks.zip bs)[i]? = some (ks[i], bs[i]) := by
            rw [List.getElem?_zip_eq_some]
            exact ⟨ka, ba⟩
          have tk : (ks.zip bs).take (i + 1) = (ks.zip bs).take i ++ [(ks[i], bs[i])] := by rw [List.take_add_one, za]; rfl
          refine ⟨_, rfl, _, .inl ?_, some (.d (.int (i : Nat))), rfl⟩
          have g1 : gIx (brD ks) (.int (i : Nat)) = some (.str ks[i]) := by
            show atI (ks.map PyData.str) _ = _
            exact atI_natD (by rw [List.getElem?_map, ka]; rfl)
          have g2 : gIx (.tuple (bs.map encT)) (.int (i : Nat)) = some (encT bs[i]) := by
            show atI (bs.map encT) _ = _
            exact atI_natD (by rw [List.getElem?_map, ba]; rfl)
          have ls : (ts ++ (ks.zip bs).take i).length < 16777216 := by rw [List.length_append, List.length_take, List.length_zip]; omega
          rw [tk, ← List.append_assoc]
          generalize (ts ++ (ks.zip bs).take i) = tz at ls ⊢
          generalize ks[i] = kk at g1 ⊢
          generalize bs[i] = bb at g2 ⊢
          show sApp _ _ [_, _, _, _, _, _, _, _] = .nx [_, _, _, _, _, _, _, _]
          generalize brD ks = BD at g1 ⊢
          generalize encT (.mk nm mk bs) = ET at i2 ⊢
          generalize PyData.tuple (bs.map encT) = TB at i2 g2
          generalize encWd w = W
          simp [g1, g2, i2, ls, encKT, ktO, sizeLine_eq]) (E (ktO ts) (some (.d (.str k))) (some (.d (encT (.mk nm mk bs)))) (some (.d (brD ks))) x7) ⟨x7, by rw [List.take_zero, List.append_nil]⟩
      have rl : (rangeD 0 ks.length).length = (ks.zip bs).length := by simp [rangeD, List.length_zip, c]
      rw [rl, List.take_length] at he
      subst he
      refine ⟨x7', ?_⟩
      refine seq_nx s1 (seq_nx s2 ?_)
      have c' : ((ks.length : Int) == (bs.length : Int)) = true := by rw [c]; exact beq_self_eq_true _
      show (sSeq _ _) _ = (if _ then _ else _)
      rw [if_pos c]
      refine seq_nx (env1 := E (ktO ts) (some (.d (.str k))) (some (.d (encT (.mk nm mk bs)))) (some (.d (brD ks))) x7) (by
        show sIf _ _ _ [_, _, _, _, _, _, some (.d (brD ks)), _] = .nx [_, _, _, _, _, _, _, _]
        generalize brD ks = BD at nn lk ⊢
        generalize encT (.mk nm mk bs) = ET at i2 ⊢
        generalize PyData.tuple (bs.map encT) = TB at i2 l2
        generalize ((bs.length : Nat) : Int) = a at l2 c'
        generalize ((ks.length : Nat) : Int) = b at lk c'
        generalize ktO ts = TO
        generalize encWd w = W
        simp [nn, i2, l2, lk, c']) ?_
      have it : (eB (aCons (eM (eCa gLen (aCons (eVar 6) aNil)) viewD) aNil) rg1) (E (ktO ts) (some (.d (.str k))) (some (.d (encT (.mk nm mk bs)))) (some (.d (brD ks))) x7) = .ok (rangeD 0 ks.length) := by
        have rg := rg1_nat ks.length bl
        show eB _ _ [_, _, _, _, _, _, _, _] = _
        generalize rangeD 0 ks.length = RD at rg ⊢
        generalize brD ks = BD at lk
        generalize encT (.mk nm mk bs) = ET
        generalize ktO ts = TO
        generalize encWd w = W
        simp [lk, rg]
      rw [sFor_eq, it, R.st_ok, s8]
    · refine ⟨none, ?_⟩
      have c' : ((ks.length : Int) == (bs.length : Int)) = false := beq_eq_false_iff_ne.mpr (by omega)
      refine seq_nx s1 (seq_nx s2 ?_)
      show (sSeq _ _) [_, _, _, _, _, _, some (.d (brD ks)), _] = (if _ then _ else _)
      rw [if_neg c]
      generalize brD ks = BD at nn lk
      generalize encT (.mk nm mk bs) = ET at i2
      generalize PyData.tuple (bs.map encT) = TB at i2 l2
      generalize ((bs.length : Nat) : Int) = a at l2 c'
      generalize ((ks.length : Nat) : Int) = b at lk c'
      generalize ktO ts = TO
      generalize encWd w = W
      simp [nn, i2, l2, lk, c']
def szK (ts : List (Str × Tr)) : Nat := (ts.map fun q => sizeT q.2).sum
theorem szK_app (a b : List (Str × Tr)) : szK (a ++ b) = szK a + szK b := by unfold szK; rw [List.map_append, List.sum_append]
theorem sizeT_pos (t : Tr) : 1 ≤ sizeT t := by cases t; rw [sizeT]; omega
theorem len_szK : ∀ ts : List (Str × Tr), ts.length ≤ szK ts
  | [] => Nat.le_refl _
  | q :: ts => by
    have := len_szK ts
    have := sizeT_pos q.2
    unfold szK at *
    rw [List.map_cons, List.sum_cons, List.length_cons]
    omega
theorem szK_zip : ∀ (ks : List Str) (bs : List Tr), ks.length = bs.length → szK (ks.zip bs) = sizeTs bs
  | [], [], _ => rfl
  | k :: ks, b :: bs, h => by
    have := szK_zip ks bs (by simpa using h)
    rw [List.zip_cons_cons, sizeTs, ← this]
    unfold szK
    rw [List.map_cons, List.sum_cons]
theorem is9_loop {w : Wood} {f7 : List D → R Ow} (h7 : ∀ k nm, f7 [encWd w, .str k, .str nm] = .ok (.d (obD (brOf (rowsOf w k) nm)))) (hw : ∀ k nm ks, brOf (rowsOf w k) nm = some ks → ks.length ≤ 4 ∧ ∀ z ∈ ks, PyData.strOk z = true) (K T : D) : ∀ (P n : Nat) (ts : List (Str × Tr)) (x4 x5 x6 x7 : Option Ow), szK ts ≤ P → P ≤ 1000 → P + 2 ≤ n → (∀ q ∈ ts, KtOk w q) →
    ∃ env', whileN is9C (is9B f7) n [some (.d (encWd w)), some (.d K), some (.d T), some (ktO ts), x4, x5, x6, x7] = if (ts.all fun q => isOf w q.2 q.1) = true then .nx env' else .rt (.d (.bool false)) env' := by
  intro P
  induction P with
  | zero =>
    intro n ts x4 x5 x6 x7 hp hP hn ht
    have tn : ts = [] := List.eq_nil_of_length_eq_zero (by have := len_szK ts; omega)
    subst tn
    obtain ⟨n, rfl⟩ : ∃ m, n = m + 1 := ⟨n - 1, by omega⟩
    refine ⟨[some (.d (encWd w)), some (.d K), some (.d T), some (ktO []), x4, x5, x6, x7], ?_⟩
    rw [whileN, is9C_ok (w := w) (fun q hq => by cases hq)]
    rfl
  | succ P ih =>
    intro n ts x4 x5 x6 x7 hp hP hn ht
    obtain ⟨n, rfl⟩ : ∃ m, n = m + 1 := ⟨n - 1, by omega⟩
    have ck := is9C_ok (w := w) (ts := ts) ht (some (.d (encWd w))) (some (.d K)) (some (.d T)) x4 x5 x6 x7
    rcases List.eq_nil_or_concat ts with tn | ⟨ts', ⟨k, u⟩, te⟩
    · subst tn
      refine ⟨[some (.d (encWd w)), some (.d K), some (.d T), some (ktO []), x4, x5, x6, x7], ?_⟩
      rw [whileN, ck]
      rfl
    · have te : ts = ts' ++ [(k, u)] := by rw [te]; simp
      subst te
      obtain ⟨nm, mk, bs⟩ := u
      have ie : (!(ts' ++ [(k, Tr.mk nm mk bs)]).isEmpty) = true := by cases ts' <;> rfl
      rw [ie] at ck
      have hz := szK_app ts' [(k, Tr.mk nm mk bs)]
      have hs1 : szK [(k, Tr.mk nm mk bs)] = 1 + sizeTs bs := by unfold szK; rw [List.map_cons, List.sum_cons, sizeT]; simp
      have ll := len_szK ts'
      obtain ⟨y7, e⟩ := is9B_ok h7 K T ts' k nm mk bs (by omega) (fun ks hk => by have := (hw k nm ks hk).1; omega) x4 x5 x6 x7
      have al : ((ts' ++ [(k, Tr.mk nm mk bs)]).all fun q => isOf w q.2 q.1) = ((ts'.all fun q => isOf w q.2 q.1) && isOf w (.mk nm mk bs) k) := by simp
      obtain ⟨q1, q2, q3⟩ := ht (k, .mk nm mk bs) (by simp)
      rw [al, isOf_mk]
      cases hb : brOf (rowsOf w k) nm with
      | none =>
        rw [hb] at e
        refine ⟨[some (.d (encWd w)), some (.d K), some (.d T), some (ktO ts'), some (.d (.str k)), some (.d (encT (.mk nm mk bs))), some (.d .none), x7], ?_⟩
        rw [whileN, ck, R.st_ok, if_pos rfl, e, if_neg (by simp)]
      | some ks =>
        rw [hb] at e
        by_cases c : ks.length = bs.length
        · simp only [c, if_true] at e
          obtain ⟨w1, w2⟩ := hw k nm ks hb
          obtain ⟨env', d⟩ := ih n (ts' ++ ks.zip bs) _ _ _ _ (by rw [szK_app, szK_zip ks bs c]; omega) (by omega) (by omega) (fun q hq => by
            rcases List.mem_append.mp hq with m | m
            · exact ht q (List.mem_append_left _ m)
            · have m1 := (List.of_mem_zip (show (q.1, q.2) ∈ ks.zip bs from m)).1
              have m2 := (List.of_mem_zip (show (q.1, q.2) ∈ ks.zip bs from m)).2
              rw [okT, okTs_iff] at q2
              rw [levT] at q3
              exact ⟨w2 _ m1, q2.2.2 _ m2, levTs_le (by omega) _ m2⟩)
          refine ⟨env', ?_⟩
          rw [whileN, ck, R.st_ok, if_pos rfl, e]
          have al2 : ((ts' ++ ks.zip bs).all fun q => isOf w q.2 q.1) = ((ts'.all fun q => isOf w q.2 q.1) && (decide (ks.length = bs.length) && isOfs w bs ks)) := by
            rw [List.all_append, isOfs_zip, decide_eq_true c, Bool.true_and]
          rw [al2] at d
          exact d
        · change is9B f7 _ = (if _ then _ else _) at e
          rw [if_neg c] at e
          refine ⟨[some (.d (encWd w)), some (.d K), some (.d T), some (ktO ts'), some (.d (.str k)), some (.d (encT (.mk nm mk bs))), some (.d (brD ks)), x7], ?_⟩
          rw [whileN, ck, R.st_ok, if_pos rfl, e, if_neg (by simp [c])]
abbrev bIs9 (f7 : List D → R Ow) : Ev → SR := (sSeq (sSet 3 (eLst (aCons (eTup (aCons (eVar 1) (aCons (eVar 2) aNil))) aNil)))
    (sSeq (whileN is9C (is9B f7) 1000000)
    (sRet (eM (eC (.bool true)) Ow.d))))
theorem is9_fin {w : Wood} {f7 : List D → R Ow} (h7 : ∀ k nm, f7 [encWd w, .str k, .str nm] = .ok (.d (obD (brOf (rowsOf w k) nm)))) (hw : ∀ k nm ks, brOf (rowsOf w k) nm = some ks → ks.length ≤ 4 ∧ ∀ z ∈ ks, PyData.strOk z = true) {k : Str} {u : Tr} (hk : PyData.strOk k = true) (hu : okT u) (hl : levT u ≤ 25) (hs : sizeT u ≤ 400) :
    finR (bIs9 f7 (envOf 5 [encWd w, .str k, encT u])) = .ok (.d (.bool (isOf w u k))) := by
  have he : envOf 5 [encWd w, .str k, encT u] = [some (.d (encWd w)), some (.d (.str k)), some (.d (encT u)), none, none, none, none, none] := rfl
  rw [he]
  have sz : szK [(k, u)] = sizeT u := by unfold szK; simp
  obtain ⟨env', lp⟩ := is9_loop h7 hw (.str k) (encT u) 400 1000000 [(k, u)] none none none none (by omega) (by omega) (by omega) (fun q hq => by
    cases List.mem_singleton.mp hq
    exact ⟨hk, hu, hl⟩)
  refine fin_step (env1 := [some (.d (encWd w)), some (.d (.str k)), some (.d (encT u)), some (ktO [(k, u)]), none, none, none, none]) (by
    generalize encWd w = W
    show sSet _ _ _ = _
    unfold ktO
    rw [List.map_singleton, encKT]
    generalize encT u = U
    simp [sizeLine_eq]) ?_
  have al : ([(k, u)].all fun q => isOf w q.2 q.1) = isOf w u k := by simp
  rw [al] at lp
  rw [sSeq_eq, lp]
  cases isOf w u k with
  | true => rfl
  | false => rfl
end
end Mir
set_option Elab.async false
set_option linter.all false
set_option maxRecDepth 100000
set_option maxHeartbeats 4000000
namespace Mir
open PySem PySem.Spec L2
noncomputable section
theorem minD_first (z : Str) : ∀ zs : List Str, (∀ y ∈ zs, PySem.W.dataLt (.str y) (.str z) = false) → PySem.W.minD (.str z) (zs.map PyData.str) = .str z
  | [], _ => rfl
  | y :: zs, h => by
    have h1 := h y List.mem_cons_self
    have h2 := minD_first z zs fun x hx => h x (List.mem_cons_of_mem _ hx)
    rw [List.map_cons]
    unfold PySem.W.minD at h2 ⊢
    rw [List.foldl_cons, h1, if_neg Bool.false_ne_true]
    exact h2
theorem gMinS_first {rs : List Rw} (hs : rs.Pairwise fun a b => PySem.W.dataLt (.str b.nm) (.str a.nm) = false) {r : Rw} {q : List Rw} (e : rs.filter (fun r => r.br.isEmpty) = r :: q) : PySem.W.minD (.str r.nm) ((q.map Rw.nm).map PyData.str) = .str r.nm := by
  have p := List.Pairwise.filter (fun r : Rw => r.br.isEmpty) hs
  rw [e, List.pairwise_cons] at p
  exact minD_first r.nm _ fun y hy => by
    obtain ⟨x, hx, rfl⟩ := List.mem_map.mp hy
    exact p.1 x hx
theorem wd9_of {kd nm : Nat → Str} (k0 : ∀ i, i < 3 → PyData.strOk (kd i) = true) (n0 : ∀ i, i < 7 → PyData.strOk (nm i) = true) (ne : kd 0 ≠ kd 1) {r0 r1 : List Rw} (l0 : r0.length ≤ 4) (l1 : r1.length ≤ 4) (a0 : ∀ r ∈ r0, Rw9 kd nm r) (a1 : ∀ r ∈ r1, Rw9 kd nm r) (b0 : ∃ r ∈ r0, r.br = []) (b1 : ∃ r ∈ r1, r.br = []) : Wd9 [(kd 0, r0), (kd 1, r1)] := by
  have key : ∀ rs : List Rw, (∀ r ∈ rs, Rw9 kd nm r) → ∀ r ∈ rs, PyData.strOk r.nm = true ∧ r.br.length ≤ 4 ∧ ∀ z ∈ r.br, PyData.strOk z = true ∧ ∃ q ∈ [(kd 0, r0), (kd 1, r1)], q.1 = z := fun rs h r hr => by
    obtain ⟨⟨i, hi, e⟩, b, c⟩ := h r hr
    refine ⟨by rw [e]; exact n0 i (by omega), b, fun z hz => ?_⟩
    obtain ⟨j, hj, rfl⟩ := c z hz
    refine ⟨k0 j (by omega), ?_⟩
    rcases Nat.lt_or_ge j 1 with d | d
    · have : j = 0 := by omega
      subst this
      exact ⟨(kd 0, r0), by simp, rfl⟩
    · have : j = 1 := by omega
      subst this
      exact ⟨(kd 1, r1), by simp, rfl⟩
  refine ⟨⟨_, _, rfl⟩, by simp [ne], fun p hp => ?_, fun p hp => ?_⟩
  · rcases List.mem_cons.mp hp with rfl | hp
    · exact k0 0 (by omega)
    · cases List.mem_singleton.mp hp
      exact k0 1 (by omega)
  · rcases List.mem_cons.mp hp with rfl | hp
    · exact ⟨l0, b0, key r0 a0⟩
    · cases List.mem_singleton.mp hp
      exact ⟨l1, b1, key r1 a1⟩
/-- what is_9 asks of the wood -/
theorem wd9_br {w : Wood} (h : Wd9 w) (k nm : Str) (ks : List Str) (e : brOf (rowsOf w k) nm = some ks) : ks.length ≤ 4 ∧ ∀ z ∈ ks, PyData.strOk z = true := by
  have bo : ∀ rs : List Rw, brOf rs nm = some ks → ∃ r ∈ rs, r.br = ks := by
    intro rs
    induction rs with
    | nil => intro h; cases h
    | cons r rs ih =>
      intro h
      rw [brOf] at h
      split at h
      · cases h
        exact ⟨r, List.mem_cons_self, rfl⟩
      · obtain ⟨x, hx, e⟩ := ih h
        exact ⟨x, List.mem_cons_of_mem _ hx, e⟩
  have ro : ∀ w : Wood, rowsOf w k ≠ [] → ∃ p ∈ w, rowsOf w k = p.2 := by
    intro w
    induction w with
    | nil => intro h; exact absurd rfl h
    | cons p w ih =>
      intro h
      rw [rowsOf] at h ⊢
      cases c : p.1 == k with
      | true => exact ⟨p, List.mem_cons_self, rfl⟩
      | false =>
        rw [c] at h
        obtain ⟨x, hx, e⟩ := ih h
        exact ⟨x, List.mem_cons_of_mem _ hx, e⟩
  obtain ⟨r, hr, rfl⟩ := bo _ e
  obtain ⟨p, hp, ep⟩ := ro w (fun c => by rw [c] at hr; cases hr)
  rw [ep] at hr
  obtain ⟨_, _, q⟩ := h.rows p hp
  obtain ⟨_, a, b⟩ := q r hr
  exact ⟨a, fun z hz => (b z hz).1⟩
end
end Mir
set_option Elab.async false
set_option linter.all false
set_option maxRecDepth 100000
set_option maxHeartbeats 4000000
namespace G
open PySem PySem.Spec L2 Mir
def top (i : Nat) : Stmt := PySem.Challenge.pw_turnery_k09_trees_of_a_wood.main.body.getD i (.Pass ⟨0, 0, 0, 0⟩)
abbrev s_rows_of : Stmt := top 1
abbrev s_row_of : Stmt := top 2
abbrev s_is_of : Stmt := top 3
abbrev s_leaf_of : Stmt := top 4
abbrev s__law_cell_at : Stmt := top 6
abbrev s__law_names : Stmt := top 7
abbrev s__law_rows : Stmt := top 8
abbrev s__law_row : Stmt := top 9
abbrev s__law_drawn : Stmt := top 10
abbrev s__law_made : Stmt := top 11
abbrev s__law_is : Stmt := top 12
abbrev s_law : Stmt := top 13
/-- rows_of: 0 wood, 1 kind, 2 told, 3 rows -/
noncomputable def b_rows_of (m : Nat → List PyData → R Ow) : Ev → SR :=
    (sSeq (sFor (eB (eVar 0) itD) (gtTup 2 (gtCons (gtName 2) (gtCons (gtName 3) gtNil)))
    (sIf (eB (eBin gEq (eVar 2) (eVar 1)) asB)
    (sRet (eM (eVar 3) Ow.d))
    sSkip))
    (sRet (eLst aNil)))
/-- row_of: 0 wood, 1 kind, 2 name, 3 told, 4 branches -/
noncomputable def b_row_of (m : Nat → List PyData → R Ow) : Ev → SR :=
    (sSeq (sFor (eB (eM (eB (aCons (eVar 0) (aCons (eVar 1) aNil)) (m 0)) viewD) itD) (gtTup 2 (gtCons (gtName 3) (gtCons (gtName 4) gtNil)))
    (sIf (eB (eBin gEq (eVar 3) (eVar 2)) asB)
    (sRet (eM (eVar 4) Ow.d))
    sSkip))
    (sRet (eM (eC .none) Ow.d)))
/-- is_of: 0 wood, 1 kind, 2 tree, 3 branches, 4 wanted, 5 branch -/
noncomputable def b_is_of (m : Nat → List PyData → R Ow) : Ev → SR :=
    (sSeq (sSet 3 (eM (eM (eB (aCons (eVar 0) (aCons (eVar 1) (aCons (eBin gIx (eVar 2) (eC (.int 0))) aNil))) (m 1)) viewD) Ow.d))
    (sSeq (sIf (tOrE (eB (eBin gIsN (eVar 3) (eC .none)) asB) (eB (eBin gNe (eM (eCa gLen (aCons (eVar 3) aNil)) viewD) (eM (eCa gLen (aCons (eBin gIx (eVar 2) (eC (.int 2))) aNil)) viewD)) asB))
    (sRet (eM (eC (.bool false)) Ow.d))
    sSkip)
    (sSeq (sFor (eB (aCons (eVar 3) (aCons (eBin gIx (eVar 2) (eC (.int 2))) aNil)) zpArg) (gtTup 2 (gtCons (gtName 4) (gtCons (gtName 5) gtNil)))
    (sIf (tNotE (eB (eM (eB (aCons (eVar 0) (aCons (eVar 4) (aCons (eVar 5) aNil))) (m 2)) viewD) asB))
    (sRet (eM (eC (.bool false)) Ow.d))
    sSkip))
    (sRet (eM (eC (.bool true)) Ow.d)))))
/-- leaf_of: 0 wood, 1 kind, 2 bare, 3 name, 4 branches -/
noncomputable def b_leaf_of (m : Nat → List PyData → R Ow) : Ev → SR :=
    (sSeq (sSet 2 (eM (eM (eLc (eB (eM (eB (aCons (eVar 0) (aCons (eVar 1) aNil)) (m 0)) viewD) itD) (gtTup 2 (gtCons (gtName 3) (gtCons (gtName 4) gtNil))) (eB (eBin gEq (eVar 4) (eTup aNil)) asB) (eM (eVar 3) Ow.d) (List.map (·.2) ([("name", 3), ("branches", 4)] : List (Str × Nat)))) viewD) Ow.d))
    (sRet (eM (eTup (aCons (eBin gIx (eVar 2) (eC (.int 0))) (aCons (eC (.int 0)) (aCons (eTup aNil) aNil)))) Ow.d)))
/-- _law_cell_at: 0 _law_script, 1 _law_k -/
noncomputable def b__law_cell_at (m : Nat → List PyData → R Ow) : Ev → SR :=
    (sSeq (sIf (eB (eBin gLt (eVar 1) (eM (eCa gLen (aCons (eVar 0) aNil)) viewD)) asB)
    (sRet (eM (eBin gIx (eVar 0) (eVar 1)) Ow.d))
    sSkip)
    (sRet (eM (eC (.int 0)) Ow.d)))
/-- _law_names: 0 _law_cell, 1 _law_where, 2 _law_lots, 3 _law_letters, 4 _law_number, 5 _law_base, 6 _law_k, 7 _law_there, 8 _law_first -/
noncomputable def b__law_names (m : Nat → List PyData → R Ow) : Ev → SR :=
    (sSeq (sSet 3 (eM (eC (.str "abcdefghijklmnopqrstuvwxyz")) Ow.d))
    (sSeq (sSet 4 (eM (eBin gMod (eVar 0) (eBin gPow (eC (.int 10)) (eC (.int 20)))) Ow.d))
    (sSeq (sSet 5 (eM (eC (.str "")) Ow.d))
    (sSeq (sFor (eB (aCons (eM (eBinO gAdd (eC (.int 1)) (eBin gMod (eVar 4) (eC (.int 8)))) viewD) aNil) rg1) (gtName 6)
    (sSet 5 (eM (eM (eBinO gAdd (eVar 5) (eBin gIx (eVar 3) (eBin gMod (eM (eBinO gAdd (eBin gDiv (eVar 4) (eM (eBinO gAdd (eVar 6) (eC (.int 1))) viewD)) (eBin gMul (eBin gMul (eC (.int 3)) (eVar 6)) (eVar 6))) viewD) (eC (.int 26))))) viewD) Ow.d)))
    (sSeq (sSet 7 (eM (eBin gMod (eVar 1) (eM (eCa gLen (aCons (eVar 5) aNil)) viewD)) Ow.d))
    (sSeq (sSet 8 (eM (eTxIndex (eVar 3) (eBin gIx (eVar 5) (eVar 7))) Ow.d))
    (sRet (eLc (eB (aCons (eVar 2) aNil) rg1) (gtName 6) cYes (eBinO gAdd (eB (eBinO gAdd (eB (eSl (eVar 5) oNone (eB (eVar 7) asI)) shD) (eBin gIx (eVar 3) (eBin gMod (eM (eBinO gAdd (eVar 8) (eVar 6)) viewD) (eC (.int 26))))) shD) (eB (eSl (eVar 5) (eB (eM (eBinO gAdd (eVar 7) (eC (.int 1))) viewD) asI) oNone) shD)) (List.map (·.2) ([("_law_k", 6)] : List (Str × Nat)))))))))))
/-- _law_rows: 0 _law_script, 1 _law_start, 2 _law_kinds, 3 _law_names_here, 4 _law_number, 5 _law_rows_here, 6 _law_k, 7 _law_more, 8 _law_branches, 9 _law_j -/
noncomputable def b__law_rows (m : Nat → List PyData → R Ow) : Ev → SR :=
    (sSeq (sSet 4 (eM (eBin gMod (eM (eB (aCons (eVar 0) (aCons (eVar 1) aNil)) (m 4)) viewD) (eBin gPow (eC (.int 10)) (eC (.int 12)))) Ow.d))
    (sSeq (sSet 5 (eLst (aCons (eTup (aCons (eBin gIx (eVar 3) (eBin gMod (eVar 4) (eC (.int 6)))) (aCons (eTup aNil) aNil))) aNil)))
    (sSeq (sFor (eB (aCons (eC (.int 1)) (aCons (eM (eBinO gAdd (eC (.int 2)) (eBin gMod (eBin gDiv (eVar 4) (eC (.int 6))) (eC (.int 3)))) viewD) aNil)) rg2) (gtName 6)
    (sSeq (sSet 7 (eM (eBin gMod (eM (eB (aCons (eVar 0) (aCons (eM (eBinO gAdd (eVar 1) (eVar 6)) viewD) aNil)) (m 4)) viewD) (eBin gPow (eC (.int 10)) (eC (.int 12)))) Ow.d))
    (sSeq (sSet 8 (eM (eM (eCa gTuple (aCons (eB (eLc (eB (aCons (eBin gMod (eVar 7) (eC (.int 5))) aNil) rg1) (gtName 9) cYes (eM (eBin gIx (eVar 2) (eBin gMod (eBin gDiv (eVar 7) (eM (eBinO gAdd (eC (.int 4)) (eBin gMul (eC (.int 3)) (eVar 9))) viewD)) (eC (.int 2)))) Ow.d) (List.map (·.2) ([("_law_j", 9)] : List (Str × Nat)))) shD) aNil)) viewD) Ow.d))
    (sApp 5 (eM (eTup (aCons (eBin gIx (eVar 3) (eBin gMod (eM (eBinO gAdd (eVar 4) (eVar 6)) viewD) (eC (.int 6)))) (aCons (eVar 8) aNil))) Ow.d)))))
    (sRet (eCa gSorted (aCons (eB (eVarO 5) shD) aNil))))))
/-- _law_row: 0 _law_wood, 1 _law_kind, 2 _law_name, 3 _law_told, 4 _law_rows_here, 5 _law_row_here -/
noncomputable def b__law_row (m : Nat → List PyData → R Ow) : Ev → SR :=
    (sSeq (sFor (eB (eVar 0) itD) (gtTup 2 (gtCons (gtName 3) (gtCons (gtName 4) gtNil)))
    (sFor (eB (eVar 4) itD) (gtName 5)
    (sIf (tAndE (eB (eBin gEq (eVar 3) (eVar 1)) asB) (eB (eBin gEq (eBin gIx (eVar 5) (eC (.int 0))) (eVar 2)) asB))
    (sRet (eM (eBin gIx (eVar 5) (eC (.int 1))) Ow.d))
    sSkip)))
    (sRet (eM (eC .none) Ow.d)))
/-- _law_drawn: 0 _law_wood, 1 _law_cells, 2 _law_heads, 3 _law_todo, 4 _law_kind, 5 _law_up, 6 _law_number, 7 _law_rows_here, 8 _law_row_here, 9 _law_name, 10 _law_branches, 11 _law_own -/
noncomputable def b__law_drawn (m : Nat → List PyData → R Ow) : Ev → SR :=
    (sSeq (sSet 2 (eLst aNil))
    (sSeq (sSet 3 (eLst (aCons (eTup (aCons (eBin gIx (eBin gIx (eVar 0) (eC (.int 0))) (eC (.int 0))) (aCons (eC (.int 0)) aNil))) aNil)))
    (sSeq (whileN (eB (eBin gNe (eM (eVarO 3) viewD) (eM (eLst aNil) viewD)) asB)
    (sSeq (sXAsg (gtTup 2 (gtCons (gtName 4) (gtCons (gtName 5) gtNil))) (xPop 3))
    (sSeq (sSet 6 (eM (eC (.int 0)) Ow.d))
    (sSeq (sIf (eB (eBin gLt (eM (eCa gLen (aCons (eB (eVarO 2) shD) aNil)) viewD) (eM (eCa gLen (aCons (eVar 1) aNil)) viewD)) asB)
    (sSet 6 (eM (eBin gMod (eBin gIx (eVar 1) (eM (eCa gLen (aCons (eB (eVarO 2) shD) aNil)) viewD)) (eBin gPow (eC (.int 10)) (eC (.int 64)))) Ow.d))
    sSkip)
    (sSeq (sSet 7 (eM (eDictIx (eVar 0) (eVar 4)) Ow.d))
    (sSeq (sIf (eB (eBin gGe (eM (eCa gLen (aCons (eB (eVarO 2) shD) aNil)) viewD) (eC (.int 24))) asB)
    (sSet 7 (eM (eM (eLc (eB (eVar 7) itD) (gtName 8) (eB (eBin gEq (eBin gIx (eVar 8) (eC (.int 1))) (eTup aNil)) asB) (eM (eVar 8) Ow.d) (List.map (·.2) ([("_law_row_here", 8)] : List (Str × Nat)))) viewD) Ow.d))
    sSkip)
    (sSeq (sAsg (gtTup 2 (gtCons (gtName 9) (gtCons (gtName 10) gtNil))) (eBin gIx (eVar 7) (eBin gMod (eVar 6) (eM (eCa gLen (aCons (eVar 7) aNil)) viewD))))
    (sSeq (sApp 2 (eM (eTup (aCons (eVar 9) (aCons (eM (eBinO gAdd (eBin gSub (eBin gMod (eBin gMul (eBin gDiv (eVar 6) (eC (.int 3))) (eC (.int 69621))) (eBin gSub (eBin gMul (eC (.int 2)) (eBin gPow (eC (.int 10)) (eC (.int 60)))) (eC (.int 1)))) (eBin gPow (eC (.int 10)) (eC (.int 60)))) (eC (.int 1))) viewD) (aCons (eVar 5) aNil)))) Ow.d))
    (sFor (eB (eVar 10) itD) (gtName 11)
    (sApp 3 (eM (eTup (aCons (eVar 11) (aCons (eBin gSub (eM (eCa gLen (aCons (eB (eVarO 2) shD) aNil)) viewD) (eC (.int 1))) aNil))) Ow.d)))))))))) 1000000)
    (sRetV 2))))
/-- _law_made: 0 _law_heads, 1 _law_spot, 2 _law_way, 3 _law_name, 4 _law_below, 5 _law_head, 6 _law_tree, 7 _law_k, 8 _law_parts, 9 _law_told -/
noncomputable def b__law_made (m : Nat → List PyData → R Ow) : Ev → SR :=
    (sSeq (sSet 4 (eLc (eB (eVar 0) itD) (gtName 5) cYes (eLst aNil) (List.map (·.2) ([("_law_head", 5)] : List (Str × Nat)))))
    (sSeq (sSet 6 (eM (eC .none) Ow.d))
    (sSeq (sFor (eB (aCons (eBin gSub (eM (eCa gLen (aCons (eVar 0) aNil)) viewD) (eC (.int 1))) (aCons (eB (eC (.int 1)) gNeg) (aCons (eB (eC (.int 1)) gNeg) aNil))) rg3) (gtName 7)
    (sSeq (sSet 8 (eM (eM (eCa gList (aCons (eB (eIxO (eVarO 4) (eVar 7)) shD) aNil)) viewD) Ow.d))
    (sSeq (sSet 9 (eM (eBin gIx (eBin gIx (eVar 0) (eVar 7)) (eC (.int 0))) Ow.d))
    (sSeq (sIf (tAndE (eB (eBin gEq (eVar 7) (eVar 1)) asB) (eB (eBin gEq (eVar 2) (eC (.int 1))) asB))
    (sSet 9 (eM (eVar 3) Ow.d))
    sSkip)
    (sSeq (sIf (tAndE (eB (eBin gEq (eVar 7) (eVar 1)) asB) (eB (eBin gEq (eVar 2) (eC (.int 2))) asB))
    (sSet 8 (eM (eM (eSl (eVar 8) (eB (eC (.int 1)) asI) oNone) viewD) Ow.d))
    sSkip)
    (sSeq (sIf (tAndE (eB (eBin gEq (eVar 7) (eVar 1)) asB) (eB (eBin gEq (eVar 2) (eC (.int 3))) asB))
    (sSet 8 (eM (eM (eBinO gAdd (eVar 8) (eB (eSl (eVar 8) oNone (eB (eC (.int 1)) asI)) shD)) viewD) Ow.d))
    sSkip)
    (sSeq (sSet 6 (eM (eTup (aCons (eVar 9) (aCons (eBin gIx (eBin gIx (eVar 0) (eVar 7)) (eC (.int 1))) (aCons (eM (eCa gTuple (aCons (eVar 8) aNil)) viewD) aNil)))) Ow.d))
    (sApp1 4 (eBin gIx (eBin gIx (eVar 0) (eVar 7)) (eC (.int 2))) (eM (eVar 6) Ow.d)))))))))
    (sRet (eM (eVar 6) Ow.d)))))
/-- _law_is: 0 _law_wood, 1 _law_kind, 2 _law_tree, 3 _law_todo, 4 _law_other, 5 _law_here, 6 _law_row_here, 7 _law_k -/
noncomputable def b__law_is (m : Nat → List PyData → R Ow) : Ev → SR :=
    (sSeq (sSet 3 (eLst (aCons (eTup (aCons (eVar 1) (aCons (eVar 2) aNil))) aNil)))
    (sSeq (whileN (eB (eBin gNe (eM (eVarO 3) viewD) (eM (eLst aNil) viewD)) asB)
    (sSeq (sXAsg (gtTup 2 (gtCons (gtName 4) (gtCons (gtName 5) gtNil))) (xPop 3))
    (sSeq (sSet 6 (eM (eM (eB (aCons (eVar 0) (aCons (eVar 4) (aCons (eBin gIx (eVar 5) (eC (.int 0))) aNil))) (m 7)) viewD) Ow.d))
    (sSeq (sIf (tOrE (eB (eBin gIsN (eVar 6) (eC .none)) asB) (eB (eBin gNe (eM (eCa gLen (aCons (eVar 6) aNil)) viewD) (eM (eCa gLen (aCons (eBin gIx (eVar 5) (eC (.int 2))) aNil)) viewD)) asB))
    (sRet (eM (eC (.bool false)) Ow.d))
    sSkip)
    (sFor (eB (aCons (eM (eCa gLen (aCons (eVar 6) aNil)) viewD) aNil) rg1) (gtName 7)
    (sApp 3 (eM (eTup (aCons (eBin gIx (eVar 6) (eVar 7)) (aCons (eBin gIx (eBin gIx (eVar 5) (eC (.int 2))) (eVar 7)) aNil))) Ow.d)))))) 1000000)
    (sRet (eM (eC (.bool true)) Ow.d))))
/-- law: 0 _law_script, 1 _law_kinds, 2 _law_names_here, 3 _law_wood, 4 _law_heads, 5 _law_way, 6 _law_tree, 7 _law_handed, 8 _law_kind, 9 _law_rows_here, 10 _law_found, 11 _law_name, 12 _law_row_here, 13 _law_bare, 14 _law_branches -/
noncomputable def b_law (m : Nat → List PyData → R Ow) : Ev → SR :=
    (sSeq (sSet 1 (eM (eM (eB (aCons (eM (eB (aCons (eVar 0) (aCons (eC (.int 0)) aNil)) (m 4)) viewD) (aCons (eM (eB (aCons (eVar 0) (aCons (eC (.int 1)) aNil)) (m 4)) viewD) (aCons (eC (.int 3)) aNil))) (m 5)) viewD) Ow.d))
    (sSeq (sSet 2 (eM (eM (eB (aCons (eM (eB (aCons (eVar 0) (aCons (eC (.int 2)) aNil)) (m 4)) viewD) (aCons (eM (eB (aCons (eVar 0) (aCons (eC (.int 3)) aNil)) (m 4)) viewD) (aCons (eC (.int 7)) aNil))) (m 5)) viewD) Ow.d))
    (sSeq (sSet 3 (eM (eM (eLst (aCons (eTup (aCons (eBin gIx (eVar 1) (eC (.int 0))) (aCons (eM (eB (aCons (eVar 0) (aCons (eC (.int 4)) (aCons (eVar 1) (aCons (eVar 2) aNil)))) (m 6)) viewD) aNil))) (aCons (eTup (aCons (eBin gIx (eVar 1) (eC (.int 1))) (aCons (eM (eB (aCons (eVar 0) (aCons (eC (.int 8)) (aCons (eVar 1) (aCons (eVar 2) aNil)))) (m 6)) viewD) aNil))) aNil))) viewD) Ow.d))
    (sSeq (sSet 4 (eM (eM (eB (aCons (eVar 3) (aCons (eM (eSl (eVar 0) (eB (eC (.int 13)) asI) oNone) viewD) aNil)) (m 8)) viewD) Ow.d))
    (sSeq (sSet 5 (eM (eBin gMod (eM (eB (aCons (eVar 0) (aCons (eC (.int 12)) aNil)) (m 4)) viewD) (eBin gPow (eC (.int 10)) (eC (.int 9)))) Ow.d))
    (sSeq (sSet 6 (eM (eM (eB (aCons (eVar 4) (aCons (eBin gMod (eBin gDiv (eVar 5) (eC (.int 24))) (eM (eCa gLen (aCons (eVar 4) aNil)) viewD)) (aCons (eBin gMod (eVar 5) (eC (.int 4))) (aCons (eBin gIx (eVar 2) (eBin gMod (eBin gDiv (eVar 5) (eC (.int 4))) (eC (.int 6)))) aNil)))) (m 9)) viewD) Ow.d))
    (sSeq (sSet 7 (eM (eM (eLc (eB (eVar 3) itD) (gtTup 2 (gtCons (gtName 8) (gtCons (gtName 9) gtNil))) cYes (eM (eTup (aCons (eVar 8) (aCons (eM (eCa gList (aCons (eVar 9) aNil)) viewD) aNil))) Ow.d) (List.map (·.2) ([("_law_kind", 8), ("_law_rows_here", 9)] : List (Str × Nat)))) viewD) Ow.d))
    (sSeq (sFor (eB (eM (eLst (aCons (eBin gIx (eVar 1) (eC (.int 0))) (aCons (eBin gIx (eVar 1) (eC (.int 2))) (aCons (eBin gIx (eVar 1) (eC (.int 1))) (aCons (eBin gIx (eVar 1) (eC (.int 0))) aNil))))) viewD) itD) (gtName 8)
    (sSeq (sSet 10 (eM (eM (eB (aCons (eVar 7) (aCons (eVar 8) (aCons (eVar 6) aNil))) (m 2)) viewD) Ow.d))
    (sSeq (sIf (tOrE (tNotE (eB (eB (eVar 10) (gIsi "bool")) asB)) (eB (eBin gNe (eVar 10) (eM (eB (aCons (eVar 3) (aCons (eVar 8) (aCons (eVar 6) aNil))) (m 10)) viewD)) asB))
    (sRet (eM (eC (.bool false)) Ow.d))
    sSkip)
    (sFor (eB (eVar 2) itD) (gtName 11)
    (sSeq (sSet 12 (eM (eM (eB (aCons (eVar 7) (aCons (eVar 8) (aCons (eVar 11) aNil))) (m 1)) viewD) Ow.d))
    (sIf (tOrE (eB (eBin gNe (eVar 12) (eM (eB (aCons (eVar 3) (aCons (eVar 8) (aCons (eVar 11) aNil))) (m 7)) viewD)) asB) (tAndE (eB (eBin gNotN (eVar 12) (eC .none)) asB) (tNotE (eB (eB (eVar 12) (gIsi "tuple")) asB))))
    (sRet (eM (eC (.bool false)) Ow.d))
    sSkip))))))
    (sSeq (sFor (eB (eVar 3) itD) (gtTup 2 (gtCons (gtName 8) (gtCons (gtName 9) gtNil)))
    (sSeq (sSet 13 (eM (eM (eLc (eB (eVar 9) itD) (gtTup 2 (gtCons (gtName 11) (gtCons (gtName 14) gtNil))) (eB (eBin gEq (eVar 14) (eTup aNil)) asB) (eM (eVar 11) Ow.d) (List.map (·.2) ([("_law_name", 11), ("_law_branches", 14)] : List (Str × Nat)))) viewD) Ow.d))
    (sIf (eB (eBin gNe (eM (eB (aCons (eVar 7) (aCons (eVar 8) aNil)) (m 3)) viewD) (eTup (aCons (eM (eCa gMinS (aCons (eVar 13) aNil)) viewD) (aCons (eC (.int 0)) (aCons (eTup aNil) aNil))))) asB)
    (sRet (eM (eC (.bool false)) Ow.d))
    sSkip)))
    (sRet (eM (eBin gEq (eVar 7) (eVar 3)) Ow.d)))))))))))
noncomputable def mir : Nat → Nat → List PyData → R Ow
  | 0, _ => fun _ => .no
  | n + 1, i => match i with
    | 0 => runB 2 (b_rows_of (mir n))
    | 1 => runB 2 (b_row_of (mir n))
    | 2 => runB 3 (b_is_of (mir n))
    | 3 => runB 3 (b_leaf_of (mir n))
    | 4 => runB 0 (b__law_cell_at (mir n))
    | 5 => runB 6 (b__law_names (mir n))
    | 6 => runB 6 (b__law_rows (mir n))
    | 7 => runB 3 (b__law_row (mir n))
    | 8 => runB 10 (b__law_drawn (mir n))
    | 9 => runB 6 (b__law_made (mir n))
    | 10 => runB 5 (b__law_is (mir n))
    | 11 => runB 14 (b_law (mir n))
    | _ => fun _ => .no
theorem mir_rows_of (n : Nat) (ds : List PyData) : mir (n + 1) 0 ds = runB 2 (b_rows_of (mir n)) ds := rfl
theorem mir_row_of (n : Nat) (ds : List PyData) : mir (n + 1) 1 ds = runB 2 (b_row_of (mir n)) ds := rfl
theorem mir_is_of (n : Nat) (ds : List PyData) : mir (n + 1) 2 ds = runB 3 (b_is_of (mir n)) ds := rfl
theorem mir_leaf_of (n : Nat) (ds : List PyData) : mir (n + 1) 3 ds = runB 3 (b_leaf_of (mir n)) ds := rfl
theorem mir__law_cell_at (n : Nat) (ds : List PyData) : mir (n + 1) 4 ds = runB 0 (b__law_cell_at (mir n)) ds := rfl
theorem mir__law_names (n : Nat) (ds : List PyData) : mir (n + 1) 5 ds = runB 6 (b__law_names (mir n)) ds := rfl
theorem mir__law_rows (n : Nat) (ds : List PyData) : mir (n + 1) 6 ds = runB 6 (b__law_rows (mir n)) ds := rfl
theorem mir__law_row (n : Nat) (ds : List PyData) : mir (n + 1) 7 ds = runB 3 (b__law_row (mir n)) ds := rfl
theorem mir__law_drawn (n : Nat) (ds : List PyData) : mir (n + 1) 8 ds = runB 10 (b__law_drawn (mir n)) ds := rfl
theorem mir__law_made (n : Nat) (ds : List PyData) : mir (n + 1) 9 ds = runB 6 (b__law_made (mir n)) ds := rfl
theorem mir__law_is (n : Nat) (ds : List PyData) : mir (n + 1) 10 ds = runB 5 (b__law_is (mir n)) ds := rfl
theorem mir_law (n : Nat) (ds : List PyData) : mir (n + 1) 11 ds = runB 14 (b_law (mir n)) ds := rfl
theorem run_rows_of (m : Nat → List PyData → R Ow) (ds : List PyData) : runB 2 (b_rows_of m) ds = finR (((sSeq (sFor (eB (eVar 0) itD) (gtTup 2 (gtCons (gtName 2) (gtCons (gtName 3) gtNil)))
    (sIf (eB (eBin gEq (eVar 2) (eVar 1)) asB)
    (sRet (eM (eVar 3) Ow.d))
    sSkip))
    (sRet (eLst aNil)))) (envOf 2 ds)) := runB_fin _ _ _
theorem run_row_of (m : Nat → List PyData → R Ow) (ds : List PyData) : runB 2 (b_row_of m) ds = finR (((sSeq (sFor (eB (eM (eB (aCons (eVar 0) (aCons (eVar 1) aNil)) (m 0)) viewD) itD) (gtTup 2 (gtCons (gtName 3) (gtCons (gtName 4) gtNil)))
    (sIf (eB (eBin gEq (eVar 3) (eVar 2)) asB)
    (sRet (eM (eVar 4) Ow.d))
    sSkip))
    (sRet (eM (eC .none) Ow.d)))) (envOf 2 ds)) := runB_fin _ _ _
theorem run_is_of (m : Nat → List PyData → R Ow) (ds : List PyData) : runB 3 (b_is_of m) ds = finR (((sSeq (sSet 3 (eM (eM (eB (aCons (eVar 0) (aCons (eVar 1) (aCons (eBin gIx (eVar 2) (eC (.int 0))) aNil))) (m 1)) viewD) Ow.d))
    (sSeq (sIf (tOrE (eB (eBin gIsN (eVar 3) (eC .none)) asB) (eB (eBin gNe (eM (eCa gLen (aCons (eVar 3) aNil)) viewD) (eM (eCa gLen (aCons (eBin gIx (eVar 2) (eC (.int 2))) aNil)) viewD)) asB))
    (sRet (eM (eC (.bool false)) Ow.d))
    sSkip)
    (sSeq (sFor (eB (aCons (eVar 3) (aCons (eBin gIx (eVar 2) (eC (.int 2))) aNil)) zpArg) (gtTup 2 (gtCons (gtName 4) (gtCons (gtName 5) gtNil)))
    (sIf (tNotE (eB (eM (eB (aCons (eVar 0) (aCons (eVar 4) (aCons (eVar 5) aNil))) (m 2)) viewD) asB))
    (sRet (eM (eC (.bool false)) Ow.d))
    sSkip))
    (sRet (eM (eC (.bool true)) Ow.d)))))) (envOf 3 ds)) := runB_fin _ _ _
theorem run_leaf_of (m : Nat → List PyData → R Ow) (ds : List PyData) : runB 3 (b_leaf_of m) ds = finR (((sSeq (sSet 2 (eM (eM (eLc (eB (eM (eB (aCons (eVar 0) (aCons (eVar 1) aNil)) (m 0)) viewD) itD) (gtTup 2 (gtCons (gtName 3) (gtCons (gtName 4) gtNil))) (eB (eBin gEq (eVar 4) (eTup aNil)) asB) (eM (eVar 3) Ow.d) (List.map (·.2) ([("name", 3), ("branches", 4)] : List (Str × Nat)))) viewD) Ow.d))
    (sRet (eM (eTup (aCons (eBin gIx (eVar 2) (eC (.int 0))) (aCons (eC (.int 0)) (aCons (eTup aNil) aNil)))) Ow.d)))) (envOf 3 ds)) := runB_fin _ _ _
theorem run__law_cell_at (m : Nat → List PyData → R Ow) (ds : List PyData) : runB 0 (b__law_cell_at m) ds = finR (((sSeq (sIf (eB (eBin gLt (eVar 1) (eM (eCa gLen (aCons (eVar 0) aNil)) viewD)) asB)
    (sRet (eM (eBin gIx (eVar 0) (eVar 1)) Ow.d))
    sSkip)
    (sRet (eM (eC (.int 0)) Ow.d)))) (envOf 0 ds)) := runB_fin _ _ _
theorem run__law_names (m : Nat → List PyData → R Ow) (ds : List PyData) : runB 6 (b__law_names m) ds = finR (((sSeq (sSet 3 (eM (eC (.str "abcdefghijklmnopqrstuvwxyz")) Ow.d))
    (sSeq (sSet 4 (eM (eBin gMod (eVar 0) (eBin gPow (eC (.int 10)) (eC (.int 20)))) Ow.d))
    (sSeq (sSet 5 (eM (eC (.str "")) Ow.d))
    (sSeq (sFor (eB (aCons (eM (eBinO gAdd (eC (.int 1)) (eBin gMod (eVar 4) (eC (.int 8)))) viewD) aNil) rg1) (gtName 6)
    (sSet 5 (eM (eM (eBinO gAdd (eVar 5) (eBin gIx (eVar 3) (eBin gMod (eM (eBinO gAdd (eBin gDiv (eVar 4) (eM (eBinO gAdd (eVar 6) (eC (.int 1))) viewD)) (eBin gMul (eBin gMul (eC (.int 3)) (eVar 6)) (eVar 6))) viewD) (eC (.int 26))))) viewD) Ow.d)))
    (sSeq (sSet 7 (eM (eBin gMod (eVar 1) (eM (eCa gLen (aCons (eVar 5) aNil)) viewD)) Ow.d))
    (sSeq (sSet 8 (eM (eTxIndex (eVar 3) (eBin gIx (eVar 5) (eVar 7))) Ow.d))
    (sRet (eLc (eB (aCons (eVar 2) aNil) rg1) (gtName 6) cYes (eBinO gAdd (eB (eBinO gAdd (eB (eSl (eVar 5) oNone (eB (eVar 7) asI)) shD) (eBin gIx (eVar 3) (eBin gMod (eM (eBinO gAdd (eVar 8) (eVar 6)) viewD) (eC (.int 26))))) shD) (eB (eSl (eVar 5) (eB (eM (eBinO gAdd (eVar 7) (eC (.int 1))) viewD) asI) oNone) shD)) (List.map (·.2) ([("_law_k", 6)] : List (Str × Nat)))))))))))) (envOf 6 ds)) := runB_fin _ _ _
theorem run__law_rows (m : Nat → List PyData → R Ow) (ds : List PyData) : runB 6 (b__law_rows m) ds = finR (((sSeq (sSet 4 (eM (eBin gMod (eM (eB (aCons (eVar 0) (aCons (eVar 1) aNil)) (m 4)) viewD) (eBin gPow (eC (.int 10)) (eC (.int 12)))) Ow.d))
    (sSeq (sSet 5 (eLst (aCons (eTup (aCons (eBin gIx (eVar 3) (eBin gMod (eVar 4) (eC (.int 6)))) (aCons (eTup aNil) aNil))) aNil)))
    (sSeq (sFor (eB (aCons (eC (.int 1)) (aCons (eM (eBinO gAdd (eC (.int 2)) (eBin gMod (eBin gDiv (eVar 4) (eC (.int 6))) (eC (.int 3)))) viewD) aNil)) rg2) (gtName 6)
    (sSeq (sSet 7 (eM (eBin gMod (eM (eB (aCons (eVar 0) (aCons (eM (eBinO gAdd (eVar 1) (eVar 6)) viewD) aNil)) (m 4)) viewD) (eBin gPow (eC (.int 10)) (eC (.int 12)))) Ow.d))
    (sSeq (sSet 8 (eM (eM (eCa gTuple (aCons (eB (eLc (eB (aCons (eBin gMod (eVar 7) (eC (.int 5))) aNil) rg1) (gtName 9) cYes (eM (eBin gIx (eVar 2) (eBin gMod (eBin gDiv (eVar 7) (eM (eBinO gAdd (eC (.int 4)) (eBin gMul (eC (.int 3)) (eVar 9))) viewD)) (eC (.int 2)))) Ow.d) (List.map (·.2) ([("_law_j", 9)] : List (Str × Nat)))) shD) aNil)) viewD) Ow.d))
    (sApp 5 (eM (eTup (aCons (eBin gIx (eVar 3) (eBin gMod (eM (eBinO gAdd (eVar 4) (eVar 6)) viewD) (eC (.int 6)))) (aCons (eVar 8) aNil))) Ow.d)))))
    (sRet (eCa gSorted (aCons (eB (eVarO 5) shD) aNil))))))) (envOf 6 ds)) := runB_fin _ _ _
theorem run__law_row (m : Nat → List PyData → R Ow) (ds : List PyData) : runB 3 (b__law_row m) ds = finR (((sSeq (sFor (eB (eVar 0) itD) (gtTup 2 (gtCons (gtName 3) (gtCons (gtName 4) gtNil)))
    (sFor (eB (eVar 4) itD) (gtName 5)
    (sIf (tAndE (eB (eBin gEq (eVar 3) (eVar 1)) asB) (eB (eBin gEq (eBin gIx (eVar 5) (eC (.int 0))) (eVar 2)) asB))
    (sRet (eM (eBin gIx (eVar 5) (eC (.int 1))) Ow.d))
    sSkip)))
    (sRet (eM (eC .none) Ow.d)))) (envOf 3 ds)) := runB_fin _ _ _
theorem run__law_drawn (m : Nat → List PyData → R Ow) (ds : List PyData) : runB 10 (b__law_drawn m) ds = finR (((sSeq (sSet 2 (eLst aNil))
    (sSeq (sSet 3 (eLst (aCons (eTup (aCons (eBin gIx (eBin gIx (eVar 0) (eC (.int 0))) (eC (.int 0))) (aCons (eC (.int 0)) aNil))) aNil)))
    (sSeq (whileN (eB (eBin gNe (eM (eVarO 3) viewD) (eM (eLst aNil) viewD)) asB)
    (sSeq (sXAsg (gtTup 2 (gtCons (gtName 4) (gtCons (gtName 5) gtNil))) (xPop 3))
    (sSeq (sSet 6 (eM (eC (.int 0)) Ow.d))
    (sSeq (sIf (eB (eBin gLt (eM (eCa gLen (aCons (eB (eVarO 2) shD) aNil)) viewD) (eM (eCa gLen (aCons (eVar 1) aNil)) viewD)) asB)
    (sSet 6 (eM (eBin gMod (eBin gIx (eVar 1) (eM (eCa gLen (aCons (eB (eVarO 2) shD) aNil)) viewD)) (eBin gPow (eC (.int 10)) (eC (.int 64)))) Ow.d))
    sSkip)
    (sSeq (sSet 7 (eM (eDictIx (eVar 0) (eVar 4)) Ow.d))
    (sSeq (sIf (eB (eBin gGe (eM (eCa gLen (aCons (eB (eVarO 2) shD) aNil)) viewD) (eC (.int 24))) asB)
    (sSet 7 (eM (eM (eLc (eB (eVar 7) itD) (gtName 8) (eB (eBin gEq (eBin gIx (eVar 8) (eC (.int 1))) (eTup aNil)) asB) (eM (eVar 8) Ow.d) (List.map (·.2) ([("_law_row_here", 8)] : List (Str × Nat)))) viewD) Ow.d))
    sSkip)
    (sSeq (sAsg (gtTup 2 (gtCons (gtName 9) (gtCons (gtName 10) gtNil))) (eBin gIx (eVar 7) (eBin gMod (eVar 6) (eM (eCa gLen (aCons (eVar 7) aNil)) viewD))))
    (sSeq (sApp 2 (eM (eTup (aCons (eVar 9) (aCons (eM (eBinO gAdd (eBin gSub (eBin gMod (eBin gMul (eBin gDiv (eVar 6) (eC (.int 3))) (eC (.int 69621))) (eBin gSub (eBin gMul (eC (.int 2)) (eBin gPow (eC (.int 10)) (eC (.int 60)))) (eC (.int 1)))) (eBin gPow (eC (.int 10)) (eC (.int 60)))) (eC (.int 1))) viewD) (aCons (eVar 5) aNil)))) Ow.d))
    (sFor (eB (eVar 10) itD) (gtName 11)
    (sApp 3 (eM (eTup (aCons (eVar 11) (aCons (eBin gSub (eM (eCa gLen (aCons (eB (eVarO 2) shD) aNil)) viewD) (eC (.int 1))) aNil))) Ow.d)))))))))) 1000000)
    (sRetV 2))))) (envOf 10 ds)) := runB_fin _ _ _
theorem run__law_made (m : Nat → List PyData → R Ow) (ds : List PyData) : runB 6 (b__law_made m) ds = finR (((sSeq (sSet 4 (eLc (eB (eVar 0) itD) (gtName 5) cYes (eLst aNil) (List.map (·.2) ([("_law_head", 5)] : List (Str × Nat)))))
    (sSeq (sSet 6 (eM (eC .none) Ow.d))
    (sSeq (sFor (eB (aCons (eBin gSub (eM (eCa gLen (aCons (eVar 0) aNil)) viewD) (eC (.int 1))) (aCons (eB (eC (.int 1)) gNeg) (aCons (eB (eC (.int 1)) gNeg) aNil))) rg3) (gtName 7)
    (sSeq (sSet 8 (eM (eM (eCa gList (aCons (eB (eIxO (eVarO 4) (eVar 7)) shD) aNil)) viewD) Ow.d))
    (sSeq (sSet 9 (eM (eBin gIx (eBin gIx (eVar 0) (eVar 7)) (eC (.int 0))) Ow.d))
    (sSeq (sIf (tAndE (eB (eBin gEq (eVar 7) (eVar 1)) asB) (eB (eBin gEq (eVar 2) (eC (.int 1))) asB))
    (sSet 9 (eM (eVar 3) Ow.d))
    sSkip)
    (sSeq (sIf (tAndE (eB (eBin gEq (eVar 7) (eVar 1)) asB) (eB (eBin gEq (eVar 2) (eC (.int 2))) asB))
    (sSet 8 (eM (eM (eSl (eVar 8) (eB (eC (.int 1)) asI) oNone) viewD) Ow.d))
    sSkip)
    (sSeq (sIf (tAndE (eB (eBin gEq (eVar 7) (eVar 1)) asB) (eB (eBin gEq (eVar 2) (eC (.int 3))) asB))
    (sSet 8 (eM (eM (eBinO gAdd (eVar 8) (eB (eSl (eVar 8) oNone (eB (eC (.int 1)) asI)) shD)) viewD) Ow.d))
    sSkip)
    (sSeq (sSet 6 (eM (eTup (aCons (eVar 9) (aCons (eBin gIx (eBin gIx (eVar 0) (eVar 7)) (eC (.int 1))) (aCons (eM (eCa gTuple (aCons (eVar 8) aNil)) viewD) aNil)))) Ow.d))
    (sApp1 4 (eBin gIx (eBin gIx (eVar 0) (eVar 7)) (eC (.int 2))) (eM (eVar 6) Ow.d)))))))))
    (sRet (eM (eVar 6) Ow.d)))))) (envOf 6 ds)) := runB_fin _ _ _
theorem run__law_is (m : Nat → List PyData → R Ow) (ds : List PyData) : runB 5 (b__law_is m) ds = finR (((sSeq (sSet 3 (eLst (aCons (eTup (aCons (eVar 1) (aCons (eVar 2) aNil))) aNil)))
    (sSeq (whileN (eB (eBin gNe (eM (eVarO 3) viewD) (eM (eLst aNil) viewD)) asB)
    (sSeq (sXAsg (gtTup 2 (gtCons (gtName 4) (gtCons (gtName 5) gtNil))) (xPop 3))
    (sSeq (sSet 6 (eM (eM (eB (aCons (eVar 0) (aCons (eVar 4) (aCons (eBin gIx (eVar 5) (eC (.int 0))) aNil))) (m 7)) viewD) Ow.d))
    (sSeq (sIf (tOrE (eB (eBin gIsN (eVar 6) (eC .none)) asB) (eB (eBin gNe (eM (eCa gLen (aCons (eVar 6) aNil)) viewD) (eM (eCa gLen (aCons (eBin gIx (eVar 5) (eC (.int 2))) aNil)) viewD)) asB))
    (sRet (eM (eC (.bool false)) Ow.d))
    sSkip)
    (sFor (eB (aCons (eM (eCa gLen (aCons (eVar 6) aNil)) viewD) aNil) rg1) (gtName 7)
    (sApp 3 (eM (eTup (aCons (eBin gIx (eVar 6) (eVar 7)) (aCons (eBin gIx (eBin gIx (eVar 5) (eC (.int 2))) (eVar 7)) aNil))) Ow.d)))))) 1000000)
    (sRet (eM (eC (.bool true)) Ow.d))))) (envOf 5 ds)) := runB_fin _ _ _
theorem run_law (m : Nat → List PyData → R Ow) (ds : List PyData) : runB 14 (b_law m) ds = finR (((sSeq (sSet 1 (eM (eM (eB (aCons (eM (eB (aCons (eVar 0) (aCons (eC (.int 0)) aNil)) (m 4)) viewD) (aCons (eM (eB (aCons (eVar 0) (aCons (eC (.int 1)) aNil)) (m 4)) viewD) (aCons (eC (.int 3)) aNil))) (m 5)) viewD) Ow.d))
    (sSeq (sSet 2 (eM (eM (eB (aCons (eM (eB (aCons (eVar 0) (aCons (eC (.int 2)) aNil)) (m 4)) viewD) (aCons (eM (eB (aCons (eVar 0) (aCons (eC (.int 3)) aNil)) (m 4)) viewD) (aCons (eC (.int 7)) aNil))) (m 5)) viewD) Ow.d))
    (sSeq (sSet 3 (eM (eM (eLst (aCons (eTup (aCons (eBin gIx (eVar 1) (eC (.int 0))) (aCons (eM (eB (aCons (eVar 0) (aCons (eC (.int 4)) (aCons (eVar 1) (aCons (eVar 2) aNil)))) (m 6)) viewD) aNil))) (aCons (eTup (aCons (eBin gIx (eVar 1) (eC (.int 1))) (aCons (eM (eB (aCons (eVar 0) (aCons (eC (.int 8)) (aCons (eVar 1) (aCons (eVar 2) aNil)))) (m 6)) viewD) aNil))) aNil))) viewD) Ow.d))
    (sSeq (sSet 4 (eM (eM (eB (aCons (eVar 3) (aCons (eM (eSl (eVar 0) (eB (eC (.int 13)) asI) oNone) viewD) aNil)) (m 8)) viewD) Ow.d))
    (sSeq (sSet 5 (eM (eBin gMod (eM (eB (aCons (eVar 0) (aCons (eC (.int 12)) aNil)) (m 4)) viewD) (eBin gPow (eC (.int 10)) (eC (.int 9)))) Ow.d))
    (sSeq (sSet 6 (eM (eM (eB (aCons (eVar 4) (aCons (eBin gMod (eBin gDiv (eVar 5) (eC (.int 24))) (eM (eCa gLen (aCons (eVar 4) aNil)) viewD)) (aCons (eBin gMod (eVar 5) (eC (.int 4))) (aCons (eBin gIx (eVar 2) (eBin gMod (eBin gDiv (eVar 5) (eC (.int 4))) (eC (.int 6)))) aNil)))) (m 9)) viewD) Ow.d))
    (sSeq (sSet 7 (eM (eM (eLc (eB (eVar 3) itD) (gtTup 2 (gtCons (gtName 8) (gtCons (gtName 9) gtNil))) cYes (eM (eTup (aCons (eVar 8) (aCons (eM (eCa gList (aCons (eVar 9) aNil)) viewD) aNil))) Ow.d) (List.map (·.2) ([("_law_kind", 8), ("_law_rows_here", 9)] : List (Str × Nat)))) viewD) Ow.d))
    (sSeq (sFor (eB (eM (eLst (aCons (eBin gIx (eVar 1) (eC (.int 0))) (aCons (eBin gIx (eVar 1) (eC (.int 2))) (aCons (eBin gIx (eVar 1) (eC (.int 1))) (aCons (eBin gIx (eVar 1) (eC (.int 0))) aNil))))) viewD) itD) (gtName 8)
    (sSeq (sSet 10 (eM (eM (eB (aCons (eVar 7) (aCons (eVar 8) (aCons (eVar 6) aNil))) (m 2)) viewD) Ow.d))
    (sSeq (sIf (tOrE (tNotE (eB (eB (eVar 10) (gIsi "bool")) asB)) (eB (eBin gNe (eVar 10) (eM (eB (aCons (eVar 3) (aCons (eVar 8) (aCons (eVar 6) aNil))) (m 10)) viewD)) asB))
    (sRet (eM (eC (.bool false)) Ow.d))
    sSkip)
    (sFor (eB (eVar 2) itD) (gtName 11)
    (sSeq (sSet 12 (eM (eM (eB (aCons (eVar 7) (aCons (eVar 8) (aCons (eVar 11) aNil))) (m 1)) viewD) Ow.d))
    (sIf (tOrE (eB (eBin gNe (eVar 12) (eM (eB (aCons (eVar 3) (aCons (eVar 8) (aCons (eVar 11) aNil))) (m 7)) viewD)) asB) (tAndE (eB (eBin gNotN (eVar 12) (eC .none)) asB) (tNotE (eB (eB (eVar 12) (gIsi "tuple")) asB))))
    (sRet (eM (eC (.bool false)) Ow.d))
    sSkip))))))
    (sSeq (sFor (eB (eVar 3) itD) (gtTup 2 (gtCons (gtName 8) (gtCons (gtName 9) gtNil)))
    (sSeq (sSet 13 (eM (eM (eLc (eB (eVar 9) itD) (gtTup 2 (gtCons (gtName 11) (gtCons (gtName 14) gtNil))) (eB (eBin gEq (eVar 14) (eTup aNil)) asB) (eM (eVar 11) Ow.d) (List.map (·.2) ([("_law_name", 11), ("_law_branches", 14)] : List (Str × Nat)))) viewD) Ow.d))
    (sIf (eB (eBin gNe (eM (eB (aCons (eVar 7) (aCons (eVar 8) aNil)) (m 3)) viewD) (eTup (aCons (eM (eCa gMinS (aCons (eVar 13) aNil)) viewD) (aCons (eC (.int 0)) (aCons (eTup aNil) aNil))))) asB)
    (sRet (eM (eC (.bool false)) Ow.d))
    sSkip)))
    (sRet (eM (eBin gEq (eVar 7) (eVar 3)) Ow.d)))))))))))) (envOf 14 ds)) := runB_fin _ _ _
abbrev N_rows_of : List Str := ["wood", "kind", "told", "rows"]
theorem sc_rows_of : FnScope N_rows_of ["wood", "kind"] (defScope s_rows_of) := ⟨rfl, rfl, rfl, by decide +kernel, rfl, by decide +kernel, by decide +kernel⟩
abbrev N_row_of : List Str := ["wood", "kind", "name", "told", "branches"]
theorem sc_row_of : FnScope N_row_of ["wood", "kind", "name"] (defScope s_row_of) := ⟨rfl, rfl, rfl, by decide +kernel, rfl, by decide +kernel, by decide +kernel⟩
abbrev N_is_of : List Str := ["wood", "kind", "tree", "branches", "wanted", "branch"]
theorem sc_is_of : FnScope N_is_of ["wood", "kind", "tree"] (defScope s_is_of) := ⟨rfl, rfl, rfl, by decide +kernel, rfl, by decide +kernel, by decide +kernel⟩
abbrev N_leaf_of : List Str := ["wood", "kind", "bare", "name", "branches"]
theorem sc_leaf_of : FnScope N_leaf_of ["wood", "kind"] (defScope s_leaf_of) := ⟨rfl, rfl, rfl, by decide +kernel, rfl, by decide +kernel, by decide +kernel⟩
abbrev N__law_cell_at : List Str := ["_law_script", "_law_k"]
theorem sc__law_cell_at : FnScope N__law_cell_at ["_law_script", "_law_k"] (defScope s__law_cell_at) := ⟨rfl, rfl, rfl, by decide +kernel, rfl, by decide +kernel, by decide +kernel⟩
abbrev N__law_names : List Str := ["_law_cell", "_law_where", "_law_lots", "_law_letters", "_law_number", "_law_base", "_law_k", "_law_there", "_law_first"]
theorem sc__law_names : FnScope N__law_names ["_law_cell", "_law_where", "_law_lots"] (defScope s__law_names) := ⟨rfl, rfl, rfl, by decide +kernel, rfl, by decide +kernel, by decide +kernel⟩
abbrev N__law_rows : List Str := ["_law_script", "_law_start", "_law_kinds", "_law_names_here", "_law_number", "_law_rows_here", "_law_k", "_law_more", "_law_branches", "_law_j"]
theorem sc__law_rows : FnScope N__law_rows ["_law_script", "_law_start", "_law_kinds", "_law_names_here"] (defScope s__law_rows) := ⟨rfl, rfl, rfl, by decide +kernel, rfl, by decide +kernel, by decide +kernel⟩
abbrev N__law_row : List Str := ["_law_wood", "_law_kind", "_law_name", "_law_told", "_law_rows_here", "_law_row_here"]
theorem sc__law_row : FnScope N__law_row ["_law_wood", "_law_kind", "_law_name"] (defScope s__law_row) := ⟨rfl, rfl, rfl, by decide +kernel, rfl, by decide +kernel, by decide +kernel⟩
abbrev N__law_drawn : List Str := ["_law_wood", "_law_cells", "_law_heads", "_law_todo", "_law_kind", "_law_up", "_law_number", "_law_rows_here", "_law_row_here", "_law_name", "_law_branches", "_law_own"]
theorem sc__law_drawn : FnScope N__law_drawn ["_law_wood", "_law_cells"] (defScope s__law_drawn) := ⟨rfl, rfl, rfl, by decide +kernel, rfl, by decide +kernel, by decide +kernel⟩
abbrev N__law_made : List Str := ["_law_heads", "_law_spot", "_law_way", "_law_name", "_law_below", "_law_head", "_law_tree", "_law_k", "_law_parts", "_law_told"]
theorem sc__law_made : FnScope N__law_made ["_law_heads", "_law_spot", "_law_way", "_law_name"] (defScope s__law_made) := ⟨rfl, rfl, rfl, by decide +kernel, rfl, by decide +kernel, by decide +kernel⟩
abbrev N__law_is : List Str := ["_law_wood", "_law_kind", "_law_tree", "_law_todo", "_law_other", "_law_here", "_law_row_here", "_law_k"]
theorem sc__law_is : FnScope N__law_is ["_law_wood", "_law_kind", "_law_tree"] (defScope s__law_is) := ⟨rfl, rfl, rfl, by decide +kernel, rfl, by decide +kernel, by decide +kernel⟩
abbrev N_law : List Str := ["_law_script", "_law_kinds", "_law_names_here", "_law_wood", "_law_heads", "_law_way", "_law_tree", "_law_handed", "_law_kind", "_law_rows_here", "_law_found", "_law_name", "_law_row_here", "_law_bare", "_law_branches"]
theorem sc_law : FnScope N_law ["_law_script"] (defScope s_law) := ⟨rfl, rfl, rfl, by decide +kernel, rfl, by decide +kernel, by decide +kernel⟩
structure Txt (K : PySem.W.Frag) (mg : Str → Option Value) (f : Nat → Addr) (fd : Nat → FuncData) : Prop where
  F_rows_of : Fun K "rows_of" "rows_of" s_rows_of (f 0) (fd 0)
  B_rows_of : Binds K (fd 0) ["wood", "kind"] []
  M_rows_of : mg "rows_of" = some (.ref (f 0))
  F_row_of : Fun K "row_of" "row_of" s_row_of (f 1) (fd 1)
  B_row_of : Binds K (fd 1) ["wood", "kind", "name"] []
  M_row_of : mg "row_of" = some (.ref (f 1))
  F_is_of : Fun K "is_of" "is_of" s_is_of (f 2) (fd 2)
  B_is_of : Binds K (fd 2) ["wood", "kind", "tree"] []
  M_is_of : mg "is_of" = some (.ref (f 2))
  F_leaf_of : Fun K "leaf_of" "leaf_of" s_leaf_of (f 3) (fd 3)
  B_leaf_of : Binds K (fd 3) ["wood", "kind"] []
  M_leaf_of : mg "leaf_of" = some (.ref (f 3))
  F__law_cell_at : Fun K "_law_cell_at" "_law_cell_at" s__law_cell_at (f 4) (fd 4)
  B__law_cell_at : Binds K (fd 4) ["_law_script", "_law_k"] []
  M__law_cell_at : mg "_law_cell_at" = some (.ref (f 4))
  F__law_names : Fun K "_law_names" "_law_names" s__law_names (f 5) (fd 5)
  B__law_names : Binds K (fd 5) ["_law_cell", "_law_where", "_law_lots"] []
  M__law_names : mg "_law_names" = some (.ref (f 5))
  F__law_rows : Fun K "_law_rows" "_law_rows" s__law_rows (f 6) (fd 6)
  B__law_rows : Binds K (fd 6) ["_law_script", "_law_start", "_law_kinds", "_law_names_here"] []
  M__law_rows : mg "_law_rows" = some (.ref (f 6))
  F__law_row : Fun K "_law_row" "_law_row" s__law_row (f 7) (fd 7)
  B__law_row : Binds K (fd 7) ["_law_wood", "_law_kind", "_law_name"] []
  M__law_row : mg "_law_row" = some (.ref (f 7))
  F__law_drawn : Fun K "_law_drawn" "_law_drawn" s__law_drawn (f 8) (fd 8)
  B__law_drawn : Binds K (fd 8) ["_law_wood", "_law_cells"] []
  M__law_drawn : mg "_law_drawn" = some (.ref (f 8))
  F__law_made : Fun K "_law_made" "_law_made" s__law_made (f 9) (fd 9)
  B__law_made : Binds K (fd 9) ["_law_heads", "_law_spot", "_law_way", "_law_name"] []
  M__law_made : mg "_law_made" = some (.ref (f 9))
  F__law_is : Fun K "_law_is" "_law_is" s__law_is (f 10) (fd 10)
  B__law_is : Binds K (fd 10) ["_law_wood", "_law_kind", "_law_tree"] []
  M__law_is : mg "_law_is" = some (.ref (f 10))
  F_law : Fun K "law" "law" s_law (f 11) (fd 11)
  B_law : Binds K (fd 11) ["_law_script"] []
  M_law : mg "law" = some (.ref (f 11))
  z_bool : mg "bool" = none
  z_dict : mg "dict" = none
  z_isinstance : mg "isinstance" = none
  z_len : mg "len" = none
  z_list : mg "list" = none
  z_min : mg "min" = none
  z_range : mg "range" = none
  z_sorted : mg "sorted" = none
  z_tuple : mg "tuple" = none
  z_zip : mg "zip" = none
structure Fns (P : Program) (w : World) (K : PySem.W.Frag) (mg : Str → Option Value) (base : Heap) (f : Nat → Addr) (fd : Nat → FuncData) (n : Nat) : Prop where
  g_rows_of : FnOk P w K mg base (L2.CX P w) n (f 0) (fd 0) ["wood", "kind"] (spM K mg 2 (mir n 0))
  g_row_of : FnOk P w K mg base (L2.CX P w) n (f 1) (fd 1) ["wood", "kind", "name"] (spM K mg 3 (mir n 1))
  g_is_of : FnOk P w K mg base (L2.CX P w) n (f 2) (fd 2) ["wood", "kind", "tree"] (spM K mg 3 (mir n 2))
  g_leaf_of : FnOk P w K mg base (L2.CX P w) n (f 3) (fd 3) ["wood", "kind"] (spM K mg 2 (mir n 3))
  g__law_cell_at : FnOk P w K mg base (L2.CX P w) n (f 4) (fd 4) ["_law_script", "_law_k"] (spM K mg 2 (mir n 4))
  g__law_names : FnOk P w K mg base (L2.CX P w) n (f 5) (fd 5) ["_law_cell", "_law_where", "_law_lots"] (spM K mg 3 (mir n 5))
  g__law_rows : FnOk P w K mg base (L2.CX P w) n (f 6) (fd 6) ["_law_script", "_law_start", "_law_kinds", "_law_names_here"] (spM K mg 4 (mir n 6))
  g__law_row : FnOk P w K mg base (L2.CX P w) n (f 7) (fd 7) ["_law_wood", "_law_kind", "_law_name"] (spM K mg 3 (mir n 7))
  g__law_drawn : FnOk P w K mg base (L2.CX P w) n (f 8) (fd 8) ["_law_wood", "_law_cells"] (spM K mg 2 (mir n 8))
  g__law_made : FnOk P w K mg base (L2.CX P w) n (f 9) (fd 9) ["_law_heads", "_law_spot", "_law_way", "_law_name"] (spM K mg 4 (mir n 9))
  g__law_is : FnOk P w K mg base (L2.CX P w) n (f 10) (fd 10) ["_law_wood", "_law_kind", "_law_tree"] (spM K mg 3 (mir n 10))
  g_law : FnOk P w K mg base (L2.CX P w) n (f 11) (fd 11) ["_law_script"] (spM K mg 1 (mir n 11))
section
variable {P : Program} {w : World} {K : PySem.W.Frag} {mg : Str → Option Value} {base : Heap} {f : Nat → Addr} {fd : Nat → FuncData} {n : Nat}
theorem ok_rows_of (T : Txt K mg f fd) (G : Fns P w K mg base f fd n) : FnOk P w K mg base (L2.CX P w) (n + 1) (f 0) (fd 0) ["wood", "kind"] (spM K mg 2 (mir (n + 1) 0)) :=
  mk_fn (l := 2) (fb := b_rows_of (mir n)) T.F_rows_of sc_rows_of rfl (fun _ => rfl) fun cdv A outer s H E hr =>
    (dss_cons (ds_for (ix := [2, 3]) (passes_of rfl) rfl (di_seq (df_var 0)) (dg_tup (n := 2) rfl (dgs_cons (dg_name 2 sc_rows_of.nd) (dgs_cons (dg_name 3 sc_rows_of.nd) dgs_nil)))
    (dss_one (ds_if (dt_eq (room_eq hr) (dv_df (df_var 2)) (dv_df (df_var 1)))
    (dss_one (ds_ret (de_df (df_var 3))))
    dss_nil)))
    (dss_one (ds_ret (de_lst da_nil))))
theorem ok_row_of (T : Txt K mg f fd) (G : Fns P w K mg base f fd n) : FnOk P w K mg base (L2.CX P w) (n + 1) (f 1) (fd 1) ["wood", "kind", "name"] (spM K mg 3 (mir (n + 1) 1)) :=
  mk_fn (l := 2) (fb := b_row_of (mir n)) T.F_row_of sc_row_of rfl (fun _ => rfl) fun cdv A outer s H E hr =>
    (dss_cons (ds_for (ix := [3, 4]) (passes_of rfl) rfl (di_seq (df_de (de_call G.g_rows_of (takes_of rfl rfl rfl rfl) hr rfl T.M_rows_of T.F_rows_of.kp T.B_rows_of (da_cons (df_var 0) (da_cons (df_var 1) da_nil)) (aCons_len (aCons_len (fun _ _ h => aNil_len h)))))) (dg_tup (n := 2) rfl (dgs_cons (dg_name 3 sc_row_of.nd) (dgs_cons (dg_name 4 sc_row_of.nd) dgs_nil)))
    (dss_one (ds_if (dt_eq (room_eq hr) (dv_df (df_var 3)) (dv_df (df_var 2)))
    (dss_one (ds_ret (de_df (df_var 4))))
    dss_nil)))
    (dss_one (ds_ret (de_df df_non))))
theorem ok_is_of (T : Txt K mg f fd) (G : Fns P w K mg base f fd n) : FnOk P w K mg base (L2.CX P w) (n + 1) (f 2) (fd 2) ["wood", "kind", "tree"] (spM K mg 3 (mir (n + 1) 2)) :=
  mk_fn (l := 3) (fb := b_is_of (mir n)) T.F_is_of sc_is_of rfl (fun _ => rfl) fun cdv A outer s H E hr =>
    (dss_cons (ds_set 3 sc_is_of.nd (de_df (df_de (de_call G.g_row_of (takes_of rfl rfl rfl rfl) hr rfl T.M_row_of T.F_row_of.kp T.B_row_of (da_cons (df_var 0) (da_cons (df_var 1) (da_cons (df_ix (dl_df (df_var 2)) (dv_df df_int)) da_nil))) (aCons_len (aCons_len (aCons_len (fun _ _ h => aNil_len h))))))))
    (dss_cons (ds_if (dt_dw (dw_or (dt_isN (dv_df (df_var 3)) (dv_df df_non)) (dw_or1 (dt_ne (room_eq hr) (dv_de (de_len rfl T.z_len (dal_cons (dl_df (df_var 3)) dal_nil))) (dv_de (de_len rfl T.z_len (dal_cons (dl_df (df_ix (dl_df (df_var 2)) (dv_df df_int))) dal_nil)))))))
    (dss_one (ds_ret (de_df df_bl)))
    dss_nil)
    (dss_cons (ds_for (ix := [4, 5]) (passes_of rfl) rfl (di_zip rfl T.z_zip (da_cons (df_var 3) (da_cons (df_ix (dl_df (df_var 2)) (dv_df df_int)) da_nil))) (dg_tup (n := 2) rfl (dgs_cons (dg_name 4 sc_is_of.nd) (dgs_cons (dg_name 5 sc_is_of.nd) dgs_nil)))
    (dss_one (ds_if (dt_not (dt_val (dv_de (de_call G.g_is_of (takes_of rfl rfl rfl rfl) hr rfl T.M_is_of T.F_is_of.kp T.B_is_of (da_cons (df_var 0) (da_cons (df_var 4) (da_cons (df_var 5) da_nil))) (aCons_len (aCons_len (aCons_len (fun _ _ h => aNil_len h))))))))
    (dss_one (ds_ret (de_df df_bl)))
    dss_nil)))
    (dss_one (ds_ret (de_df df_bl))))))
theorem ok_leaf_of (T : Txt K mg f fd) (G : Fns P w K mg base f fd n) : FnOk P w K mg base (L2.CX P w) (n + 1) (f 3) (fd 3) ["wood", "kind"] (spM K mg 2 (mir (n + 1) 3)) :=
  mk_fn (l := 3) (fb := b_leaf_of (mir n)) T.F_leaf_of sc_leaf_of rfl (fun _ => rfl) fun cdv A outer s H E hr =>
    (dss_cons (ds_setLcF 2 (own := [("name", 3), ("branches", 4)]) (ix := [3, 4]) rfl sc_leaf_of.nd (di_seq (df_de (de_call G.g_rows_of (takes_of rfl rfl rfl rfl) hr rfl T.M_rows_of T.F_rows_of.kp T.B_rows_of (da_cons (df_var 0) (da_cons (df_var 1) da_nil)) (aCons_len (aCons_len (fun _ _ h => aNil_len h)))))) (blkOk_by (N := N_leaf_of) (sc := defScope s_leaf_of) (by decide +kernel)) (fun _ _ _ _ _ => (dg_tup (n := 2) rfl (dgs_cons (dg_name 3 sc_leaf_of.nd) (dgs_cons (dg_name 4 sc_leaf_of.nd) dgs_nil)))) (fun _ _ _ _ _ => (dts_one (dt_eq (room_eq hr) (dv_df (df_var 4)) (dv_df (df_tup da_nil))))) (fun _ _ _ _ _ => (de_df (df_var 3))))
    (dss_one (ds_ret (de_df (df_tup (da_cons (df_ix (dl_df (df_var 2)) (dv_df df_int)) (da_cons df_int (da_cons (df_tup da_nil) da_nil))))))))
theorem ok__law_cell_at (T : Txt K mg f fd) (G : Fns P w K mg base f fd n) : FnOk P w K mg base (L2.CX P w) (n + 1) (f 4) (fd 4) ["_law_script", "_law_k"] (spM K mg 2 (mir (n + 1) 4)) :=
  mk_fn (l := 0) (fb := b__law_cell_at (mir n)) T.F__law_cell_at sc__law_cell_at rfl (fun _ => rfl) fun cdv A outer s H E hr =>
    (dss_cons (ds_if (dt_lt (dv_df (df_var 1)) (dv_de (de_len rfl T.z_len (dal_cons (dl_df (df_var 0)) dal_nil))))
    (dss_one (ds_ret (de_df (df_ix (dl_df (df_var 0)) (dv_df (df_var 1))))))
    dss_nil)
    (dss_one (ds_ret (de_df df_int))))
theorem ok__law_names (T : Txt K mg f fd) (G : Fns P w K mg base f fd n) : FnOk P w K mg base (L2.CX P w) (n + 1) (f 5) (fd 5) ["_law_cell", "_law_where", "_law_lots"] (spM K mg 3 (mir (n + 1) 5)) :=
  mk_fn (l := 6) (fb := b__law_names (mir n)) T.F__law_names sc__law_names rfl (fun _ => rfl) fun cdv A outer s H E hr =>
    (dss_cons (ds_set 3 sc__law_names.nd (de_df df_str))
    (dss_cons (ds_set 4 sc__law_names.nd (de_df (df_mod (dv_df (df_var 0)) (dv_df (df_pow (dv_df df_int) (dv_df df_int))))))
    (dss_cons (ds_set 5 sc__law_names.nd (de_df df_str))
    (dss_cons (ds_for (ix := [6]) (passes_of rfl) rfl (di_range1 rfl T.z_range (da_cons (df_de (de_add (dl_df df_int) (dl_df (df_mod (dv_df (df_var 4)) (dv_df df_int))))) da_nil)) (dg_name 6 sc__law_names.nd)
    (dss_one (ds_set 5 sc__law_names.nd (de_df (df_de (de_add (dl_df (df_var 5)) (dl_df (df_ix (dl_df (df_var 3)) (dv_df (df_mod (dv_de (de_add (dl_df (df_div (dv_df (df_var 4)) (dv_de (de_add (dl_df (df_var 6)) (dl_df df_int))))) (dl_df (df_mul (dv_df (df_mul (dv_df df_int) (dv_df (df_var 6)))) (dv_df (df_var 6)))))) (dv_df df_int)))))))))))
    (dss_cons (ds_set 7 sc__law_names.nd (de_df (df_mod (dv_df (df_var 1)) (dv_de (de_len rfl T.z_len (dal_cons (dl_df (df_var 5)) dal_nil))))))
    (dss_cons (ds_set 8 sc__law_names.nd (de_df (df_txIndex (dv_df (df_var 3)) (dv_df (df_ix (dl_df (df_var 5)) (dv_df (df_var 7)))))))
    (dss_one (ds_ret (de_lc (own := [("_law_k", 6)]) (ix := [6]) rfl sc__law_names.nd (di_range1 rfl T.z_range (da_cons (df_var 2) da_nil)) (blkOk_by (N := N__law_names) (sc := defScope s__law_names) (by decide +kernel)) (fun _ _ _ _ _ => (dg_name 6 sc__law_names.nd)) (fun _ _ _ _ _ => dts_nil) (fun _ _ _ _ _ => (de_add (dl_de (de_add (dl_de (de_slice (dl_df (df_var 5)) do_none (do_some (dv_df (df_var 7))))) (dl_df (df_ix (dl_df (df_var 3)) (dv_df (df_mod (dv_de (de_add (dl_df (df_var 8)) (dl_df (df_var 6)))) (dv_df df_int))))))) (dl_de (de_slice (dl_df (df_var 5)) (do_some (dv_de (de_add (dl_df (df_var 7)) (dl_df df_int)))) do_none)))))))))))))
theorem ok__law_rows (T : Txt K mg f fd) (G : Fns P w K mg base f fd n) : FnOk P w K mg base (L2.CX P w) (n + 1) (f 6) (fd 6) ["_law_script", "_law_start", "_law_kinds", "_law_names_here"] (spM K mg 4 (mir (n + 1) 6)) :=
  mk_fn (l := 6) (fb := b__law_rows (mir n)) T.F__law_rows sc__law_rows rfl (fun _ => rfl) fun cdv A outer s H E hr =>
    (dss_cons (ds_set 4 sc__law_rows.nd (de_df (df_mod (dv_de (de_call G.g__law_cell_at (takes_of rfl rfl rfl rfl) hr rfl T.M__law_cell_at T.F__law_cell_at.kp T.B__law_cell_at (da_cons (df_var 0) (da_cons (df_var 1) da_nil)) (aCons_len (aCons_len (fun _ _ h => aNil_len h))))) (dv_df (df_pow (dv_df df_int) (dv_df df_int))))))
    (dss_cons (ds_set 5 sc__law_rows.nd (de_lst (da_cons (df_tup (da_cons (df_ix (dl_df (df_var 3)) (dv_df (df_mod (dv_df (df_var 4)) (dv_df df_int)))) (da_cons (df_tup da_nil) da_nil))) da_nil)))
    (dss_cons (ds_for (ix := [6]) (passes_of rfl) rfl (di_range2 rfl T.z_range (da_cons df_int (da_cons (df_de (de_add (dl_df df_int) (dl_df (df_mod (dv_df (df_div (dv_df (df_var 4)) (dv_df df_int))) (dv_df df_int))))) da_nil))) (dg_name 6 sc__law_rows.nd)
    (dss_cons (ds_set 7 sc__law_rows.nd (de_df (df_mod (dv_de (de_call G.g__law_cell_at (takes_of rfl rfl rfl rfl) hr rfl T.M__law_cell_at T.F__law_cell_at.kp T.B__law_cell_at (da_cons (df_var 0) (da_cons (df_de (de_add (dl_df (df_var 1)) (dl_df (df_var 6)))) da_nil)) (aCons_len (aCons_len (fun _ _ h => aNil_len h))))) (dv_df (df_pow (dv_df df_int) (dv_df df_int))))))
    (dss_cons (ds_set 8 sc__law_rows.nd (de_df (df_de (de_tuple rfl T.z_tuple (dal_cons (dl_de (de_lc (own := [("_law_j", 9)]) (ix := [9]) rfl sc__law_rows.nd (di_range1 rfl T.z_range (da_cons (df_mod (dv_df (df_var 7)) (dv_df df_int)) da_nil)) (blkOk_by (N := N__law_rows) (sc := defScope s__law_rows) (by decide +kernel)) (fun _ _ _ _ _ => (dg_name 9 sc__law_rows.nd)) (fun _ _ _ _ _ => dts_nil) (fun _ _ _ _ _ => (de_df (df_ix (dl_df (df_var 2)) (dv_df (df_mod (dv_df (df_div (dv_df (df_var 7)) (dv_de (de_add (dl_df df_int) (dl_df (df_mul (dv_df df_int) (dv_df (df_var 9)))))))) (dv_df df_int)))))))) dal_nil)))))
    (dss_one (ds_app 5 (de_df (df_tup (da_cons (df_ix (dl_df (df_var 3)) (dv_df (df_mod (dv_de (de_add (dl_df (df_var 4)) (dl_df (df_var 6)))) (dv_df df_int)))) (da_cons (df_var 8) da_nil)))))))))
    (dss_one (ds_ret (de_sorted (room_eq hr) rfl T.z_sorted (dal_cons (dl_dp (dp_var 5)) dal_nil)))))))
theorem ok__law_row (T : Txt K mg f fd) (G : Fns P w K mg base f fd n) : FnOk P w K mg base (L2.CX P w) (n + 1) (f 7) (fd 7) ["_law_wood", "_law_kind", "_law_name"] (spM K mg 3 (mir (n + 1) 7)) :=
  mk_fn (l := 3) (fb := b__law_row (mir n)) T.F__law_row sc__law_row rfl (fun _ => rfl) fun cdv A outer s H E hr =>
    (dss_cons (ds_for (ix := [3, 4]) (passes_of rfl) rfl (di_seq (df_var 0)) (dg_tup (n := 2) rfl (dgs_cons (dg_name 3 sc__law_row.nd) (dgs_cons (dg_name 4 sc__law_row.nd) dgs_nil)))
    (dss_one (ds_for (ix := [5]) (passes_of rfl) rfl (di_seq (df_var 4)) (dg_name 5 sc__law_row.nd)
    (dss_one (ds_if (dt_dw (dw_and (dt_eq (room_eq hr) (dv_df (df_var 3)) (dv_df (df_var 1))) (dw_and1 (dt_eq (room_eq hr) (dv_df (df_ix (dl_df (df_var 5)) (dv_df df_int))) (dv_df (df_var 2))))))
    (dss_one (ds_ret (de_df (df_ix (dl_df (df_var 5)) (dv_df df_int)))))
    dss_nil)))))
    (dss_one (ds_ret (de_df df_non))))
theorem ok__law_drawn (T : Txt K mg f fd) (G : Fns P w K mg base f fd n) : FnOk P w K mg base (L2.CX P w) (n + 1) (f 8) (fd 8) ["_law_wood", "_law_cells"] (spM K mg 2 (mir (n + 1) 8)) :=
  mk_fn (l := 10) (fb := b__law_drawn (mir n)) T.F__law_drawn sc__law_drawn rfl (fun _ => rfl) fun cdv A outer s H E hr =>
    (dss_cons (ds_set 2 sc__law_drawn.nd (de_lst da_nil))
    (dss_cons (ds_set 3 sc__law_drawn.nd (de_lst (da_cons (df_tup (da_cons (df_ix (dl_df (df_ix (dl_df (df_var 0)) (dv_df df_int))) (dv_df df_int)) (da_cons df_int da_nil))) da_nil)))
    (dss_cons (ds_while 1000000 (passes_of rfl) (dt_ne (room_eq hr) (dv_dp (dp_var 3)) (dv_de (de_lst da_nil)))
    (dss_cons (ds_xasg (ix := [4, 5]) (xf_pop 3) (dg_tup (n := 2) rfl (dgs_cons (dg_name 4 sc__law_drawn.nd) (dgs_cons (dg_name 5 sc__law_drawn.nd) dgs_nil))))
    (dss_cons (ds_set 6 sc__law_drawn.nd (de_df df_int))
    (dss_cons (ds_if (dt_lt (dv_de (de_len rfl T.z_len (dal_cons (dl_dp (dp_var 2)) dal_nil))) (dv_de (de_len rfl T.z_len (dal_cons (dl_df (df_var 1)) dal_nil))))
    (dss_one (ds_set 6 sc__law_drawn.nd (de_df (df_mod (dv_df (df_ix (dl_df (df_var 1)) (dv_de (de_len rfl T.z_len (dal_cons (dl_dp (dp_var 2)) dal_nil))))) (dv_df (df_pow (dv_df df_int) (dv_df df_int)))))))
    dss_nil)
    (dss_cons (ds_set 7 sc__law_drawn.nd (de_df (df_dictIx rfl (room_eq hr) rfl T.z_dict (dl_df (df_var 0)) (dv_df (df_var 4)))))
    (dss_cons (ds_if (dt_ge (dv_de (de_len rfl T.z_len (dal_cons (dl_dp (dp_var 2)) dal_nil))) (dv_df df_int))
    (dss_one (ds_setLcF 7 (own := [("_law_row_here", 8)]) (ix := [8]) rfl sc__law_drawn.nd (di_seq (df_var 7)) (blkOk_by (N := N__law_drawn) (sc := defScope s__law_drawn) (by decide +kernel)) (fun _ _ _ _ _ => (dg_name 8 sc__law_drawn.nd)) (fun _ _ _ _ _ => (dts_one (dt_eq (room_eq hr) (dv_df (df_ix (dl_df (df_var 8)) (dv_df df_int))) (dv_df (df_tup da_nil))))) (fun _ _ _ _ _ => (de_df (df_var 8)))))
    dss_nil)
    (dss_cons (ds_asg (ix := [9, 10]) (df_ix (dl_df (df_var 7)) (dv_df (df_mod (dv_df (df_var 6)) (dv_de (de_len rfl T.z_len (dal_cons (dl_df (df_var 7)) dal_nil)))))) (dg_tup (n := 2) rfl (dgs_cons (dg_name 9 sc__law_drawn.nd) (dgs_cons (dg_name 10 sc__law_drawn.nd) dgs_nil))))
    (dss_cons (ds_app 2 (de_df (df_tup (da_cons (df_var 9) (da_cons (df_de (de_add (dl_df (df_sub (dv_df (df_mod (dv_df (df_mul (dv_df (df_div (dv_df (df_var 6)) (dv_df df_int))) (dv_df df_int))) (dv_df (df_sub (dv_df (df_mul (dv_df df_int) (dv_df (df_pow (dv_df df_int) (dv_df df_int))))) (dv_df df_int))))) (dv_df (df_pow (dv_df df_int) (dv_df df_int))))) (dl_df df_int))) (da_cons (df_var 5) da_nil))))))
    (dss_one (ds_for (ix := [11]) (passes_of rfl) rfl (di_seq (df_var 10)) (dg_name 11 sc__law_drawn.nd)
    (dss_one (ds_app 3 (de_df (df_tup (da_cons (df_var 11) (da_cons (df_sub (dv_de (de_len rfl T.z_len (dal_cons (dl_dp (dp_var 2)) dal_nil))) (dv_df df_int)) da_nil))))))))))))))))
    (dss_one (ds_retV 2)))))
theorem ok__law_made (T : Txt K mg f fd) (G : Fns P w K mg base f fd n) : FnOk P w K mg base (L2.CX P w) (n + 1) (f 9) (fd 9) ["_law_heads", "_law_spot", "_law_way", "_law_name"] (spM K mg 4 (mir (n + 1) 9)) :=
  mk_fn (l := 6) (fb := b__law_made (mir n)) T.F__law_made sc__law_made rfl (fun _ => rfl) fun cdv A outer s H E hr =>
    (dss_cons (ds_setLc 4 (own := [("_law_head", 5)]) (ix := [5]) rfl sc__law_made.nd (di_seq (df_var 0)) (blkOk_by (N := N__law_made) (sc := defScope s__law_made) (by decide +kernel)) (fun _ _ _ _ _ => (dg_name 5 sc__law_made.nd)) (fun _ _ _ _ _ => dts_nil) (fun _ _ _ _ _ => (de_lst da_nil)))
    (dss_cons (ds_set 6 sc__law_made.nd (de_df df_non))
    (dss_cons (ds_for (ix := [7]) (passes_of rfl) rfl (di_range3 rfl T.z_range (da_cons (df_sub (dv_de (de_len rfl T.z_len (dal_cons (dl_df (df_var 0)) dal_nil))) (dv_df df_int)) (da_cons (df_neg (dv_df df_int)) (da_cons (df_neg (dv_df df_int)) da_nil)))) (dg_name 7 sc__law_made.nd)
    (dss_cons (ds_set 8 sc__law_made.nd (de_df (df_de (de_list rfl T.z_list (dal_cons (dl_dp (dp_ix (dp_var 4) (dv_df (df_var 7)))) dal_nil)))))
    (dss_cons (ds_set 9 sc__law_made.nd (de_df (df_ix (dl_df (df_ix (dl_df (df_var 0)) (dv_df (df_var 7)))) (dv_df df_int))))
    (dss_cons (ds_if (dt_dw (dw_and (dt_eq (room_eq hr) (dv_df (df_var 7)) (dv_df (df_var 1))) (dw_and1 (dt_eq (room_eq hr) (dv_df (df_var 2)) (dv_df df_int)))))
    (dss_one (ds_set 9 sc__law_made.nd (de_df (df_var 3))))
    dss_nil)
    (dss_cons (ds_if (dt_dw (dw_and (dt_eq (room_eq hr) (dv_df (df_var 7)) (dv_df (df_var 1))) (dw_and1 (dt_eq (room_eq hr) (dv_df (df_var 2)) (dv_df df_int)))))
    (dss_one (ds_set 8 sc__law_made.nd (de_df (df_de (de_slice (dl_df (df_var 8)) (do_some (dv_df df_int)) do_none)))))
    dss_nil)
    (dss_cons (ds_if (dt_dw (dw_and (dt_eq (room_eq hr) (dv_df (df_var 7)) (dv_df (df_var 1))) (dw_and1 (dt_eq (room_eq hr) (dv_df (df_var 2)) (dv_df df_int)))))
    (dss_one (ds_set 8 sc__law_made.nd (de_df (df_de (de_add (dl_df (df_var 8)) (dl_de (de_slice (dl_df (df_var 8)) do_none (do_some (dv_df df_int)))))))))
    dss_nil)
    (dss_cons (ds_set 6 sc__law_made.nd (de_df (df_tup (da_cons (df_var 9) (da_cons (df_ix (dl_df (df_ix (dl_df (df_var 0)) (dv_df (df_var 7)))) (dv_df df_int)) (da_cons (df_de (de_tuple rfl T.z_tuple (dal_cons (dl_df (df_var 8)) dal_nil))) da_nil))))))
    (dss_one (ds_app1 4 (dv_df (df_ix (dl_df (df_ix (dl_df (df_var 0)) (dv_df (df_var 7)))) (dv_df df_int))) (de_df (df_var 6)))))))))))
    (dss_one (ds_ret (de_df (df_var 6)))))))
theorem ok__law_is (T : Txt K mg f fd) (G : Fns P w K mg base f fd n) : FnOk P w K mg base (L2.CX P w) (n + 1) (f 10) (fd 10) ["_law_wood", "_law_kind", "_law_tree"] (spM K mg 3 (mir (n + 1) 10)) :=
  mk_fn (l := 5) (fb := b__law_is (mir n)) T.F__law_is sc__law_is rfl (fun _ => rfl) fun cdv A outer s H E hr =>
    (dss_cons (ds_set 3 sc__law_is.nd (de_lst (da_cons (df_tup (da_cons (df_var 1) (da_cons (df_var 2) da_nil))) da_nil)))
    (dss_cons (ds_while 1000000 (passes_of rfl) (dt_ne (room_eq hr) (dv_dp (dp_var 3)) (dv_de (de_lst da_nil)))
    (dss_cons (ds_xasg (ix := [4, 5]) (xf_pop 3) (dg_tup (n := 2) rfl (dgs_cons (dg_name 4 sc__law_is.nd) (dgs_cons (dg_name 5 sc__law_is.nd) dgs_nil))))
    (dss_cons (ds_set 6 sc__law_is.nd (de_df (df_de (de_call G.g__law_row (takes_of rfl rfl rfl rfl) hr rfl T.M__law_row T.F__law_row.kp T.B__law_row (da_cons (df_var 0) (da_cons (df_var 4) (da_cons (df_ix (dl_df (df_var 5)) (dv_df df_int)) da_nil))) (aCons_len (aCons_len (aCons_len (fun _ _ h => aNil_len h))))))))
    (dss_cons (ds_if (dt_dw (dw_or (dt_isN (dv_df (df_var 6)) (dv_df df_non)) (dw_or1 (dt_ne (room_eq hr) (dv_de (de_len rfl T.z_len (dal_cons (dl_df (df_var 6)) dal_nil))) (dv_de (de_len rfl T.z_len (dal_cons (dl_df (df_ix (dl_df (df_var 5)) (dv_df df_int))) dal_nil)))))))
    (dss_one (ds_ret (de_df df_bl)))
    dss_nil)
    (dss_one (ds_for (ix := [7]) (passes_of rfl) rfl (di_range1 rfl T.z_range (da_cons (df_de (de_len rfl T.z_len (dal_cons (dl_df (df_var 6)) dal_nil))) da_nil)) (dg_name 7 sc__law_is.nd)
    (dss_one (ds_app 3 (de_df (df_tup (da_cons (df_ix (dl_df (df_var 6)) (dv_df (df_var 7))) (da_cons (df_ix (dl_df (df_ix (dl_df (df_var 5)) (dv_df df_int))) (dv_df (df_var 7))) da_nil))))))))))))
    (dss_one (ds_ret (de_df df_bl)))))
theorem ok_law (T : Txt K mg f fd) (G : Fns P w K mg base f fd n) : FnOk P w K mg base (L2.CX P w) (n + 1) (f 11) (fd 11) ["_law_script"] (spM K mg 1 (mir (n + 1) 11)) :=
  mk_fn (l := 14) (fb := b_law (mir n)) T.F_law sc_law rfl (fun _ => rfl) fun cdv A outer s H E hr =>
    (dss_cons (ds_set 1 sc_law.nd (de_df (df_de (de_call G.g__law_names (takes_of rfl rfl rfl rfl) hr rfl T.M__law_names T.F__law_names.kp T.B__law_names (da_cons (df_de (de_call G.g__law_cell_at (takes_of rfl rfl rfl rfl) hr rfl T.M__law_cell_at T.F__law_cell_at.kp T.B__law_cell_at (da_cons (df_var 0) (da_cons df_int da_nil)) (aCons_len (aCons_len (fun _ _ h => aNil_len h))))) (da_cons (df_de (de_call G.g__law_cell_at (takes_of rfl rfl rfl rfl) hr rfl T.M__law_cell_at T.F__law_cell_at.kp T.B__law_cell_at (da_cons (df_var 0) (da_cons df_int da_nil)) (aCons_len (aCons_len (fun _ _ h => aNil_len h))))) (da_cons df_int da_nil))) (aCons_len (aCons_len (aCons_len (fun _ _ h => aNil_len h))))))))
    (dss_cons (ds_set 2 sc_law.nd (de_df (df_de (de_call G.g__law_names (takes_of rfl rfl rfl rfl) hr rfl T.M__law_names T.F__law_names.kp T.B__law_names (da_cons (df_de (de_call G.g__law_cell_at (takes_of rfl rfl rfl rfl) hr rfl T.M__law_cell_at T.F__law_cell_at.kp T.B__law_cell_at (da_cons (df_var 0) (da_cons df_int da_nil)) (aCons_len (aCons_len (fun _ _ h => aNil_len h))))) (da_cons (df_de (de_call G.g__law_cell_at (takes_of rfl rfl rfl rfl) hr rfl T.M__law_cell_at T.F__law_cell_at.kp T.B__law_cell_at (da_cons (df_var 0) (da_cons df_int da_nil)) (aCons_len (aCons_len (fun _ _ h => aNil_len h))))) (da_cons df_int da_nil))) (aCons_len (aCons_len (aCons_len (fun _ _ h => aNil_len h))))))))
    (dss_cons (ds_set 3 sc_law.nd (de_df (df_de (de_lst (da_cons (df_tup (da_cons (df_ix (dl_df (df_var 1)) (dv_df df_int)) (da_cons (df_de (de_call G.g__law_rows (takes_of rfl rfl rfl rfl) hr rfl T.M__law_rows T.F__law_rows.kp T.B__law_rows (da_cons (df_var 0) (da_cons df_int (da_cons (df_var 1) (da_cons (df_var 2) da_nil)))) (aCons_len (aCons_len (aCons_len (aCons_len (fun _ _ h => aNil_len h))))))) da_nil))) (da_cons (df_tup (da_cons (df_ix (dl_df (df_var 1)) (dv_df df_int)) (da_cons (df_de (de_call G.g__law_rows (takes_of rfl rfl rfl rfl) hr rfl T.M__law_rows T.F__law_rows.kp T.B__law_rows (da_cons (df_var 0) (da_cons df_int (da_cons (df_var 1) (da_cons (df_var 2) da_nil)))) (aCons_len (aCons_len (aCons_len (aCons_len (fun _ _ h => aNil_len h))))))) da_nil))) da_nil))))))
    (dss_cons (ds_set 4 sc_law.nd (de_df (df_de (de_call G.g__law_drawn (takes_of rfl rfl rfl rfl) hr rfl T.M__law_drawn T.F__law_drawn.kp T.B__law_drawn (da_cons (df_var 3) (da_cons (df_de (de_slice (dl_df (df_var 0)) (do_some (dv_df df_int)) do_none)) da_nil)) (aCons_len (aCons_len (fun _ _ h => aNil_len h)))))))
    (dss_cons (ds_set 5 sc_law.nd (de_df (df_mod (dv_de (de_call G.g__law_cell_at (takes_of rfl rfl rfl rfl) hr rfl T.M__law_cell_at T.F__law_cell_at.kp T.B__law_cell_at (da_cons (df_var 0) (da_cons df_int da_nil)) (aCons_len (aCons_len (fun _ _ h => aNil_len h))))) (dv_df (df_pow (dv_df df_int) (dv_df df_int))))))
    (dss_cons (ds_set 6 sc_law.nd (de_df (df_de (de_call G.g__law_made (takes_of rfl rfl rfl rfl) hr rfl T.M__law_made T.F__law_made.kp T.B__law_made (da_cons (df_var 4) (da_cons (df_mod (dv_df (df_div (dv_df (df_var 5)) (dv_df df_int))) (dv_de (de_len rfl T.z_len (dal_cons (dl_df (df_var 4)) dal_nil)))) (da_cons (df_mod (dv_df (df_var 5)) (dv_df df_int)) (da_cons (df_ix (dl_df (df_var 2)) (dv_df (df_mod (dv_df (df_div (dv_df (df_var 5)) (dv_df df_int))) (dv_df df_int)))) da_nil)))) (aCons_len (aCons_len (aCons_len (aCons_len (fun _ _ h => aNil_len h)))))))))
    (dss_cons (ds_setLcF 7 (own := [("_law_kind", 8), ("_law_rows_here", 9)]) (ix := [8, 9]) rfl sc_law.nd (di_seq (df_var 3)) (blkOk_by (N := N_law) (sc := defScope s_law) (by decide +kernel)) (fun _ _ _ _ _ => (dg_tup (n := 2) rfl (dgs_cons (dg_name 8 sc_law.nd) (dgs_cons (dg_name 9 sc_law.nd) dgs_nil)))) (fun _ _ _ _ _ => dts_nil) (fun _ _ _ _ _ => (de_df (df_tup (da_cons (df_var 8) (da_cons (df_de (de_list rfl T.z_list (dal_cons (dl_df (df_var 9)) dal_nil))) da_nil))))))
    (dss_cons (ds_for (ix := [8]) (passes_of rfl) rfl (di_seq (df_de (de_lst (da_cons (df_ix (dl_df (df_var 1)) (dv_df df_int)) (da_cons (df_ix (dl_df (df_var 1)) (dv_df df_int)) (da_cons (df_ix (dl_df (df_var 1)) (dv_df df_int)) (da_cons (df_ix (dl_df (df_var 1)) (dv_df df_int)) da_nil))))))) (dg_name 8 sc_law.nd)
    (dss_cons (ds_set 10 sc_law.nd (de_df (df_de (de_call G.g_is_of (takes_of rfl rfl rfl rfl) hr rfl T.M_is_of T.F_is_of.kp T.B_is_of (da_cons (df_var 7) (da_cons (df_var 8) (da_cons (df_var 6) da_nil))) (aCons_len (aCons_len (aCons_len (fun _ _ h => aNil_len h))))))))
    (dss_cons (ds_if (dt_dw (dw_or (dt_not (dt_val (dv_df (df_isi (dv_df (df_var 10)) rfl T.z_isinstance rfl T.z_bool rfl)))) (dw_or1 (dt_ne (room_eq hr) (dv_df (df_var 10)) (dv_de (de_call G.g__law_is (takes_of rfl rfl rfl rfl) hr rfl T.M__law_is T.F__law_is.kp T.B__law_is (da_cons (df_var 3) (da_cons (df_var 8) (da_cons (df_var 6) da_nil))) (aCons_len (aCons_len (aCons_len (fun _ _ h => aNil_len h))))))))))
    (dss_one (ds_ret (de_df df_bl)))
    dss_nil)
    (dss_one (ds_for (ix := [11]) (passes_of rfl) rfl (di_seq (df_var 2)) (dg_name 11 sc_law.nd)
    (dss_cons (ds_set 12 sc_law.nd (de_df (df_de (de_call G.g_row_of (takes_of rfl rfl rfl rfl) hr rfl T.M_row_of T.F_row_of.kp T.B_row_of (da_cons (df_var 7) (da_cons (df_var 8) (da_cons (df_var 11) da_nil))) (aCons_len (aCons_len (aCons_len (fun _ _ h => aNil_len h))))))))
    (dss_one (ds_if (dt_dw (dw_or (dt_ne (room_eq hr) (dv_df (df_var 12)) (dv_de (de_call G.g__law_row (takes_of rfl rfl rfl rfl) hr rfl T.M__law_row T.F__law_row.kp T.B__law_row (da_cons (df_var 3) (da_cons (df_var 8) (da_cons (df_var 11) da_nil))) (aCons_len (aCons_len (aCons_len (fun _ _ h => aNil_len h))))))) (dw_or1 (dt_dw (dw_and (dt_notN (dv_df (df_var 12)) (dv_df df_non)) (dw_and1 (dt_not (dt_val (dv_df (df_isi (dv_df (df_var 12)) rfl T.z_isinstance rfl T.z_tuple rfl))))))))))
    (dss_one (ds_ret (de_df df_bl)))
    dss_nil))))))))
    (dss_cons (ds_for (ix := [8, 9]) (passes_of rfl) rfl (di_seq (df_var 3)) (dg_tup (n := 2) rfl (dgs_cons (dg_name 8 sc_law.nd) (dgs_cons (dg_name 9 sc_law.nd) dgs_nil)))
    (dss_cons (ds_setLcF 13 (own := [("_law_name", 11), ("_law_branches", 14)]) (ix := [11, 14]) rfl sc_law.nd (di_seq (df_var 9)) (blkOk_by (N := N_law) (sc := defScope s_law) (by decide +kernel)) (fun _ _ _ _ _ => (dg_tup (n := 2) rfl (dgs_cons (dg_name 11 sc_law.nd) (dgs_cons (dg_name 14 sc_law.nd) dgs_nil)))) (fun _ _ _ _ _ => (dts_one (dt_eq (room_eq hr) (dv_df (df_var 14)) (dv_df (df_tup da_nil))))) (fun _ _ _ _ _ => (de_df (df_var 11))))
    (dss_one (ds_if (dt_ne (room_eq hr) (dv_de (de_call G.g_leaf_of (takes_of rfl rfl rfl rfl) hr rfl T.M_leaf_of T.F_leaf_of.kp T.B_leaf_of (da_cons (df_var 7) (da_cons (df_var 8) da_nil)) (aCons_len (aCons_len (fun _ _ h => aNil_len h))))) (dv_df (df_tup (da_cons (df_de (de_minS (room_eq hr) rfl rfl T.z_min (dal_cons (dl_df (df_var 13)) dal_nil))) (da_cons df_int (da_cons (df_tup da_nil) da_nil))))))
    (dss_one (ds_ret (de_df df_bl)))
    dss_nil))))
    (dss_one (ds_ret (de_df (df_eq (room_eq hr) (dv_df (df_var 7)) (dv_df (df_var 3)))))))))))))))
theorem fn_none {f : Addr} {fd : FuncData} {ps : List Str} {k i : Nat} : FnOk P w K mg base (L2.CX P w) 0 f fd ps (spM K mg k (mir 0 i)) := by
  have no : ∀ vs H Q E, ¬ spM K mg k (mir 0 i) vs H Q E := fun vs H Q E ⟨F, ds, _, _, _, h⟩ => h
  exact ⟨fun vs H Q E h => absurd h (no vs H Q E), fun A outer s H args us vs Q E _ _ _ _ h => absurd h (no vs H Q E)⟩
theorem all_fns (T : Txt K mg f fd) : ∀ n, Fns P w K mg base f fd n
  | 0 => ⟨fn_none, fn_none, fn_none, fn_none, fn_none, fn_none, fn_none, fn_none, fn_none, fn_none, fn_none, fn_none⟩
  | n + 1 => by
    have G := all_fns T n
    exact ⟨ok_rows_of T G, ok_row_of T G, ok_is_of T G, ok_leaf_of T G, ok__law_cell_at T G, ok__law_names T G, ok__law_rows T G, ok__law_row T G, ok__law_drawn T G, ok__law_made T G, ok__law_is T G, ok_law T G⟩
end
def pick {α : Type} (z : α) : List α → Nat → α
  | [], _ => z
  | x :: _, 0 => x
  | _ :: xs, n + 1 => pick z xs n
theorem all_mk (L : Nat) {l : PySem.W.OpenLaw} {w : World} {K : PySem.W.Frag} {h : Heap} {mg : Str → Option Value} {fa : Addr} (X : K.In h) (G : h.Ns PySem.mainGlobals mg) (hfa : mg "law" = some (.ref fa))
    {od0 an0 : Option Addr} {sl0 : Array (Option Value)} {oc0 kV0 dc0 pm0 cd0 ct0 : Value} {f0 : Addr}
    (a0 : PySem.W.nsIn K PySem.mainGlobals "rows_of" = some (some (.ref f0))) (l0 : K.lookup f0 = some ⟨oc0, od0, .func (PySem.W.fnOf "rows_of" "rows_of" (defArgs s_rows_of) (defBody s_rows_of) (defScope s_rows_of) .none kV0 dc0 pm0 an0 cd0 ct0), sl0⟩) (c0 : PySem.W.codeIn K cd0 "rows_of" = true) (k0 : PySem.W.keepIn K (.ref f0) = true)
    {od1 an1 : Option Addr} {sl1 : Array (Option Value)} {oc1 kV1 dc1 pm1 cd1 ct1 : Value} {f1 : Addr}
    (a1 : PySem.W.nsIn K PySem.mainGlobals "row_of" = some (some (.ref f1))) (l1 : K.lookup f1 = some ⟨oc1, od1, .func (PySem.W.fnOf "row_of" "row_of" (defArgs s_row_of) (defBody s_row_of) (defScope s_row_of) .none kV1 dc1 pm1 an1 cd1 ct1), sl1⟩) (c1 : PySem.W.codeIn K cd1 "row_of" = true) (k1 : PySem.W.keepIn K (.ref f1) = true)
    {od2 an2 : Option Addr} {sl2 : Array (Option Value)} {oc2 kV2 dc2 pm2 cd2 ct2 : Value} {f2 : Addr}
    (a2 : PySem.W.nsIn K PySem.mainGlobals "is_of" = some (some (.ref f2))) (l2 : K.lookup f2 = some ⟨oc2, od2, .func (PySem.W.fnOf "is_of" "is_of" (defArgs s_is_of) (defBody s_is_of) (defScope s_is_of) .none kV2 dc2 pm2 an2 cd2 ct2), sl2⟩) (c2 : PySem.W.codeIn K cd2 "is_of" = true) (k2 : PySem.W.keepIn K (.ref f2) = true)
    {od3 an3 : Option Addr} {sl3 : Array (Option Value)} {oc3 kV3 dc3 pm3 cd3 ct3 : Value} {f3 : Addr}
    (a3 : PySem.W.nsIn K PySem.mainGlobals "leaf_of" = some (some (.ref f3))) (l3 : K.lookup f3 = some ⟨oc3, od3, .func (PySem.W.fnOf "leaf_of" "leaf_of" (defArgs s_leaf_of) (defBody s_leaf_of) (defScope s_leaf_of) .none kV3 dc3 pm3 an3 cd3 ct3), sl3⟩) (c3 : PySem.W.codeIn K cd3 "leaf_of" = true) (k3 : PySem.W.keepIn K (.ref f3) = true)
    {od4 an4 : Option Addr} {sl4 : Array (Option Value)} {oc4 kV4 dc4 pm4 cd4 ct4 : Value} {f4 : Addr}
    (a4 : PySem.W.nsIn K PySem.mainGlobals "_law_cell_at" = some (some (.ref f4))) (l4 : K.lookup f4 = some ⟨oc4, od4, .func (PySem.W.fnOf "_law_cell_at" "_law_cell_at" (defArgs s__law_cell_at) (defBody s__law_cell_at) (defScope s__law_cell_at) .none kV4 dc4 pm4 an4 cd4 ct4), sl4⟩) (c4 : PySem.W.codeIn K cd4 "_law_cell_at" = true) (k4 : PySem.W.keepIn K (.ref f4) = true)
    {od5 an5 : Option Addr} {sl5 : Array (Option Value)} {oc5 kV5 dc5 pm5 cd5 ct5 : Value} {f5 : Addr}
    (a5 : PySem.W.nsIn K PySem.mainGlobals "_law_names" = some (some (.ref f5))) (l5 : K.lookup f5 = some ⟨oc5, od5, .func (PySem.W.fnOf "_law_names" "_law_names" (defArgs s__law_names) (defBody s__law_names) (defScope s__law_names) .none kV5 dc5 pm5 an5 cd5 ct5), sl5⟩) (c5 : PySem.W.codeIn K cd5 "_law_names" = true) (k5 : PySem.W.keepIn K (.ref f5) = true)
    {od6 an6 : Option Addr} {sl6 : Array (Option Value)} {oc6 kV6 dc6 pm6 cd6 ct6 : Value} {f6 : Addr}
    (a6 : PySem.W.nsIn K PySem.mainGlobals "_law_rows" = some (some (.ref f6))) (l6 : K.lookup f6 = some ⟨oc6, od6, .func (PySem.W.fnOf "_law_rows" "_law_rows" (defArgs s__law_rows) (defBody s__law_rows) (defScope s__law_rows) .none kV6 dc6 pm6 an6 cd6 ct6), sl6⟩) (c6 : PySem.W.codeIn K cd6 "_law_rows" = true) (k6 : PySem.W.keepIn K (.ref f6) = true)
    {od7 an7 : Option Addr} {sl7 : Array (Option Value)} {oc7 kV7 dc7 pm7 cd7 ct7 : Value} {f7 : Addr}
    (a7 : PySem.W.nsIn K PySem.mainGlobals "_law_row" = some (some (.ref f7))) (l7 : K.lookup f7 = some ⟨oc7, od7, .func (PySem.W.fnOf "_law_row" "_law_row" (defArgs s__law_row) (defBody s__law_row) (defScope s__law_row) .none kV7 dc7 pm7 an7 cd7 ct7), sl7⟩) (c7 : PySem.W.codeIn K cd7 "_law_row" = true) (k7 : PySem.W.keepIn K (.ref f7) = true)
    {od8 an8 : Option Addr} {sl8 : Array (Option Value)} {oc8 kV8 dc8 pm8 cd8 ct8 : Value} {f8 : Addr}
    (a8 : PySem.W.nsIn K PySem.mainGlobals "_law_drawn" = some (some (.ref f8))) (l8 : K.lookup f8 = some ⟨oc8, od8, .func (PySem.W.fnOf "_law_drawn" "_law_drawn" (defArgs s__law_drawn) (defBody s__law_drawn) (defScope s__law_drawn) .none kV8 dc8 pm8 an8 cd8 ct8), sl8⟩) (c8 : PySem.W.codeIn K cd8 "_law_drawn" = true) (k8 : PySem.W.keepIn K (.ref f8) = true)
    {od9 an9 : Option Addr} {sl9 : Array (Option Value)} {oc9 kV9 dc9 pm9 cd9 ct9 : Value} {f9 : Addr}
    (a9 : PySem.W.nsIn K PySem.mainGlobals "_law_made" = some (some (.ref f9))) (l9 : K.lookup f9 = some ⟨oc9, od9, .func (PySem.W.fnOf "_law_made" "_law_made" (defArgs s__law_made) (defBody s__law_made) (defScope s__law_made) .none kV9 dc9 pm9 an9 cd9 ct9), sl9⟩) (c9 : PySem.W.codeIn K cd9 "_law_made" = true) (k9 : PySem.W.keepIn K (.ref f9) = true)
    {od10 an10 : Option Addr} {sl10 : Array (Option Value)} {oc10 kV10 dc10 pm10 cd10 ct10 : Value} {f10 : Addr}
    (a10 : PySem.W.nsIn K PySem.mainGlobals "_law_is" = some (some (.ref f10))) (l10 : K.lookup f10 = some ⟨oc10, od10, .func (PySem.W.fnOf "_law_is" "_law_is" (defArgs s__law_is) (defBody s__law_is) (defScope s__law_is) .none kV10 dc10 pm10 an10 cd10 ct10), sl10⟩) (c10 : PySem.W.codeIn K cd10 "_law_is" = true) (k10 : PySem.W.keepIn K (.ref f10) = true)
    {od11 an11 : Option Addr} {sl11 : Array (Option Value)} {oc11 kV11 dc11 pm11 cd11 ct11 : Value} {f11 : Addr}
    (a11 : PySem.W.nsIn K PySem.mainGlobals "law" = some (some (.ref f11))) (l11 : K.lookup f11 = some ⟨oc11, od11, .func (PySem.W.fnOf "law" "law" (defArgs s_law) (defBody s_law) (defScope s_law) .none kV11 dc11 pm11 an11 cd11 ct11), sl11⟩) (c11 : PySem.W.codeIn K cd11 "law" = true) (k11 : PySem.W.keepIn K (.ref f11) = true)
    (z_bool : PySem.W.nsIn K PySem.mainGlobals "bool" = some none)
    (z_dict : PySem.W.nsIn K PySem.mainGlobals "dict" = some none)
    (z_isinstance : PySem.W.nsIn K PySem.mainGlobals "isinstance" = some none)
    (z_len : PySem.W.nsIn K PySem.mainGlobals "len" = some none)
    (z_list : PySem.W.nsIn K PySem.mainGlobals "list" = some none)
    (z_min : PySem.W.nsIn K PySem.mainGlobals "min" = some none)
    (z_range : PySem.W.nsIn K PySem.mainGlobals "range" = some none)
    (z_sorted : PySem.W.nsIn K PySem.mainGlobals "sorted" = some none)
    (z_tuple : PySem.W.nsIn K PySem.mainGlobals "tuple" = some none)
    (z_zip : PySem.W.nsIn K PySem.mainGlobals "zip" = some none) :
    ∃ fd : FuncData, (∀ (s : Shared) (v : Value), BindsTo s fd ⟨[v], []⟩ [("_law_script", v)]) ∧ ∀ base : Heap, K.In base → base.Ns PySem.mainGlobals mg → FnOk l.prog w K mg base (L2.CX l.prog w) L fa fd ["_law_script"] (spM K mg 1 (mir L 11)) := by
  have e := hfa.symm.trans (PySem.W.mg_of X G a11)
  cases e
  have F0 := fun_mk (st := s_rows_of) l0 c0 k0
  have F1 := fun_mk (st := s_row_of) l1 c1 k1
  have F2 := fun_mk (st := s_is_of) l2 c2 k2
  have F3 := fun_mk (st := s_leaf_of) l3 c3 k3
  have F4 := fun_mk (st := s__law_cell_at) l4 c4 k4
  have F5 := fun_mk (st := s__law_names) l5 c5 k5
  have F6 := fun_mk (st := s__law_rows) l6 c6 k6
  have F7 := fun_mk (st := s__law_row) l7 c7 k7
  have F8 := fun_mk (st := s__law_drawn) l8 c8 k8
  have F9 := fun_mk (st := s__law_made) l9 c9 k9
  have F10 := fun_mk (st := s__law_is) l10 c10 k10
  have F11 := fun_mk (st := s_law) l11 c11 k11
  have T : Txt K mg (pick 0 [f0, f1, f2, f3, f4, f5, f6, f7, f8, f9, f10, fa]) (pick (PySem.W.fnOf "law" "law" (defArgs s_law) (defBody s_law) (defScope s_law) .none kV11 dc11 pm11 an11 cd11 ct11) [PySem.W.fnOf "rows_of" "rows_of" (defArgs s_rows_of) (defBody s_rows_of) (defScope s_rows_of) .none kV0 dc0 pm0 an0 cd0 ct0, PySem.W.fnOf "row_of" "row_of" (defArgs s_row_of) (defBody s_row_of) (defScope s_row_of) .none kV1 dc1 pm1 an1 cd1 ct1, PySem.W.fnOf "is_of" "is_of" (defArgs s_is_of) (defBody s_is_of) (defScope s_is_of) .none kV2 dc2 pm2 an2 cd2 ct2, PySem.W.fnOf "leaf_of" "leaf_of" (defArgs s_leaf_of) (defBody s_leaf_of) (defScope s_leaf_of) .none kV3 dc3 pm3 an3 cd3 ct3, PySem.W.fnOf "_law_cell_at" "_law_cell_at" (defArgs s__law_cell_at) (defBody s__law_cell_at) (defScope s__law_cell_at) .none kV4 dc4 pm4 an4 cd4 ct4, PySem.W.fnOf "_law_names" "_law_names" (defArgs s__law_names) (defBody s__law_names) (defScope s__law_names) .none kV5 dc5 pm5 an5 cd5 ct5, PySem.W.fnOf "_law_rows" "_law_rows" (defArgs s__law_rows) (defBody s__law_rows) (defScope s__law_rows) .none kV6 dc6 pm6 an6 cd6 ct6, PySem.W.fnOf "_law_row" "_law_row" (defArgs s__law_row) (defBody s__law_row) (defScope s__law_row) .none kV7 dc7 pm7 an7 cd7 ct7, PySem.W.fnOf "_law_drawn" "_law_drawn" (defArgs s__law_drawn) (defBody s__law_drawn) (defScope s__law_drawn) .none kV8 dc8 pm8 an8 cd8 ct8, PySem.W.fnOf "_law_made" "_law_made" (defArgs s__law_made) (defBody s__law_made) (defScope s__law_made) .none kV9 dc9 pm9 an9 cd9 ct9, PySem.W.fnOf "_law_is" "_law_is" (defArgs s__law_is) (defBody s__law_is) (defScope s__law_is) .none kV10 dc10 pm10 an10 cd10 ct10, PySem.W.fnOf "law" "law" (defArgs s_law) (defBody s_law) (defScope s_law) .none kV11 dc11 pm11 an11 cd11 ct11]) := {
    F_rows_of := F0,
    B_rows_of := F0.binds (ps := ["wood", "kind"]) fun _ _ _ _ _ _ us hl => match us, hl with | [_, _], _ => rfl,
    M_rows_of := PySem.W.mg_of X G a0,
    F_row_of := F1,
    B_row_of := F1.binds (ps := ["wood", "kind", "name"]) fun _ _ _ _ _ _ us hl => match us, hl with | [_, _, _], _ => rfl,
    M_row_of := PySem.W.mg_of X G a1,
    F_is_of := F2,
    B_is_of := F2.binds (ps := ["wood", "kind", "tree"]) fun _ _ _ _ _ _ us hl => match us, hl with | [_, _, _], _ => rfl,
    M_is_of := PySem.W.mg_of X G a2,
    F_leaf_of := F3,
    B_leaf_of := F3.binds (ps := ["wood", "kind"]) fun _ _ _ _ _ _ us hl => match us, hl with | [_, _], _ => rfl,
    M_leaf_of := PySem.W.mg_of X G a3,
    F__law_cell_at := F4,
    B__law_cell_at := F4.binds (ps := ["_law_script", "_law_k"]) fun _ _ _ _ _ _ us hl => match us, hl with | [_, _], _ => rfl,
    M__law_cell_at := PySem.W.mg_of X G a4,
    F__law_names := F5,
    B__law_names := F5.binds (ps := ["_law_cell", "_law_where", "_law_lots"]) fun _ _ _ _ _ _ us hl => match us, hl with | [_, _, _], _ => rfl,
    M__law_names := PySem.W.mg_of X G a5,
    F__law_rows := F6,
    B__law_rows := F6.binds (ps := ["_law_script", "_law_start", "_law_kinds", "_law_names_here"]) fun _ _ _ _ _ _ us hl => match us, hl with | [_, _, _, _], _ => rfl,
    M__law_rows := PySem.W.mg_of X G a6,
    F__law_row := F7,
    B__law_row := F7.binds (ps := ["_law_wood", "_law_kind", "_law_name"]) fun _ _ _ _ _ _ us hl => match us, hl with | [_, _, _], _ => rfl,
    M__law_row := PySem.W.mg_of X G a7,
    F__law_drawn := F8,
    B__law_drawn := F8.binds (ps := ["_law_wood", "_law_cells"]) fun _ _ _ _ _ _ us hl => match us, hl with | [_, _], _ => rfl,
    M__law_drawn := PySem.W.mg_of X G a8,
    F__law_made := F9,
    B__law_made := F9.binds (ps := ["_law_heads", "_law_spot", "_law_way", "_law_name"]) fun _ _ _ _ _ _ us hl => match us, hl with | [_, _, _, _], _ => rfl,
    M__law_made := PySem.W.mg_of X G a9,
    F__law_is := F10,
    B__law_is := F10.binds (ps := ["_law_wood", "_law_kind", "_law_tree"]) fun _ _ _ _ _ _ us hl => match us, hl with | [_, _, _], _ => rfl,
    M__law_is := PySem.W.mg_of X G a10,
    F_law := F11,
    B_law := F11.binds (ps := ["_law_script"]) fun _ _ _ _ _ _ us hl => match us, hl with | [_], _ => rfl,
    M_law := PySem.W.mg_of X G a11,
    z_bool := PySem.W.mg_none_of X G z_bool,
    z_dict := PySem.W.mg_none_of X G z_dict,
    z_isinstance := PySem.W.mg_none_of X G z_isinstance,
    z_len := PySem.W.mg_none_of X G z_len,
    z_list := PySem.W.mg_none_of X G z_list,
    z_min := PySem.W.mg_none_of X G z_min,
    z_range := PySem.W.mg_none_of X G z_range,
    z_sorted := PySem.W.mg_none_of X G z_sorted,
    z_tuple := PySem.W.mg_none_of X G z_tuple,
    z_zip := PySem.W.mg_none_of X G z_zip }
  refine ⟨PySem.W.fnOf "law" "law" (defArgs s_law) (defBody s_law) (defScope s_law) .none kV11 dc11 pm11 an11 cd11 ct11, fun s v => .of_eq rfl, fun base _ _ => ?_⟩
  exact (all_fns (P := l.prog) (w := w) (base := base) T L).g_law
end G
set_option Elab.async false
set_option linter.all false
set_option maxRecDepth 100000
set_option maxHeartbeats 4000000
namespace G
open PySem PySem.Spec L2 Mir
theorem rows_ok (n : Nat) (w : Wood) (k : Str) : ∃ o, mir (n + 1) 0 [encWd w, .str k] = .ok o ∧ viewD o = rwsD (rowsOf w k) := by
  obtain ⟨o, h1, h2⟩ := rowsOf_fin w k
  refine ⟨o, ?_, h2⟩
  rw [mir_rows_of, run_rows_of]
  exact h1
theorem rowOf_ok (n : Nat) (w : Wood) (k nm : Str) : mir (n + 2) 1 [encWd w, .str k, .str nm] = .ok (.d (obD (brOf (rowsOf w k) nm))) := by
  rw [mir_row_of, run_row_of]
  exact rowOf_fin k nm (rows_ok n w k)
theorem isOf_ok (w : Wood) : ∀ (n : Nat) (u : Tr) (k : Str), levT u ≤ n → mir (n + 2) 2 [encWd w, .str k, encT u] = .ok (.d (.bool (isOf w u k)))
  | 0, .mk nm mk bs, k, h => by rw [levT] at h; omega
  | n + 1, .mk nm mk bs, k, h => by
    rw [levT] at h
    rw [show n + 1 + 2 = (n + 2) + 1 from rfl, mir_is_of, run_is_of]
    exact isOf_fin k nm mk bs (rowOf_ok n w k nm) fun b hb k' => isOf_ok w n b k' (levTs_le (by omega) b hb)
theorem names_ok (N : Nat) (c w : Int) (n : Nat) (hn : n ≤ 100) : ∃ (b : List Nat) (t f : Nat), t < b.length ∧ b.length ≤ 8 ∧ (∀ z ∈ b, isL z = true) ∧ f < 26 ∧ mir (N + 1) 5 [.int c, .int w, .int (n : Nat)] = .ok (.l ((List.range n).map fun k => .d (.str (tx (nm9 b t f k))))) := by
  obtain ⟨b, t, f, h1, h2, h3, h4, h5⟩ := names9_fin c w n hn
  refine ⟨b, t, f, h1, h2, h3, h4, ?_⟩
  rw [mir__law_names, run__law_names]
  exact h5
theorem lawRow_ok (n : Nat) {w : Wood} (hk : (w.map (·.1)).Nodup) (k nm : Str) : mir (n + 1) 7 [encWd w, .str k, .str nm] = .ok (.d (obD (brOf (rowsOf w k) nm))) := by
  rw [mir__law_row, run__law_row]
  exact lawRow9_fin hk k nm
theorem drawn_ok (n : Nat) {w : Wood} (hw : Wd9 w) (cs : List Int) : ∃ hs : List Hd, HdsOk hs ∧ 0 < hs.length ∧ hs.length ≤ 200 ∧ mir (n + 1) 8 [encWd w, .list (cs.map PyData.int)] = .ok (hdO hs) := by
  obtain ⟨hs, a, b, c, d⟩ := drawn9_fin hw cs
  refine ⟨hs, a, b, c, ?_⟩
  rw [mir__law_drawn, run__law_drawn]
  exact d
theorem made_ok (n : Nat) {hs : List Hd} (hh : HdsOk hs) (h0 : 0 < hs.length) (hl : hs.length ≤ 200) (s w : Nat) {nm : Str} (hnm : PyData.strOk nm = true) : ∃ T : Tr, okT T ∧ levT T ≤ 25 ∧ sizeT T ≤ 2 * hs.length ∧ mir (n + 1) 9 [hdD hs, .int (s : Nat), .int (w : Nat), .str nm] = .ok (.d (encT T)) := by
  obtain ⟨T, a, b, c, d⟩ := made9_fin hh h0 hl s w hnm
  refine ⟨T, a, b, c, ?_⟩
  rw [mir__law_made, run__law_made]
  exact d
theorem lawIs_ok (n : Nat) {w : Wood} (hw : Wd9 w) {k : Str} {u : Tr} (hk : PyData.strOk k = true) (hu : okT u) (hl : levT u ≤ 25) (hs : sizeT u ≤ 400) : mir (n + 2) 10 [encWd w, .str k, encT u] = .ok (.d (.bool (isOf w u k))) := by
  rw [mir__law_is, run__law_is]
  exact is9_fin (lawRow_ok n hw.kinds) (wd9_br hw) hk hu hl hs
theorem cell_ok (n : Nat) (ns : List Int) (k : Nat) : mir (n + 1) 4 [scD ns, .int (k : Nat)] = .ok (.d (.int (scCell ns k))) := by
  rw [mir__law_cell_at, run__law_cell_at]
  exact cell_fin ns k
theorem lawRows_ok (n : Nat) (ns : List Int) (st : Nat) (hst : st ≤ 1000) (kd nm : Nat → Str) : ∃ rs : List Rw, mir (n + 2) 6 [scD ns, .int (st : Nat), .list ((List.range 3).map fun k => .str (kd k)), .list ((List.range 7).map fun k => .str (nm k))] = .ok (.l (rs.map fun r => .d (encRw r))) ∧ rs.length ≤ 4 ∧ (∀ r ∈ rs, Rw9 kd nm r) ∧ (∃ r ∈ rs, r.br = []) ∧ rs.Pairwise fun a b => PySem.W.dataLt (.str b.nm) (.str a.nm) = false := by
  obtain ⟨rs, h, r⟩ := rows9_fin (f4 := mir (n + 1) 4) (SC := scD ns) (fun i => ⟨_, cell_ok n ns i⟩) st hst kd nm
  refine ⟨rs, ?_, r⟩
  rw [mir__law_rows, run__law_rows]
  exact h
theorem leafOf_ok (n : Nat) {w : Wood} {k : Str} (hl : (rowsOf w k).length ≤ 1000) (hok : ∀ r ∈ rowsOf w k, ∀ z ∈ r.br, PyData.strOk z = true) (hb : ∃ r ∈ rowsOf w k, r.br = []) : mir (n + 2) 3 [encWd w, .str k] = .ok (.d (encT (leafT w k))) := by
  rw [mir_leaf_of, run_leaf_of]
  exact leafOf_fin (rows_ok n w k) hl hok hb
end G
set_option Elab.async false
set_option linter.all false
set_option maxRecDepth 100000
set_option maxHeartbeats 4000000
namespace G
open PySem PySem.Spec L2 Mir
noncomputable section
abbrev lwIn (f1 f7 : List D → R Ow) : Ev → SR := (sSeq (sSet 12 (eM (eM (eB (aCons (eVar 7) (aCons (eVar 8) (aCons (eVar 11) aNil))) f1) viewD) Ow.d))
    (sIf (tOrE (eB (eBin gNe (eVar 12) (eM (eB (aCons (eVar 3) (aCons (eVar 8) (aCons (eVar 11) aNil))) f7) viewD)) asB) (tAndE (eB (eBin gNotN (eVar 12) (eC .none)) asB) (tNotE (eB (eB (eVar 12) (gIsi "tuple")) asB))))
    (sRet (eM (eC (.bool false)) Ow.d))
    sSkip))
theorem lwIn_ok (n : Nat) {w : Wood} (hw : Wd9 w) (k nm : Str) (x0 x1 x2 x4 x5 x6 x9 x10 x12 x13 x14 : Option Ow) :
    lwIn (mir (n + 2) 1) (mir (n + 2) 7) [x0, x1, x2, some (.d (encWd w)), x4, x5, x6, some (.d (encWd w)), some (.d (.str k)), x9, x10, some (.d (.str nm)), x12, x13, x14] = .nx [x0, x1, x2, some (.d (encWd w)), x4, x5, x6, some (.d (encWd w)), some (.d (.str k)), x9, x10, some (.d (.str nm)), some (.d (obD (brOf (rowsOf w k) nm))), x13, x14] := by
  have e1 := rowOf_ok n w k nm
  have e7 := lawRow_ok (n + 1) hw.kinds k nm
  cases hb : brOf (rowsOf w k) nm with
  | none =>
    rw [hb] at e1 e7
    have nn : Nice PyData.none := ⟨rfl, by simp [PyData.depth]⟩
    have ne := gNe_nice nn nn
    rw [eqv_self nn] at ne
    change mir (n + 2) 1 _ = .ok (.d .none) at e1
    change mir (n + 1 + 1) 7 _ = .ok (.d .none) at e7
    rw [show n + 1 + 1 = n + 2 from rfl] at e7
    show _ = SR.nx [_, _, _, _, _, _, _, _, _, _, _, _, some (.d .none), _, _]
    generalize mir (n + 2) 1 = m1 at e1 ⊢
    generalize mir (n + 2) 7 = m7 at e7 ⊢
    generalize encWd w = W at e1 e7 ⊢
    simp [e1, e7, ne, isNone]
  | some ks =>
    rw [hb] at e1 e7
    have nn : Nice (brD ks) := nice_strs (wd9_br hw k nm ks hb).2
    have ne := gNe_nice nn nn
    rw [eqv_self nn] at ne
    have n0 : isNone (brD ks) = false := rfl
    have it : gIsi "tuple" (brD ks) = .ok (.bool true) := rfl
    change mir (n + 2) 1 _ = .ok (.d (brD ks)) at e1
    change mir (n + 1 + 1) 7 _ = .ok (.d (brD ks)) at e7
    rw [show n + 1 + 1 = n + 2 from rfl] at e7
    show _ = SR.nx [_, _, _, _, _, _, _, _, _, _, _, _, some (.d (brD ks)), _, _]
    generalize brD ks = B at e1 e7 ne n0 it ⊢
    generalize mir (n + 2) 1 = m1 at e1 ⊢
    generalize mir (n + 2) 7 = m7 at e7 ⊢
    generalize encWd w = W at e1 e7 ⊢
    simp [e1, e7, ne, n0, it]
/-- all names looked at -/
theorem lwNames_ok (n : Nat) {w : Wood} (hw : Wd9 w) (k : Str) (zs : List Str) (x0 x1 x2 x4 x5 x6 x9 x10 x11 x12 x13 x14 : Option Ow) :
    ∃ y11 y12, forL (gtName 11) (lwIn (mir (n + 2) 1) (mir (n + 2) 7)) (zs.map PyData.str) [x0, x1, x2, some (.d (encWd w)), x4, x5, x6, some (.d (encWd w)), some (.d (.str k)), x9, x10, x11, x12, x13, x14] = .nx [x0, x1, x2, some (.d (encWd w)), x4, x5, x6, some (.d (encWd w)), some (.d (.str k)), x9, x10, y11, y12, x13, x14] := by
  obtain ⟨env', lp, y11, y12, rfl⟩ := forL_map (g := gtName 11) (f := lwIn (mir (n + 2) 1) (mir (n + 2) 7)) PyData.str zs
    (fun i env => ∃ y11 y12, env = [x0, x1, x2, some (.d (encWd w)), x4, x5, x6, some (.d (encWd w)), some (.d (.str k)), x9, x10, y11, y12, x13, x14]) (fun i z env hz ⟨y11, y12, e⟩ => by
      subst e
      exact ⟨_, rfl, _, .inl (lwIn_ok n hw k z x0 x1 x2 x4 x5 x6 x9 x10 y12 x13 x14), _, _, rfl⟩) [x0, x1, x2, some (.d (encWd w)), x4, x5, x6, some (.d (encWd w)), some (.d (.str k)), x9, x10, x11, x12, x13, x14] ⟨x11, x12, rfl⟩
  exact ⟨y11, y12, lp⟩
abbrev lwKind (f1 f2 f7 f10 : List D → R Ow) : Ev → SR := (sSeq (sSet 10 (eM (eM (eB (aCons (eVar 7) (aCons (eVar 8) (aCons (eVar 6) aNil))) f2) viewD) Ow.d))
    (sSeq (sIf (tOrE (tNotE (eB (eB (eVar 10) (gIsi "bool")) asB)) (eB (eBin gNe (eVar 10) (eM (eB (aCons (eVar 3) (aCons (eVar 8) (aCons (eVar 6) aNil))) f10) viewD)) asB))
    (sRet (eM (eC (.bool false)) Ow.d))
    sSkip)
    (sFor (eB (eVar 2) itD) (gtName 11)
    (lwIn f1 f7))))
/-- one kind looked at -/
theorem lwKind_ok (n : Nat) {w : Wood} (hw : Wd9 w) {k : Str} (hk : PyData.strOk k = true) {u : Tr} (hu : okT u) (hl : levT u ≤ 25) (hs : sizeT u ≤ 400) (zs : List Str) (x0 x1 x4 x5 x9 x10 x11 x12 x13 x14 : Option Ow) :
    ∃ y10 y11 y12, lwKind (mir (n + 30) 1) (mir (n + 30) 2) (mir (n + 30) 7) (mir (n + 30) 10) [x0, x1, some (.d (.list (zs.map PyData.str))), some (.d (encWd w)), x4, x5, some (.d (encT u)), some (.d (encWd w)), some (.d (.str k)), x9, x10, x11, x12, x13, x14] = .nx [x0, x1, some (.d (.list (zs.map PyData.str))), some (.d (encWd w)), x4, x5, some (.d (encT u)), some (.d (encWd w)), some (.d (.str k)), x9, y10, y11, y12, x13, x14] := by
  have e2 := isOf_ok w (n + 28) u k (by omega)
  have e10 := lawIs_ok (n + 28) hw hk hu hl hs
  obtain ⟨y11, y12, lp⟩ := lwNames_ok (n + 28) hw k zs x0 x1 (some (.d (.list (zs.map PyData.str)))) x4 x5 (some (.d (encT u))) x9 (some (.d (.bool (isOf w u k)))) x11 x12 x13 x14
  refine ⟨some (.d (.bool (isOf w u k))), y11, y12, ?_⟩
  change mir (n + 30) 2 _ = _ at e2
  change mir (n + 30) 10 _ = _ at e10
  change forL (gtName 11) (lwIn (mir (n + 30) 1) (mir (n + 30) 7)) _ _ = _ at lp
  have nb : Nice (PyData.bool (isOf w u k)) := ⟨rfl, by simp [PyData.depth]⟩
  have ne := gNe_nice nb nb
  rw [eqv_self nb] at ne
  have ib : gIsi "bool" (PyData.bool (isOf w u k)) = .ok (.bool true) := rfl
  have it : itD (.list (zs.map PyData.str)) = .ok (zs.map PyData.str) := rfl
  generalize (PyData.bool (isOf w u k)) = B at e2 e10 ne ib lp ⊢
  generalize zs.map PyData.str = ZL at lp it ⊢
  generalize PyData.list ZL = ZD at lp it ⊢
  generalize encT u = U at e2 e10 lp ⊢
  generalize encWd w = W at e2 e10 lp ⊢
  generalize mir (n + 30) 2 = m2 at e2 ⊢
  generalize mir (n + 30) 10 = m10 at e10 ⊢
  simp [e2, e10, ne, ib, it]
  exact lp
end
end G
set_option Elab.async false
set_option linter.all false
set_option maxRecDepth 100000
set_option maxHeartbeats 4000000
namespace G
open PySem PySem.Spec L2 Mir
noncomputable section
/-- all kinds looked at -/
theorem lwKinds_ok (n : Nat) {w : Wood} (hw : Wd9 w) {u : Tr} (hu : okT u) (hl : levT u ≤ 25) (hs : sizeT u ≤ 400) (zs : List Str) (ks : List Str) (hk : ∀ k ∈ ks, PyData.strOk k = true) (x0 x1 x4 x5 x8 x9 x10 x11 x12 x13 x14 : Option Ow) :
    ∃ y8 y10 y11 y12, forL (gtName 8) (lwKind (mir (n + 30) 1) (mir (n + 30) 2) (mir (n + 30) 7) (mir (n + 30) 10)) (ks.map PyData.str) [x0, x1, some (.d (.list (zs.map PyData.str))), some (.d (encWd w)), x4, x5, some (.d (encT u)), some (.d (encWd w)), x8, x9, x10, x11, x12, x13, x14] = .nx [x0, x1, some (.d (.list (zs.map PyData.str))), some (.d (encWd w)), x4, x5, some (.d (encT u)), some (.d (encWd w)), y8, x9, y10, y11, y12, x13, x14] := by
  obtain ⟨env', lp, y8, y10, y11, y12, rfl⟩ := forL_map (g := gtName 8) (f := lwKind (mir (n + 30) 1) (mir (n + 30) 2) (mir (n + 30) 7) (mir (n + 30) 10)) PyData.str ks
    (fun i env => ∃ y8 y10 y11 y12, env = [x0, x1, some (.d (.list (zs.map PyData.str))), some (.d (encWd w)), x4, x5, some (.d (encT u)), some (.d (encWd w)), y8, x9, y10, y11, y12, x13, x14]) (fun i k env hz ⟨y8, y10, y11, y12, e⟩ => by
      subst e
      obtain ⟨z10, z11, z12, e⟩ := lwKind_ok n hw (hk k (List.mem_of_getElem? hz)) hu hl hs zs x0 x1 x4 x5 x9 y10 y11 y12 x13 x14
      exact ⟨_, rfl, _, .inl e, _, _, _, _, rfl⟩) [x0, x1, some (.d (.list (zs.map PyData.str))), some (.d (encWd w)), x4, x5, some (.d (encT u)), some (.d (encWd w)), x8, x9, x10, x11, x12, x13, x14] ⟨x8, x10, x11, x12, rfl⟩
  exact ⟨y8, y10, y11, y12, lp⟩
abbrev lwLeaf (f3 : List D → R Ow) : Ev → SR := (sSeq (sSet 13 (eM (eM (eLc (eB (eVar 9) itD) (gtTup 2 (gtCons (gtName 11) (gtCons (gtName 14) gtNil))) (eB (eBin gEq (eVar 14) (eTup aNil)) asB) (eM (eVar 11) Ow.d) (List.map (·.2) ([("_law_name", 11), ("_law_branches", 14)] : List (Str × Nat)))) viewD) Ow.d))
    (sIf (eB (eBin gNe (eM (eB (aCons (eVar 7) (aCons (eVar 8) aNil)) f3) viewD) (eTup (aCons (eM (eCa gMinS (aCons (eVar 13) aNil)) viewD) (aCons (eC (.int 0)) (aCons (eTup aNil) aNil))))) asB)
    (sRet (eM (eC (.bool false)) Ow.d))
    sSkip))
theorem rows_nodup {w : Wood} (h : (w.map (·.1)).Nodup) {k : Str} {rs : List Rw} (hm : (k, rs) ∈ w) : rowsOf w k = rs := by
  induction w with
  | nil => cases hm
  | cons p w ih =>
    rw [List.map_cons, List.nodup_cons] at h
    rw [rowsOf]
    rcases List.mem_cons.mp hm with e | e
    · subst e
      simp
    · have : (p.1 == k) = false := by
        rw [beq_eq_false_iff_ne]
        intro z
        exact h.1 (List.mem_map.mpr ⟨(k, rs), e, z.symm⟩)
      rw [this]
      exact ih h.2 e
/-- one kind's leaf -/
theorem lwLeaf_ok (n : Nat) {w : Wood} (hw : Wd9 w) {k : Str} {rs : List Rw} (hm : (k, rs) ∈ w) (hso : rs.Pairwise fun a b => PySem.W.dataLt (.str b.nm) (.str a.nm) = false) (x0 x1 x2 x3 x4 x5 x6 x10 x11 x12 x13 x14 : Option Ow) :
    ∃ y13, lwLeaf (mir (n + 2) 3) [x0, x1, x2, x3, x4, x5, x6, some (.d (encWd w)), some (.d (.str k)), some (.d (rwsD rs)), x10, x11, x12, x13, x14] = .nx [x0, x1, x2, x3, x4, x5, x6, some (.d (encWd w)), some (.d (.str k)), some (.d (rwsD rs)), x10, x11, x12, y13, x14] := by
  obtain ⟨rl, rb, ro⟩ := hw.rows _ hm
  have re := rows_nodup hw.kinds hm
  have e3 := leafOf_ok n (w := w) (k := k) (by rw [re]; simp at rl; omega) (by rw [re]; exact fun r hr z hz => ((ro r hr).2.2 z hz).1) (by rw [re]; exact rb)
  obtain ⟨r, q, fe⟩ : ∃ r q, rs.filter (fun r => r.br.isEmpty) = r :: q := by
    cases c : rs.filter (fun r => r.br.isEmpty) with
    | nil =>
      obtain ⟨r, hr, hb⟩ := rb
      have : r ∈ rs.filter (fun r => r.br.isEmpty) := List.mem_filter.mpr ⟨hr, by rw [hb]; rfl⟩
      rw [c] at this; cases this
    | cons r q => exact ⟨r, q, rfl⟩
  have mn := gMinS_first hso fe
  have lf : leafT w k = .mk r.nm 0 [] := by
    unfold leafT
    rw [re, fe]
    rfl
  have rk : PyData.strOk r.nm = true := (ro r (List.mem_filter.mp (by rw [fe]; exact List.mem_cons_self)).1).1
  have lc : (eLc (eB (eVar 9) itD) (gtTup 2 (gtCons (gtName 11) (gtCons (gtName 14) gtNil))) (eB (eBin gEq (eVar 14) (eTup aNil)) asB) (eM (eVar 11) Ow.d) (List.map (·.2) ([("_law_name", 11), ("_law_branches", 14)] : List (Str × Nat)))) [x0, x1, x2, x3, x4, x5, x6, some (.d (encWd w)), some (.d (.str k)), some (.d (rwsD rs)), x10, x11, x12, x13, x14] = .ok (.l ((rs.filter fun r => r.br.isEmpty).map fun r => .d (.str r.nm))) := by
    refine eLc_of (ds := rs.map encRw) rfl (by rw [List.length_map, sizeLine_eq]; simp at rl; omega) (lcR_filt encRw (fun r => r.br.isEmpty) _ rs fun r hr => ?_)
    refine ⟨[x0, x1, x2, x3, x4, x5, x6, some (.d (encWd w)), some (.d (.str k)), some (.d (rwsD rs)), x10, some (.d (.str r.nm)), x12, x13, some (.d (.tuple (r.br.map PyData.str)))], rfl, ?_, fun _ => rfl⟩
    have be := bare_eq (fun z hz => ((ro r hr).2.2 z hz).1)
    generalize PyData.tuple (r.br.map PyData.str) = B at be
    generalize encWd w = W
    generalize rwsD rs = RS
    simp [be, sizeLine_eq]
  have vw : viewD (.l ((rs.filter fun r => r.br.isEmpty).map fun r => .d (.str r.nm))) = .list (.str r.nm :: (q.map Rw.nm).map PyData.str) := by
    rw [viewD_of (fun r : Rw => PyData.str r.nm), fe, List.map_cons, List.map_map]
    rfl
  have gm : gMinS [.list (.str r.nm :: (q.map Rw.nm).map PyData.str)] = some (.d (.str r.nm)) := by
    have : strsD (.str r.nm :: (q.map Rw.nm).map PyData.str) = some (r.nm :: q.map Rw.nm) := by
      rw [← List.map_cons (f := PyData.str)]
      induction (r.nm :: q.map Rw.nm) with
      | nil => rfl
      | cons a as ih => rw [List.map_cons, strsD, ih]; rfl
    unfold gMinS
    simp only [this, mn]
  have nl : Nice (encT (.mk r.nm 0 [])) := nice_encT (by rw [okT]; exact ⟨rk, by simp, by rw [okTs]; trivial⟩) (by rw [levT, levTs]; omega)
  have ne := gNe_self nl
  have et : encT (.mk r.nm 0 []) = .tuple [.str r.nm, .int 0, .tuple []] := by rw [encT_mk]; rfl
  rw [lf] at e3
  refine ⟨some (.d (.list (.str r.nm :: (q.map Rw.nm).map PyData.str))), seq_nx (env1 := [x0, x1, x2, x3, x4, x5, x6, some (.d (encWd w)), some (.d (.str k)), some (.d (rwsD rs)), x10, x11, x12, some (.d (.list (.str r.nm :: (q.map Rw.nm).map PyData.str))), x14]) ?_ ?_⟩
  · rw [sSet_eq, eM_eq, eM_eq]
    refine (congrArg (fun r => R.st _ (R.map Ow.d (R.map viewD r)) _) lc).trans ?_
    rw [R.map_ok, R.map_ok, vw, R.st_ok]
    rfl
  · rw [et] at e3 ne
    generalize PyData.list (.str r.nm :: (q.map Rw.nm).map PyData.str) = B at gm ⊢
    generalize rwsD rs = RS
    generalize encWd w = W at e3 ⊢
    generalize mir (n + 2) 3 = m3 at e3 ⊢
    simp [e3, gm, ne, sizeLine_eq]
theorem lwLeaves_ok (n : Nat) {w : Wood} (hw : Wd9 w) (hso : ∀ p ∈ w, p.2.Pairwise fun a b => PySem.W.dataLt (.str b.nm) (.str a.nm) = false) (x0 x1 x2 x3 x4 x5 x6 x8 x9 x10 x11 x12 x13 x14 : Option Ow) :
    ∃ y8 y9 y13, forL (gtTup 2 (gtCons (gtName 8) (gtCons (gtName 9) gtNil))) (lwLeaf (mir (n + 2) 3)) (w.map encKd) [x0, x1, x2, x3, x4, x5, x6, some (.d (encWd w)), x8, x9, x10, x11, x12, x13, x14] = .nx [x0, x1, x2, x3, x4, x5, x6, some (.d (encWd w)), y8, y9, x10, x11, x12, y13, x14] := by
  obtain ⟨env', lp, y8, y9, y13, rfl⟩ := forL_map (g := gtTup 2 (gtCons (gtName 8) (gtCons (gtName 9) gtNil))) (f := lwLeaf (mir (n + 2) 3)) encKd w
    (fun i env => ∃ y8 y9 y13, env = [x0, x1, x2, x3, x4, x5, x6, some (.d (encWd w)), y8, y9, x10, x11, x12, y13, x14]) (fun i p env hz ⟨y8, y9, y13, e⟩ => by
      subst e
      have hm : (p.1, p.2) ∈ w := List.mem_of_getElem? hz
      obtain ⟨z13, e⟩ := lwLeaf_ok n hw hm (hso _ hm) x0 x1 x2 x3 x4 x5 x6 x10 x11 x12 y13 x14
      exact ⟨[x0, x1, x2, x3, x4, x5, x6, some (.d (encWd w)), some (.d (.str p.1)), some (.d (rwsD p.2)), x10, x11, x12, y13, x14], rfl, _, .inl e, _, _, _, rfl⟩) [x0, x1, x2, x3, x4, x5, x6, some (.d (encWd w)), x8, x9, x10, x11, x12, x13, x14] ⟨x8, x9, x13, rfl⟩
  exact ⟨y8, y9, y13, lp⟩
theorem nice_wd9 {w : Wood} (hw : Wd9 w) : Nice (encWd w) := nice_list (n := 4) (fun d hd => by
  obtain ⟨p, hp, rfl⟩ := List.mem_map.mp hd
  obtain ⟨_, _, ro⟩ := hw.rows _ hp
  have a := nice_rwsD (rs := p.2) fun r hr => ⟨(ro r hr).1, fun z hz => ((ro r hr).2.2 z hz).1⟩
  have ck := hw.kok _ hp
  change (PyData.tuple [.str p.1, rwsD p.2]).canLay0 = true ∧ (PyData.tuple [.str p.1, rwsD p.2]).depth ≤ 4
  generalize rwsD p.2 = Z at a
  refine ⟨?_, ?_⟩
  · simp [PyData.canLay0, PyData.canLayAll0, ck, a.1]
  · simp [PyData.depth, PyData.depthAll]
    omega) (by omega)
end
end G
set_option Elab.async false
set_option linter.all false
set_option maxRecDepth 100000
set_option maxHeartbeats 4000000
namespace G
open PySem PySem.Spec L2 Mir
noncomputable section
theorem copy9 {w : Wood} (hl : w.length ≤ 1000) (x0 x1 x2 x4 x5 x6 x7 x8 x9 x10 x11 x12 x13 x14 : Option Ow) : eLc (eB (eVar 3) itD) (gtTup 2 (gtCons (gtName 8) (gtCons (gtName 9) gtNil))) cYes (eM (eTup (aCons (eVar 8) (aCons (eM (eCa gList (aCons (eVar 9) aNil)) viewD) aNil))) Ow.d) (List.map (·.2) ([("_law_kind", 8), ("_law_rows_here", 9)] : List (Str × Nat))) [x0, x1, x2, some (.d (encWd w)), x4, x5, x6, x7, x8, x9, x10, x11, x12, x13, x14] = .ok (.l (w.map fun p => .d (encKd p))) := by
  refine eLc_of (ds := w.map encKd) rfl (by rw [List.length_map, sizeLine_eq]; omega) (lcR_map encKd _ w fun p _ => ⟨[x0, x1, x2, some (.d (encWd w)), x4, x5, x6, x7, some (.d (.str p.1)), some (.d (.list (p.2.map encRw))), x10, x11, x12, x13, x14], rfl, rfl, ?_⟩)
  have gl := gList_ls (p.2.map encRw)
  have vw : viewD (.l ((p.2.map encRw).map Ow.d)) = .list (p.2.map encRw) := by rw [viewD_l, viewAll_mapd]
  unfold encKd
  generalize (p.2.map encRw).map Ow.d = os at gl vw
  generalize p.2.map encRw = ds at gl vw
  generalize encWd w = W
  simp [gl, vw, sizeLine_eq]
theorem nm9_ok {b : List Nat} {t f : Nat} (hb : ∀ z ∈ b, isL z = true) (k : Nat) : PyData.strOk (tx (nm9 b t f k)) = true := strOk_tx fun c hc => by
  unfold nm9 at hc
  rcases List.mem_append.mp hc with hc | hc
  · rcases List.mem_append.mp hc with hc | hc
    · exact isL_small (hb c (List.mem_of_mem_take hc))
    · rw [List.mem_singleton] at hc
      have := Nat.mod_lt (f + k) (show 0 < 26 by decide)
      omega
  · exact isL_small (hb c (List.mem_of_mem_drop hc))
theorem law_true (M0 : Nat) (hM : 70 ≤ M0) (ns : List Int) (hns : ns.length ≤ 63) : mir M0 11 [.list (ns.map PyData.int)] = .ok (.d (.bool true)) := by
  obtain ⟨n, rfl⟩ : ∃ n, M0 = n + 30 + 1 := ⟨M0 - 31, by omega⟩
  rw [mir_law, run_law]
  have he : envOf 14 [.list (ns.map PyData.int)] = [some (.d (scD ns)), none, none, none, none, none, none, none, none, none, none, none, none, none, none] := rfl
  rw [he]
  have cc : ∀ k : Nat, mir (n + 30) 4 [scD ns, .int (k : Nat)] = .ok (.d (.int (scCell ns k))) := fun k => cell_ok (n + 29) ns k
  have c0 : mir (n + 30) 4 [scD ns, .int 0] = .ok (.d (.int (scCell ns 0))) := cc 0
  have c1 : mir (n + 30) 4 [scD ns, .int 1] = .ok (.d (.int (scCell ns 1))) := cc 1
  have c2 : mir (n + 30) 4 [scD ns, .int 2] = .ok (.d (.int (scCell ns 2))) := cc 2
  have c3 : mir (n + 30) 4 [scD ns, .int 3] = .ok (.d (.int (scCell ns 3))) := cc 3
  have c12 : mir (n + 30) 4 [scD ns, .int 12] = .ok (.d (.int (scCell ns 12))) := cc 12
  obtain ⟨b, t, f, hb1, hb2, hb3, hb4, e5⟩ := names_ok (n + 29) (scCell ns 0) (scCell ns 1) 3 (by decide)
  obtain ⟨b', t', f', hb1', hb2', hb3', hb4', e5'⟩ := names_ok (n + 29) (scCell ns 2) (scCell ns 3) 7 (by decide)
  obtain ⟨kd, hkd⟩ : ∃ kd : Nat → Str, kd = fun k => tx (nm9 b t f k) := ⟨_, rfl⟩
  obtain ⟨nm, hnm⟩ : ∃ nm : Nat → Str, nm = fun k => tx (nm9 b' t' f' k) := ⟨_, rfl⟩
  have k0 : ∀ i, PyData.strOk (kd i) = true := fun i => by rw [hkd]; exact nm9_ok hb3 i
  have n0 : ∀ i, PyData.strOk (nm i) = true := fun i => by rw [hnm]; exact nm9_ok hb3' i
  have kne : kd 0 ≠ kd 1 := by
    rw [hkd]
    intro h
    have := nm9_apart hb1 (by decide) (by decide) (tx_inj h)
    omega
  have e5 : mir (n + 30) 5 [.int (scCell ns 0), .int (scCell ns 1), .int 3] = .ok (.l ((List.range 3).map fun k => .d (.str (kd k)))) := by rw [hkd]; exact e5
  have e5' : mir (n + 30) 5 [.int (scCell ns 2), .int (scCell ns 3), .int 7] = .ok (.l ((List.range 7).map fun k => .d (.str (nm k)))) := by rw [hnm]; exact e5'
  have v5 : viewD (.l ((List.range 3).map fun k => .d (.str (kd k)))) = .list ((List.range 3).map fun k => .str (kd k)) := viewD_of _ _
  have v5' : viewD (.l ((List.range 7).map fun k => .d (.str (nm k)))) = .list ((List.range 7).map fun k => .str (nm k)) := viewD_of _ _
  obtain ⟨r0, e6, l0, a0, b0, s0⟩ := lawRows_ok (n + 28) ns 4 (by decide) kd nm
  obtain ⟨r1, e6', l1, a1, b1, s1⟩ := lawRows_ok (n + 28) ns 8 (by decide) kd nm
  have hw := wd9_of (fun i _ => k0 i) (fun i _ => n0 i) kne l0 l1 a0 a1 b0 b1
  obtain ⟨w, hwe⟩ : ∃ w : Wood, w = [(kd 0, r0), (kd 1, r1)] := ⟨_, rfl⟩
  rw [← hwe] at hw
  obtain ⟨hs, hh, h0, hl, e8⟩ := drawn_ok (n + 29) hw (ns.drop 13)
  have wy0 := Int.emod_nonneg (scCell ns 12) (show (10 ^ 9 : Int) ≠ 0 by decide)
  have wy1 := Int.emod_lt_of_pos (scCell ns 12) (show (0 : Int) < 10 ^ 9 by decide)
  obtain ⟨wy, hwy⟩ : ∃ wy : Nat, scCell ns 12 % 10 ^ 9 = (wy : Nat) := ⟨(scCell ns 12 % 10 ^ 9).toNat, by omega⟩
  have sp : ((wy : Nat) : Int) / 24 % ((hs.length : Nat) : Int) = ((wy / 24 % hs.length : Nat) : Int) := by simp
  have w4 : ((wy : Nat) : Int) % 4 = ((wy % 4 : Nat) : Int) := by omega
  have w6 : ((wy : Nat) : Int) / 4 % 6 = ((wy / 4 % 6 : Nat) : Int) := by omega
  have q6 : wy / 4 % 6 < 6 := Nat.mod_lt _ (by decide)
  obtain ⟨T, tk, tl, ts, e9⟩ := made_ok (n + 29) hh h0 hl (wy / 24 % hs.length) (wy % 4) (n0 (wy / 4 % 6))
  have nix : gIx (.list ((List.range 7).map fun k => .str (nm k))) (.int (wy / 4 % 6 : Nat)) = some (.str (nm (wy / 4 % 6))) := by
    show atI _ _ = _
    exact atI_natD (by rw [List.getElem?_map, List.getElem?_range (by omega)]; rfl)
  have pw : gPow (.int 10) (.int 9) = some (.int 1000000000) := gPow10 9 (by decide)
  have md : gMod (.int (scCell ns 12)) (.int 1000000000) = some (.int (wy : Nat)) := by rw [gMod_int (by decide)]; exact congrArg (fun z => some (PyData.int z)) hwy
  have m1 : gDiv (.int (wy : Nat)) (.int 24) = some (.int ((wy : Nat) / 24)) := gDiv_small (by decide) (by decide)
  have m2 : gMod (.int (((wy : Nat) : Int) / 24)) (.int (hs.length : Nat)) = some (.int (wy / 24 % hs.length : Nat)) := by rw [gMod_int (by omega), sp]
  have m3 : gMod (.int (wy : Nat)) (.int 4) = some (.int (wy % 4 : Nat)) := by rw [gMod_int (by decide), w4]
  have m4 : gDiv (.int (wy : Nat)) (.int 4) = some (.int ((wy : Nat) / 4)) := gDiv_small (by decide) (by decide)
  have m5 : gMod (.int (((wy : Nat) : Int) / 4)) (.int 6) = some (.int (wy / 4 % 6 : Nat)) := by rw [gMod_int (by decide), w6]
  have hdl : gLen [hdD hs] = some (.d (.int (hs.length : Nat))) := by
    show gLen [.list (hs.map encHd)] = _
    rw [gLen_list, List.length_map]
  have hdv : viewD (hdO hs) = hdD hs := by rw [viewD_l, viewAll_mapd]; rfl
  change mir (n + 30) 8 _ = .ok (hdO hs) at e8
  change mir (n + 30) 6 [scD ns, .int 4, _, _] = _ at e6
  change mir (n + 30) 6 [scD ns, .int 8, _, _] = _ at e6'
  change mir (n + 30) 9 _ = _ at e9
  have v6 : viewD (.l (r0.map fun r => .d (encRw r))) = rwsD r0 := viewD_of encRw r0
  have v6' : viewD (.l (r1.map fun r => .d (encRw r))) = rwsD r1 := viewD_of encRw r1
  have i0 : gIx (.list ((List.range 3).map fun k => .str (kd k))) (.int 0) = some (.str (kd 0)) := rfl
  have i1 : gIx (.list ((List.range 3).map fun k => .str (kd k))) (.int 1) = some (.str (kd 1)) := rfl
  have i2 : gIx (.list ((List.range 3).map fun k => .str (kd k))) (.int 2) = some (.str (kd 2)) := rfl
  have wde : PyData.list [.tuple [.str (kd 0), rwsD r0], .tuple [.str (kd 1), rwsD r1]] = encWd w := by rw [hwe]; rfl
  have cp := copy9 (w := w) (by rw [hwe]; simp)
  have vcp : viewD (.l (w.map fun p => .d (encKd p))) = encWd w := viewD_of encKd w
  have nme : PyData.list ((List.range 7).map fun k => .str (nm k)) = .list (((List.range 7).map nm).map PyData.str) := by rw [List.map_map]; rfl
  have sl : gSl (scD ns) (some 13) none = some (.l (((ns.drop 13).map PyData.int).map Ow.d)) := by
    show gSl (.list (ns.map PyData.int)) _ _ = _
    rw [gSl_list, List.map_drop]
    exact congrArg (fun l => some (Ow.l (List.map Ow.d l))) (cutL_drop (ns.map PyData.int) 13)
  have vsl : viewD (.l (((ns.drop 13).map PyData.int).map Ow.d)) = .list ((ns.drop 13).map PyData.int) := by rw [viewD_l, viewAll_mapd]
  generalize ((ns.drop 13).map PyData.int).map Ow.d = DO at sl vsl
  generalize PyData.list ((ns.drop 13).map PyData.int) = DR at vsl e8
  have l1' := lwKinds_ok n hw tk tl (by omega) ((List.range 7).map nm) [kd 0, kd 2, kd 1, kd 0] (by
    intro k hk
    simp only [List.mem_cons, List.not_mem_nil, or_false] at hk
    rcases hk with rfl | rfl | rfl | rfl <;> exact k0 _)
  rw [← nme] at l1'
  have l2' := lwLeaves_ok (n + 28) hw (by
    rw [hwe]
    intro p hp
    rcases List.mem_cons.mp hp with rfl | hp
    · exact s0
    · cases List.mem_singleton.mp hp
      exact s1)
  change ∀ _ _ _ _ _ _ _ _ _ _ _ _ _ _, ∃ _ _ _, forL _ (lwLeaf (mir (n + 30) 3)) _ _ = _ at l2'
  have nw := gEq_self (nice_wd9 hw)
  generalize (.l ((List.range 3).map fun k => .d (.str (kd k))) : Ow) = KO at e5 v5
  generalize PyData.list ((List.range 3).map fun k => .str (kd k)) = KD at v5 i0 i1 i2 e6 e6'
  generalize (.l ((List.range 7).map fun k => .d (.str (nm k))) : Ow) = NO at e5' v5'
  generalize PyData.list ((List.range 7).map fun k => .str (nm k)) = ND at v5' nix e6 e6' l1'
  refine fin_step (env1 := [some (.d (scD ns)), some (.d KD), none, none, none, none, none, none, none, none, none, none, none, none, none]) (by
    generalize scD ns = SC at c0 c1
    simp [c0, c1, e5, v5]) ?_
  refine fin_step (env1 := [some (.d (scD ns)), some (.d KD), some (.d ND), none, none, none, none, none, none, none, none, none, none, none, none]) (by
    generalize scD ns = SC at c2 c3
    simp [c2, c3, e5', v5']) ?_
  refine fin_step (env1 := [some (.d (scD ns)), some (.d KD), some (.d ND), some (.d (encWd w)), none, none, none, none, none, none, none, none, none, none, none]) (by
    rw [← wde]
    generalize (.l (r0.map fun r => .d (encRw r)) : Ow) = RO at e6 v6
    generalize (.l (r1.map fun r => .d (encRw r)) : Ow) = RO' at e6' v6'
    generalize scD ns = SC at e6 e6'
    generalize rwsD r0 = R0 at v6
    generalize rwsD r1 = R1 at v6'
    simp [i0, i1, e6, e6', v6, v6', sizeLine_eq]) ?_
  clear e6 e6' v6 v6' e5 e5' v5 v5'
  refine fin_step (env1 := [some (.d (scD ns)), some (.d KD), some (.d ND), some (.d (encWd w)), some (.d (hdD hs)), none, none, none, none, none, none, none, none, none, none]) (by
    generalize scD ns = SC at sl
    generalize encWd w = W at e8
    generalize hdO hs = HO at e8 hdv
    generalize hdD hs = HD at hdv
    simp [sl, vsl, e8, hdv]) ?_
  refine fin_step (env1 := [some (.d (scD ns)), some (.d KD), some (.d ND), some (.d (encWd w)), some (.d (hdD hs)), some (.d (.int (wy : Nat))), none, none, none, none, none, none, none, none, none]) (by
    generalize scD ns = SC at c12
    generalize encWd w = W
    generalize hdD hs = HD
    simp [c12, pw, md]) ?_
  refine fin_step (env1 := [some (.d (scD ns)), some (.d KD), some (.d ND), some (.d (encWd w)), some (.d (hdD hs)), some (.d (.int (wy : Nat))), some (.d (encT T)), none, none, none, none, none, none, none, none]) (by
    generalize scD ns = SC
    generalize encWd w = W
    generalize hdD hs = HD at hdl e9
    generalize encT T = TT at e9
    generalize ((wy / 4 % 6 : Nat) : Int) = z1 at m5 nix
    generalize ((wy % 4 : Nat) : Int) = z2 at m3 e9
    generalize ((wy / 24 % hs.length : Nat) : Int) = z3 at m2 e9
    generalize ((hs.length : Nat) : Int) = z4 at m2 hdl
    generalize ((wy : Nat) : Int) = z5 at m1 m2 m3 m4 m5
    simp [m1, m2, m3, m4, m5, hdl, nix, e9]) ?_
  refine fin_step (env1 := [some (.d (scD ns)), some (.d KD), some (.d ND), some (.d (encWd w)), some (.d (hdD hs)), some (.d (.int (wy : Nat))), some (.d (encT T)), some (.d (encWd w)), none, none, none, none, none, none, none]) (by
    rw [sSet_eq, eM_eq, eM_eq]
    refine (congrArg (fun r => R.st _ (R.map Ow.d (R.map viewD r)) _) (cp _ _ _ _ _ _ _ _ _ _ _ _ _ _)).trans ?_
    rw [R.map_ok, R.map_ok, vcp, R.st_ok]
    rfl) ?_
  obtain ⟨y8, y10, y11, y12, lp⟩ := l1' (some (.d (scD ns))) (some (.d KD)) (some (.d (hdD hs))) (some (.d (.int (wy : Nat)))) none none none none none none none
  refine fin_step (env1 := _) (by
    rw [sFor_eq]
    have it : (eB (eM (eLst (aCons (eBin gIx (eVar 1) (eC (.int 0))) (aCons (eBin gIx (eVar 1) (eC (.int 2))) (aCons (eBin gIx (eVar 1) (eC (.int 1))) (aCons (eBin gIx (eVar 1) (eC (.int 0))) aNil))))) viewD) itD) [some (.d (scD ns)), some (.d KD), some (.d ND), some (.d (encWd w)), some (.d (hdD hs)), some (.d (.int (wy : Nat))), some (.d (encT T)), some (.d (encWd w)), none, none, none, none, none, none, none] = .ok ([kd 0, kd 2, kd 1, kd 0].map PyData.str) := by
      generalize scD ns = SC
      generalize encWd w = W
      generalize hdD hs = HD
      generalize encT T = TT
      simp [i0, i1, i2, sizeLine_eq]
    rw [it, R.st_ok]
    exact lp) ?_
  obtain ⟨y8', y9', y13', lp⟩ := l2' (some (.d (scD ns))) (some (.d KD)) (some (.d ND)) (some (.d (encWd w))) (some (.d (hdD hs))) (some (.d (.int (wy : Nat)))) (some (.d (encT T))) y8 none y10 y11 y12 none none
  refine fin_step (env1 := _) (by
    rw [sFor_eq]
    exact (congrArg (fun r => R.st _ r _) (show (eB (eVar 3) itD) _ = .ok (w.map encKd) from rfl)).trans lp) ?_
  generalize encWd w = W at nw
  generalize scD ns = SC
  generalize hdD hs = HD
  generalize encT T = TT
  simp [nw]
end
end G
open PySem PySem.W PyProof.Rows
set_option maxRecDepth 100000 in
set_option maxHeartbeats 0 in
theorem PySem.Challenge.cw_turnery_k09_trees_of_a_wood_holds : PySem.Challenge.rw_turnery_k09_trees_of_a_wood.Holds := by
  w_on; o_law; k_head; (case hw => w_witness2)
  k_fill
  refine Mir.law_end (l := PySem.Challenge.rw_turnery_k09_trees_of_a_wood) (m := G.mir 70 11) 70 "_law_script" rfl rfl ⟨rfl, by decide, by decide⟩ (fun w h Y => PySem.W.kIn_of Y) (fun ns h _ => G.law_true 70 (by decide) ns h) ?F
  case F =>
    intro w mg fa h KX Gn hmg
    refine' G.all_mk 70 KX Gn hmg ?a0 ?l0 ?c0 ?k0 ?a1 ?l1 ?c1 ?k1 ?a2 ?l2 ?c2 ?k2 ?a3 ?l3 ?c3 ?k3 ?a4 ?l4 ?c4 ?k4 ?a5 ?l5 ?c5 ?k5 ?a6 ?l6 ?c6 ?k6 ?a7 ?l7 ?c7 ?k7 ?a8 ?l8 ?c8 ?k8 ?a9 ?l9 ?c9 ?k9 ?a10 ?l10 ?c10 ?k10 ?a11 ?l11 ?c11 ?k11 ?z_bool ?z_dict ?z_isinstance ?z_len ?z_list ?z_min ?z_range ?z_sorted ?z_tuple ?z_zip
    (case a0 => k_is)
    (case l0 => k_is)
    (case c0 => k_is)
    (case k0 => k_is)
    (case a1 => k_is)
    (case l1 => k_is)
    (case c1 => k_is)
    (case k1 => k_is)
    (case a2 => k_is)
    (case l2 => k_is)
    (case c2 => k_is)
    (case k2 => k_is)
    (case a3 => k_is)
    (case l3 => k_is)
    (case c3 => k_is)
    (case k3 => k_is)
    (case a4 => k_is)
    (case l4 => k_is)
    (case c4 => k_is)
    (case k4 => k_is)
    (case a5 => k_is)
    (case l5 => k_is)
    (case c5 => k_is)
    (case k5 => k_is)
    (case a6 => k_is)
    (case l6 => k_is)
    (case c6 => k_is)
    (case k6 => k_is)
    (case a7 => k_is)
    (case l7 => k_is)
    (case c7 => k_is)
    (case k7 => k_is)
    (case a8 => k_is)
    (case l8 => k_is)
    (case c8 => k_is)
    (case k8 => k_is)
    (case a9 => k_is)
    (case l9 => k_is)
    (case c9 => k_is)
    (case k9 => k_is)
    (case a10 => k_is)
    (case l10 => k_is)
    (case c10 => k_is)
    (case k10 => k_is)
    (case a11 => k_is)
    (case l11 => k_is)
    (case c11 => k_is)
    (case k11 => k_is)
    (case z_bool => k_is)
    (case z_dict => k_is)
    (case z_isinstance => k_is)
    (case z_len => k_is)
    (case z_list => k_is)
    (case z_min => k_is)
    (case z_range => k_is)
    (case z_sorted => k_is)
    (case z_tuple => k_is)
    (case z_zip => k_is)


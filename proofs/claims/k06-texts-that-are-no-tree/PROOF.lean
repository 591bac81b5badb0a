import PyProof.Rows.All
import Wide.All
import OpenK.AllK
import Wide.FinOn
import HandS.ForMost
import HandS.ForExc
import HandS.Walk
import HandS.TupAny
import HandS.Wide
import HandS.IsInst
import KE.KDictKeyed
import PyProof.P3Eq
import PyProof.NeData
import PyProof.Rows.SeqMore
import KE.GoesNew
import KE.GoesMore
import KE.GoesEnum
import HandS.Zip
import PyProof.AutoSeq1
import HandS.More
import KE.SortData
import HandS.EndBits
import HandS.Steps
import HandS.Rev
import PyProof.StrOps2
import HandS.Text
import HandS.Dict
import KE.KDictSum
import HandS.ExcIs
import HandS.TryOnly
import HandS.RevRange
import HandS.List
import PyProof.StrCalls
import KE.DataMinMax
import HandS.Style
import HandS.TupMul
import HandS.TupLen
import PySem.Challenge.RW_turnery_k06_texts_that_are_no_tree
set_option Elab.async false
set_option linter.all false
set_option maxRecDepth 100000
set_option maxHeartbeats 4000000
noncomputable section
namespace Mir
open PySem PySem.Spec L2

abbrev D := PyData
/-- what stands in the program's heap, and the world -/
structure Kw where
  K : PySem.W.Frag
  w : World
instance : CoeOut Kw PySem.W.Frag := ⟨Kw.K⟩
/-- a value in a mirror: data that stays, or a list or a dict that the def owns -/
inductive Ow where
  | d (x : D)
  | l (xs : List Ow)
  | m (kvs : List (D × D))
  /-- a tuple with own things in it -/
  | t (xs : List Ow)
  /-- a dict whose keys are whole numbers and texts, and one whose keys are tuples; its values may be own -/
  | k (ks : List D) (xs : List Ow)
  | n (ks : List D) (xs : List Ow)
  /-- an instance of a class, its fields by names -/
  | o (c : Str) (ns : List Str) (xs : List Ow)
abbrev Ev := List (Option Ow)
abbrev _root_.L2.Cx.KK (X : L2.Cx) : Kw := ⟨X.K, X.w⟩

/-- a pure outcome: none (not mirrored), a value, an exception's class -/
inductive R (α : Type) where
  | no
  | ok (a : α)
  | ex (c : Str)
def R.bind {α β : Type} : R α → (α → R β) → R β
  | .no, _ => .no
  | .ok a, f => f a
  | .ex c, _ => .ex c
@[simp] theorem R.bind_ok {α β : Type} (a : α) (f : α → R β) : (R.ok a).bind f = f a := rfl
@[simp] theorem R.bind_no {α β : Type} (f : α → R β) : (R.no : R α).bind f = .no := rfl
@[simp] theorem R.bind_ex {α β : Type} (c : Str) (f : α → R β) : (R.ex c : R α).bind f = .ex c := rfl
def R.map {α β : Type} (f : α → β) (r : R α) : R β := r.bind fun a => .ok (f a)
@[simp] theorem R.map_ok {α β : Type} (a : α) (f : α → β) : (R.ok a).map f = .ok (f a) := rfl
/-- r where c holds (by a choice that nothing reckons with) -/
def guard (c : Prop) {α : Type} (r : R α) : R α := @ite _ c (Classical.propDecidable c) r .no
@[simp] theorem guard_pos {c : Prop} {α : Type} {r : R α} (h : c) : guard c r = r := @if_pos _ (Classical.propDecidable c) h _ _ _

/-- how an exception of a class, and any instance, is told as data -/
def excD (c : Str) : D := .dict [(.none, .str c)]
def insD : D := .dict [(.none, .none)]
mutual
def viewD : Ow → D
  | .d x => x
  | .l xs => .list (viewAll xs)
  | .m kvs => .dict kvs
  | .t xs => .tuple (viewAll xs)
  | .k ks xs => .dict (ks.zip (viewAll xs))
  | .n ks xs => .dict (ks.zip (viewAll xs))
  | .o _ _ _ => insD
def viewAll : List Ow → List D
  | [] => []
  | x :: xs => viewD x :: viewAll xs
end
@[simp] theorem viewD_d (x : D) : viewD (.d x) = x := by unfold viewD; rfl
@[simp] theorem viewD_m (kvs : List (D × D)) : viewD (.m kvs) = .dict kvs := by rw [viewD]
@[simp] theorem viewD_l (xs : List Ow) : viewD (.l xs) = .list (viewAll xs) := by rw [viewD]
@[simp] theorem viewD_t (xs : List Ow) : viewD (.t xs) = .tuple (viewAll xs) := by rw [viewD]
@[simp] theorem viewD_k (ks : List D) (xs : List Ow) : viewD (.k ks xs) = .dict (ks.zip (viewAll xs)) := by rw [viewD]
@[simp] theorem viewD_n (ks : List D) (xs : List Ow) : viewD (.n ks xs) = .dict (ks.zip (viewAll xs)) := by rw [viewD]
@[simp] theorem viewD_o (c : Str) (ns : List Str) (xs : List Ow) : viewD (.o c ns xs) = insD := by rw [viewD]
@[simp] theorem viewAll_nil : viewAll [] = [] := by rw [viewAll]
@[simp] theorem viewAll_cons (x : Ow) (xs : List Ow) : viewAll (x :: xs) = viewD x :: viewAll xs := by rw [viewAll]
theorem viewAll_map : ∀ xs : List Ow, viewAll xs = xs.map viewD
  | [] => by rw [viewAll]; rfl
  | x :: xs => by rw [viewAll, viewAll_map xs]; rfl
@[simp] theorem viewAll_mapd : ∀ xs : List D, viewAll (xs.map Ow.d) = xs
  | [] => by simp
  | x :: xs => by simp [viewAll_mapd xs]

/-- a dict's key as data -/
def keyD : Key → D
  | .inl i => .int i
  | .inr z => .str z
/-- an exception of a class of the program's own -/
def excO (K : Kw) (a : Addr) (c : Str) : HO := .ext fun h => ∃ C oe vs, PySem.W.nsIn K.K mainGlobals c = some (some (.ref C)) ∧ h.get? a = some oe ∧ Zc (.ref C) none oe ∧ oe.data = .fields vs
/-- a dict whose keys are tuples, nested ones among them -/
def rowN (w : World) (x : NestedKey × Addr × Value) : DictEntry := ⟨x.1.hash w, .ref x.2.1, x.2.2⟩
def RelN (p : NestedKey × Addr × V) (q : NestedKey × Addr × Value) : Prop := p.1 = q.1 ∧ p.2.1 = q.2.1 ∧ RelV p.2.2 q.2.2
def dnO (w : World) (a : Addr) (kvs : List (NestedKey × Addr × V)) : HO := .ext fun h => kvs.length ≤ sizeLine ∧ (a == sysModules) = false ∧ ∃ xs : List (NestedKey × Addr × Value), Paired RelN kvs xs ∧
  ∃ o es ep, h.get? a = some o ∧ o.ExactDict ∧ o.data = .dict es ep ∧ es.toList = xs.map (rowN w) ∧ (xs.map (·.1)).Nodup
mutual
inductive Dp (K : Kw) (H : Hp) : V → PyData → Prop
  | non : Dp K H .non .none
  | bl (b : Bool) : Dp K H (.bl b) (.bool b)
  | int (i : Int) : Dp K H (.int i) (.int i)
  | str (x : Str) : Dp K H (.str x) (.str x)
  | lst {a : Addr} {xs : List V} {ds : List PyData} : SqL K.K H a xs → DpAll K H xs ds → Dp K H (.ref a) (.list ds)
  | tup {a : Addr} {xs : List V} {ds : List PyData} : SqT K.K H a xs → DpAll K H xs ds → Dp K H (.ref a) (.tuple ds)
  | dct {a : Addr} {kvs : List (Key × V)} {ps : List (PyData × PyData)} : Rd H a (.dK kvs) → DpKv K H kvs ps → Dp K H (.ref a) (.dict ps)
  | dcn {a : Addr} {kvs : List (NestedKey × Addr × V)} {ps : List (PyData × PyData)} : Rd H a (dnO K.w a kvs) → DpKn K H kvs ps → Dp K H (.ref a) (.dict ps)
  | exc {a : Addr} {c : Str} : Rd H a (excO K a c) → Dp K H (.ref a) (.dict [(.none, .str c)])
  | ins {a C dx : Addr} {fs : List (Str × V)} : H a = some (.ins C dx fs) → Dp K H (.ref a) (.dict [(.none, .none)])
inductive DpAll (K : Kw) (H : Hp) : List V → List PyData → Prop
  | nil : DpAll K H [] []
  | cons {v : V} {vs : List V} {d : PyData} {ds : List PyData} : Dp K H v d → DpAll K H vs ds → DpAll K H (v :: vs) (d :: ds)
inductive DpKv (K : Kw) (H : Hp) : List (Key × V) → List (PyData × PyData) → Prop
  | nil : DpKv K H [] []
  | cons {k : Key} {v : V} {kvs : List (Key × V)} {d : PyData} {ps : List (PyData × PyData)} : Dp K H v d → DpKv K H kvs ps → DpKv K H ((k, v) :: kvs) ((keyD k, d) :: ps)
inductive DpKn (K : Kw) (H : Hp) : List (NestedKey × Addr × V) → List (PyData × PyData) → Prop
  | nil : DpKn K H [] []
  | cons {k : NestedKey} {b : Addr} {v : V} {kvs : List (NestedKey × Addr × V)} {d : PyData} {ps : List (PyData × PyData)} : Dp K H (.ref b) k.data → k.depth ≤ 8 → Dp K H v d → DpKn K H kvs ps → DpKn K H ((k, b, v) :: kvs) ((k.data, d) :: ps)
end
section
variable {K : Kw}
theorem Same.rd {H H' : Hp} {a : Addr} {u : HO} (e : Same H H') (h : Rd H a u) : Rd H' a u := by
  rcases h with h | ⟨o, h⟩
  · exact .inl (e _ _ h)
  · exact .inr ⟨o, e _ _ h⟩
theorem SqT_mono {K : PySem.W.Frag} {H H' : Hp} {a : Addr} {xs : List V} (e : Same H H') (h : SqT K H a xs) : SqT K H' a xs := by
  rcases h with (h | ⟨o, h⟩) | h
  · exact .inl (.inl (e _ _ h))
  · exact .inl (.inr ⟨o, e _ _ h⟩)
  · exact .inr h
mutual
theorem Dp.mono {H H' : Hp} (e : Same H H') : ∀ (d : D) (v : V), Dp K H v d → Dp K H' v d
  | .none, _, h => by cases h; exact .non
  | .bool b, _, h => by cases h; exact .bl b
  | .int b, _, h => by cases h; exact .int b
  | .str b, _, h => by cases h; exact .str b
  | .list ds, _, h => by
    cases h with
    | lst hs ha => exact .lst (e.seq hs) (DpAll.mono e ds _ ha)
  | .tuple ds, _, h => by
    cases h with
    | tup hs ha => exact .tup (SqT_mono e hs) (DpAll.mono e ds _ ha)
  | .dict ps, _, h => by
    cases h with
    | dct hs ha => exact .dct (Same.rd e hs) (DpKv.mono e ps _ ha)
    | dcn hs ha => exact .dcn (Same.rd e hs) (DpKn.mono e ps _ ha)
    | exc hs => exact .exc (Same.rd e hs)
    | ins hs => exact .ins (e _ _ hs)
theorem DpAll.mono {H H' : Hp} (e : Same H H') : ∀ (ds : List D) (vs : List V), DpAll K H vs ds → DpAll K H' vs ds
  | [], _, h => by cases h; exact .nil
  | d :: ds, _, h => by
    cases h with
    | cons h1 h2 => exact .cons (Dp.mono e d _ h1) (DpAll.mono e ds _ h2)
theorem DpKv.mono {H H' : Hp} (e : Same H H') : ∀ (ps : List (D × D)) (kvs : List (Key × V)), DpKv K H kvs ps → DpKv K H' kvs ps
  | [], _, h => by cases h; exact .nil
  | (x, d) :: ps, _, h => by
    cases h with
    | cons h1 h2 => exact .cons (Dp.mono e d _ h1) (DpKv.mono e ps _ h2)
theorem DpKn.mono {H H' : Hp} (e : Same H H') : ∀ (ps : List (D × D)) (kvs : List (NestedKey × Addr × V)), DpKn K H kvs ps → DpKn K H' kvs ps
  | [], _, h => by cases h; exact .nil
  | (x, d) :: ps, _, h => by
    cases h with
    | cons h0 h1 h2 h3 => exact .cons (Dp.mono e _ _ h0) h1 (Dp.mono e d _ h2) (DpKn.mono e ps _ h3)
end
mutual
/-- as the kit has it, where no dict is within -/
theorem Dp.kit {H : Hp} : ∀ (d : D) (v : V), Dp K H v d → d.canLay0 = true → L2.Dp K.K H v d
  | .none, _, h, _ => by cases h; exact .non
  | .bool b, _, h, _ => by cases h; exact .bl b
  | .int b, _, h, _ => by cases h; exact .int b
  | .str b, _, h, _ => by cases h; exact .str b
  | .list ds, _, h, c => by
    cases h with
    | lst hs ha => exact .lst hs (DpAll.kit ds _ ha (by rw [PyData.canLay0] at c; exact c))
  | .tuple ds, _, h, c => by
    cases h with
    | tup hs ha => exact .tup hs (DpAll.kit ds _ ha (by rw [PyData.canLay0] at c; exact c))
  | .dict _, _, _, c => by rw [PyData.canLay0] at c; cases c
theorem DpAll.kit {H : Hp} : ∀ (ds : List D) (vs : List V), DpAll K H vs ds → PyData.canLayAll0 ds = true → L2.DpAll K.K H vs ds
  | [], _, h, _ => by cases h; exact .nil
  | d :: ds, _, h, c => by
    rw [PyData.canLayAll0, Bool.and_eq_true] at c
    cases h with
    | cons h1 h2 => exact .cons (Dp.kit d _ h1 c.1) (DpAll.kit ds _ h2 c.2)
end
theorem dpUp {H H' : Hp} {v : V} {d : D} (h : Dp K H v d) (e : Same H H') : Dp K H' v d := Dp.mono e d v h
theorem dpaUp {H H' : Hp} {v : List V} {d : List D} (h : DpAll K H v d) (e : Same H H') : DpAll K H' v d := DpAll.mono e d v h
theorem DpAll.len {H : Hp} : ∀ {vs : List V} {ds : List D}, DpAll K H vs ds → vs.length = ds.length
  | _, [], h => by cases h; rfl
  | _, d :: ds, h => by
    cases h with
    | cons h1 h2 => simp [DpAll.len h2]
theorem DpAll.get {H : Hp} : ∀ {vs : List V} {ds : List D} {i : Nat} {d : D}, DpAll K H vs ds → ds[i]? = some d → ∃ v, vs[i]? = some v ∧ Dp K H v d
  | _, [], i, d, h, e => by simp at e
  | _, x :: ds, 0, d, h, e => by
    cases h with
    | cons h1 h2 => simp at e; subst e; exact ⟨_, rfl, h1⟩
  | _, x :: ds, i + 1, d, h, e => by
    cases h with
    | cons h1 h2 =>
      obtain ⟨v, q, r⟩ := DpAll.get (i := i) h2 (by simpa using e)
      exact ⟨v, by simpa using q, r⟩
theorem DpAll.getV {H : Hp} : ∀ {vs : List V} {ds : List D} {i : Nat} {v : V}, DpAll K H vs ds → vs[i]? = some v → ∃ d, ds[i]? = some d ∧ Dp K H v d
  | _, [], i, v, h, e => by cases h; simp at e
  | _, x :: ds, 0, v, h, e => by
    cases h with
    | cons h1 h2 => simp at e; subst e; exact ⟨_, rfl, h1⟩
  | _, x :: ds, i + 1, v, h, e => by
    cases h with
    | cons h1 h2 =>
      obtain ⟨d, q, r⟩ := DpAll.getV (i := i) h2 (by simpa using e)
      exact ⟨d, by simpa using q, r⟩
theorem DpAll.append {H : Hp} : ∀ {vs ws : List V} {ds es : List D}, DpAll K H vs ds → DpAll K H ws es → DpAll K H (vs ++ ws) (ds ++ es)
  | _, _, [], _, h, g => by cases h; exact g
  | _, _, d :: ds, _, h, g => by
    cases h with
    | cons h1 h2 => exact .cons h1 (DpAll.append h2 g)
theorem DpAll.take {H : Hp} : ∀ {vs : List V} {ds : List D} (n : Nat), DpAll K H vs ds → DpAll K H (vs.take n) (ds.take n)
  | _, [], n, h => by cases h; simp; exact .nil
  | _, d :: ds, 0, h => by simp; exact .nil
  | _, d :: ds, n + 1, h => by
    cases h with
    | cons h1 h2 => exact .cons h1 (DpAll.take n h2)
theorem DpAll.drop {H : Hp} : ∀ {vs : List V} {ds : List D} (n : Nat), DpAll K H vs ds → DpAll K H (vs.drop n) (ds.drop n)
  | _, [], n, h => by cases h; simp; exact .nil
  | _, d :: ds, 0, h => h
  | _, d :: ds, n + 1, h => by
    cases h with
    | cons h1 h2 => exact DpAll.drop n h2
theorem DpAll.of_ints {H : Hp} : ∀ (ns : List Int), DpAll K H (ns.map V.int) (ns.map PyData.int)
  | [] => .nil
  | n :: ns => .cons (.int n) (DpAll.of_ints ns)

/-- frozen facts F, the tracked heap H, behind a step that changes nothing that stood -/
structure Ext (F H F' H' : Hp) : Prop where
  ff : Same F F'
  hh : Same H H'
  fn : ∀ b o, F' b = some o → F b = some o ∨ H b = none
  fh : Same F' H'
theorem Ext.refl {F H : Hp} (h : Same F H) : Ext F H F H := ⟨Same.refl _, Same.refl _, fun _ _ h => .inl h, h⟩
theorem Ext.trans {F H F1 H1 F2 H2 : Hp} (a : Ext F H F1 H1) (b : Ext F1 H1 F2 H2) : Ext F H F2 H2 :=
  ⟨a.ff.trans b.ff, a.hh.trans b.hh, fun c o h => by
    rcases b.fn c o h with q | q
    · exact a.fn c o q
    · exact .inr (a.hh.free q), b.fh⟩
theorem free_of {F H : Hp} (s : Same F H) {p : Addr} (h : H p = none) : F p = none := s.free h
theorem same_upd {H : Hp} {p : Addr} (h : H p = none) (o : HO) : Same H (upd H p o) := fun b u q => by rw [upd_ne (ne_of_none q h)]; exact q
theorem same_upd2 {F H : Hp} (s : Same F H) {p : Addr} (h : H p = none) (o : HO) : Same (upd F p o) (upd H p o) := fun b u q => by
  by_cases e : b = p
  · subst e; rw [upd_same] at q ⊢; exact q
  · rw [upd_ne e] at q ⊢; exact s _ _ q
/-- a new object, frozen at once -/
theorem Ext.frz {F H : Hp} (s : Same F H) {p : Addr} (h : H p = none) (o : HO) : Ext F H (upd F p o) (upd H p o) :=
  ⟨same_upd (free_of s h) o, same_upd h o, fun b u q => by
    by_cases e : b = p
    · subst e; exact .inr h
    · rw [upd_ne e] at q; exact .inl q, same_upd2 s h o⟩
/-- a new object of the def's own -/
theorem Ext.own {F H : Hp} (s : Same F H) {p : Addr} (h : H p = none) (o : HO) : Ext F H F (upd H p o) :=
  ⟨Same.refl _, same_upd h o, fun _ _ q => .inl q, s.trans (same_upd h o)⟩

mutual
inductive OwnAt (K : Kw) (F H : Hp) : V → Ow → List Addr → Prop
  | d {v : V} {x : D} : Dp K F v x → OwnAt K F H v (.d x) []
  | l {a : Addr} {vs : List V} {os : List Ow} {fp : List Addr} : F a = none → H a = some (.lst vs) → OwnAll K F H vs os fp → OwnAt K F H (.ref a) (.l os) (a :: fp)
  | m {a : Addr} {kvs : List (Key × V)} {ps : List (D × D)} : F a = none → H a = some (.dK kvs) → DpKv K F kvs ps → OwnAt K F H (.ref a) (.m ps) [a]
  | t {a : Addr} {vs : List V} {os : List Ow} {fp : List Addr} : SqT K.K F a vs → OwnAll K F H vs os fp → OwnAt K F H (.ref a) (.t os) fp
  | k {a : Addr} {kvs : List (Key × V)} {os : List Ow} {fp : List Addr} : F a = none → H a = some (.dK kvs) → OwnAll K F H (kvs.map (·.2)) os fp → OwnAt K F H (.ref a) (.k (kvs.map fun p => keyD p.1) os) (a :: fp)
  | n {a : Addr} {kvs : List (NestedKey × Addr × V)} {os : List Ow} {fp : List Addr} : F a = none → H a = some (dnO K.w a kvs) → (∀ p ∈ kvs, Dp K F (.ref p.2.1) p.1.data ∧ p.1.depth ≤ 8) → OwnAll K F H (kvs.map (·.2.2)) os fp → OwnAt K F H (.ref a) (.n (kvs.map (·.1.data)) os) (a :: fp)
  | o {c : Str} {a C dx : Addr} {fs : List (Str × V)} {os : List Ow} {fp : List Addr} : PySem.W.nsIn K.K mainGlobals c = some (some (.ref C)) → F a = none → F dx = none → H a = some (.ins C dx fs) → H dx = some (.own a) → OwnAll K F H (fs.map (·.2)) os fp → OwnAt K F H (.ref a) (.o c (fs.map (·.1)) os) (a :: dx :: fp)
inductive OwnAll (K : Kw) (F H : Hp) : List V → List Ow → List Addr → Prop
  | nil : OwnAll K F H [] [] []
  | cons {v : V} {vs : List V} {o : Ow} {os : List Ow} {fp fps : List Addr} : OwnAt K F H v o fp → OwnAll K F H vs os fps → OwnAll K F H (v :: vs) (o :: os) (fp ++ fps)
end
/-- the step of a statement: what is owned (fp) may change -/
structure StepS (F H : Hp) (fp : List Addr) (F' H' : Hp) (fp' : List Addr) : Prop where
  ff : Same F F'
  fr : ∀ b o, H b = some o → b ∉ fp → H' b = some o
  fn : ∀ b o, F' b = some o → F b = some o ∨ b ∈ fp ∨ H b = none
  sub : ∀ b ∈ fp', b ∈ fp ∨ H b = none
theorem StepS.of_ext {F H F' H' : Hp} (e : Ext F H F' H') (fp : List Addr) : StepS F H fp F' H' fp :=
  ⟨e.ff, fun b o h _ => e.hh b o h, fun b o h => (e.fn b o h).imp id .inr, fun b h => .inl h⟩
theorem StepS.trans {F H F1 H1 F2 H2 : Hp} {fp fp1 fp2 : List Addr} (a : StepS F H fp F1 H1 fp1) (b : StepS F1 H1 fp1 F2 H2 fp2) : StepS F H fp F2 H2 fp2 := by
  have nn : ∀ c, H1 c = none → c ∈ fp ∨ H c = none := fun c h => by
    cases q : H c with
    | none => exact .inr rfl
    | some o =>
      by_cases hc : c ∈ fp
      · exact .inl hc
      · rw [a.fr c o q hc] at h; cases h
  refine ⟨a.ff.trans b.ff, fun c o h hc => b.fr c o (a.fr c o h hc) fun z => ?_, fun c o h => ?_, fun c h => ?_⟩
  · rcases a.sub c z with q | q
    · exact hc q
    · rw [h] at q; cases q
  · rcases b.fn c o h with q | q | q
    · exact a.fn c o q
    · exact .inr (a.sub c q)
    · exact .inr (nn c q)
  · rcases b.sub c h with q | q
    · exact a.sub c q
    · exact nn c q
theorem StepS.mono {F H F1 H1 : Hp} {fp fp' fp1 : List Addr} (a : StepS F H fp F1 H1 fp1) (h : ∀ b ∈ fp, b ∈ fp') : StepS F H fp' F1 H1 fp1 :=
  ⟨a.ff, fun b o q n => a.fr b o q fun z => n (h b z), fun b o q => (a.fn b o q).imp id (.imp (h b) id), fun b q => (a.sub b q).imp (h b) id⟩
theorem StepS.subset {F H F1 H1 : Hp} {fp fp1 fp2 : List Addr} (a : StepS F H fp F1 H1 fp1) (h : ∀ b ∈ fp2, b ∈ fp1) : StepS F H fp F1 H1 fp2 :=
  ⟨a.ff, a.fr, a.fn, fun b q => a.sub b (h b q)⟩
theorem StepS.none_of {F H F' H' : Hp} {fx fy : List Addr} {a : Addr} {o : HO} (s : StepS F H fx F' H' fy) (h1 : F a = none) (h2 : H a = some o) (na : a ∉ fx) : F' a = none := by
  cases q : F' a with
  | none => rfl
  | some u =>
    rcases s.fn a u q with z | z | z
    · rw [h1] at z; cases z
    · exact absurd z na
    · rw [h2] at z; cases z

mutual
/-- what is owned apart from what changes stays -/
theorem OwnAt.keep {F H F' H' : Hp} {fx fy : List Addr} (s : StepS F H fx F' H' fy) : ∀ (o : Ow) (v : V) (fp : List Addr), OwnAt K F H v o fp → (∀ b ∈ fp, b ∉ fx) → OwnAt K F' H' v o fp
  | .d x, v, fp, h, _ => by
    cases h with
    | d q => exact .d (dpUp q s.ff)
  | .l os, v, fp, h, n => by
    cases h with
    | @l a vs _ fps h1 h2 h3 =>
      have na : a ∉ fx := n a List.mem_cons_self
      refine .l ?_ (s.fr _ _ h2 na) (OwnAll.keep s os vs fps h3 fun b hb => n b (List.mem_cons_of_mem _ hb))
      cases q : F' a with
      | none => rfl
      | some u =>
        rcases s.fn a u q with z | z | z
        · rw [h1] at z; cases z
        · exact absurd z na
        · rw [h2] at z; cases z
  | .m ps, v, fp, h, n => by
    cases h with
    | @m a kvs _ h1 h2 h3 =>
      have na : a ∉ fx := n a List.mem_cons_self
      refine .m ?_ (s.fr _ _ h2 na) (DpKv.mono s.ff ps _ h3)
      cases q : F' a with
      | none => rfl
      | some u =>
        rcases s.fn a u q with z | z | z
        · rw [h1] at z; cases z
        · exact absurd z na
        · rw [h2] at z; cases z
  | .t os, v, fp, h, n => by
    cases h with
    | @t a vs _ _ h1 h2 => exact .t (SqT_mono s.ff h1) (OwnAll.keep s os vs fp h2 n)
  | .k _ os, v, fp, h, n => by
    cases h with
    | @k a kvs _ fps h1 h2 h3 =>
      have na : a ∉ fx := n a List.mem_cons_self
      refine .k (s.none_of h1 h2 na) (s.fr _ _ h2 na) (OwnAll.keep s os _ fps h3 fun b hb => n b (List.mem_cons_of_mem _ hb))
  | .n _ os, v, fp, h, n => by
    cases h with
    | @n a kvs _ fps h1 h2 h3 h4 =>
      have na : a ∉ fx := n a List.mem_cons_self
      refine .n (s.none_of h1 h2 na) (s.fr _ _ h2 na) (fun p hp => ⟨Dp.mono s.ff _ _ (h3 p hp).1, (h3 p hp).2⟩) (OwnAll.keep s os _ fps h4 fun b hb => n b (List.mem_cons_of_mem _ hb))
  | .o _ _ os, v, fp, h, n => by
    cases h with
    | @o c a C dx fs _ fps h0 h1 h2 h3 h4 h5 =>
      have na : a ∉ fx := n a List.mem_cons_self
      have nd : dx ∉ fx := n dx (List.mem_cons_of_mem _ List.mem_cons_self)
      exact .o h0 (s.none_of h1 h3 na) (s.none_of h2 h4 nd) (s.fr _ _ h3 na) (s.fr _ _ h4 nd) (OwnAll.keep s os _ fps h5 fun b hb => n b (List.mem_cons_of_mem _ (List.mem_cons_of_mem _ hb)))
theorem OwnAll.keep {F H F' H' : Hp} {fx fy : List Addr} (s : StepS F H fx F' H' fy) : ∀ (os : List Ow) (vs : List V) (fp : List Addr), OwnAll K F H vs os fp → (∀ b ∈ fp, b ∉ fx) → OwnAll K F' H' vs os fp
  | [], vs, fp, h, _ => by cases h; exact .nil
  | o :: os, vs, fp, h, n => by
    cases h with
    | cons h1 h2 => exact .cons (OwnAt.keep s o _ _ h1 fun b hb => n b (List.mem_append_left _ hb)) (OwnAll.keep s os _ _ h2 fun b hb => n b (List.mem_append_right _ hb))
end
theorem OwnAt.ext {F H F' H' : Hp} {v : V} {o : Ow} {fp : List Addr} (h : OwnAt K F H v o fp) (e : Ext F H F' H') : OwnAt K F' H' v o fp :=
  OwnAt.keep (StepS.of_ext e []) o v fp h fun _ _ => by simp
theorem OwnAll.ext {F H F' H' : Hp} {v : List V} {o : List Ow} {fp : List Addr} (h : OwnAll K F H v o fp) (e : Ext F H F' H') : OwnAll K F' H' v o fp :=
  OwnAll.keep (StepS.of_ext e []) o v fp h fun _ _ => by simp
mutual
theorem OwnAt.there {F H : Hp} : ∀ (o : Ow) (v : V) (fp : List Addr), OwnAt K F H v o fp → ∀ b ∈ fp, F b = none ∧ ∃ o, H b = some o
  | .d x, v, fp, h, b, hb => by cases h; cases hb
  | .l os, v, fp, h, b, hb => by
    cases h with
    | l h1 h2 h3 =>
      rcases List.mem_cons.mp hb with e | e
      · subst e; exact ⟨h1, _, h2⟩
      · exact OwnAll.there os _ _ h3 b e
  | .m ps, v, fp, h, b, hb => by
    cases h with
    | m h1 h2 h3 =>
      rw [List.mem_singleton] at hb
      subst hb; exact ⟨h1, _, h2⟩
  | .t os, v, fp, h, b, hb => by
    cases h with
    | t h1 h2 => exact OwnAll.there os _ _ h2 b hb
  | .k _ os, v, fp, h, b, hb => by
    cases h with
    | k h1 h2 h3 =>
      rcases List.mem_cons.mp hb with e | e
      · subst e; exact ⟨h1, _, h2⟩
      · exact OwnAll.there os _ _ h3 b e
  | .n _ os, v, fp, h, b, hb => by
    cases h with
    | n h1 h2 h3 h4 =>
      rcases List.mem_cons.mp hb with e | e
      · subst e; exact ⟨h1, _, h2⟩
      · exact OwnAll.there os _ _ h4 b e
  | .o _ _ os, v, fp, h, b, hb => by
    cases h with
    | o h0 h1 h2 h3 h4 h5 =>
      rcases List.mem_cons.mp hb with e | e
      · subst e; exact ⟨h1, _, h3⟩
      · rcases List.mem_cons.mp e with e | e
        · subst e; exact ⟨h2, _, h4⟩
        · exact OwnAll.there os _ _ h5 b e
theorem OwnAll.there {F H : Hp} : ∀ (o : List Ow) (v : List V) (fp : List Addr), OwnAll K F H v o fp → ∀ b ∈ fp, F b = none ∧ ∃ o, H b = some o
  | [], v, fp, h, b, hb => by cases h; cases hb
  | o :: os, v, fp, h, b, hb => by
    cases h with
    | cons h1 h2 =>
      rcases List.mem_append.mp hb with e | e
      · exact OwnAt.there o _ _ h1 b e
      · exact OwnAll.there os _ _ h2 b e
end
theorem dpKv_zip {H : Hp} : ∀ {kvs : List (Key × V)} {ds : List D}, DpAll K H (kvs.map (·.2)) ds → DpKv K H kvs ((kvs.map fun p => keyD p.1).zip ds)
  | [], _, h => by cases h; exact .nil
  | p :: kvs, _, h => by
    cases h with
    | cons h1 h2 => exact .cons h1 (dpKv_zip h2)
theorem dpKn_zip {H : Hp} : ∀ {kvs : List (NestedKey × Addr × V)} {ds : List D}, (∀ p ∈ kvs, Dp K H (.ref p.2.1) p.1.data ∧ p.1.depth ≤ 8) → DpAll K H (kvs.map (·.2.2)) ds → DpKn K H kvs ((kvs.map (·.1.data)).zip ds)
  | [], _, _, h => by cases h; exact .nil
  | p :: kvs, _, g, h => by
    cases h with
    | cons h1 h2 => exact .cons (g p List.mem_cons_self).1 (g p List.mem_cons_self).2 h1 (dpKn_zip (fun q hq => g q (List.mem_cons_of_mem _ hq)) h2)
mutual
theorem OwnAt.view {F H : Hp} (s : Same F H) : ∀ (o : Ow) (v : V) (fp : List Addr), OwnAt K F H v o fp → Dp K H v (viewD o)
  | .d x, v, fp, h => by
    cases h with
    | d q => rw [viewD]; exact dpUp q s
  | .l os, v, fp, h => by
    cases h with
    | l h1 h2 h3 => rw [viewD]; exact .lst (SqL.of h2) (OwnAll.view s os _ _ h3)
  | .m ps, v, fp, h => by
    cases h with
    | m h1 h2 h3 => rw [viewD]; exact .dct (.inl h2) (DpKv.mono s ps _ h3)
  | .t os, v, fp, h => by
    cases h with
    | t h1 h2 => rw [viewD]; exact .tup (SqT_mono s h1) (OwnAll.view s os _ _ h2)
  | .k _ os, v, fp, h => by
    cases h with
    | k h1 h2 h3 => rw [viewD]; exact .dct (.inl h2) (dpKv_zip (OwnAll.view s os _ _ h3))
  | .n _ os, v, fp, h => by
    cases h with
    | n h1 h2 h3 h4 => rw [viewD]; exact .dcn (.inl h2) (dpKn_zip (fun p hp => ⟨Dp.mono s _ _ (h3 p hp).1, (h3 p hp).2⟩) (OwnAll.view s os _ _ h4))
  | .o _ _ os, v, fp, h => by
    cases h with
    | o h0 h1 h2 h3 h4 h5 => rw [viewD]; exact .ins h3
theorem OwnAll.view {F H : Hp} (s : Same F H) : ∀ (o : List Ow) (v : List V) (fp : List Addr), OwnAll K F H v o fp → DpAll K H v (viewAll o)
  | [], v, fp, h => by cases h; rw [viewAll]; exact .nil
  | o :: os, v, fp, h => by
    cases h with
    | cons h1 h2 => rw [viewAll]; exact .cons (OwnAt.view s o _ _ h1) (OwnAll.view s os _ _ h2)
end
theorem OwnAll.len {F H : Hp} : ∀ {os : List Ow} {vs : List V} {fp : List Addr}, OwnAll K F H vs os fp → vs.length = os.length
  | [], _, _, h => by cases h; rfl
  | o :: os, _, _, h => by
    cases h with
    | cons h1 h2 => simp [OwnAll.len h2]
/-- F with the objects at fp as they stand in H -/
def frzAt (F H : Hp) (fp : List Addr) : Hp := fun b => if b ∈ fp then H b else F b
theorem frzAt_same {F H : Hp} {fp : List Addr} (n : ∀ b ∈ fp, F b = none) : Same F (frzAt F H fp) := fun b o h => by
  have : b ∉ fp := fun z => by rw [n b z] at h; cases h
  simp [frzAt, this, h]
theorem frzAt_in {F H : Hp} {fp : List Addr} (s : Same F H) : Same (frzAt F H fp) H := fun b o h => by
  unfold frzAt at h
  split at h
  · exact h
  · exact s _ _ h
theorem frzAt_of {F H : Hp} {fp : List Addr} {b : Addr} {o : HO} (h : frzAt F H fp b = some o) : F b = some o ∨ b ∈ fp := by
  unfold frzAt at h
  split at h
  · exact .inr ‹_›
  · exact .inl h
mutual
theorem OwnAt.frz {F H : Hp} {fx : List Addr} (nx : ∀ b ∈ fx, F b = none) : ∀ (o : Ow) (v : V) (fp : List Addr), OwnAt K F H v o fp → (∀ b ∈ fp, b ∈ fx) → Dp K (frzAt F H fx) v (viewD o)
  | .d x, v, fp, h, _ => by
    cases h with
    | d q => rw [viewD]; exact dpUp q (frzAt_same nx)
  | .l os, v, fp, h, hs => by
    cases h with
    | @l a _ _ _ h1 h2 h3 =>
      rw [viewD]
      have e : frzAt F H fx a = some (.lst _) := (if_pos (hs a List.mem_cons_self)).trans h2
      exact .lst (SqL.of e) (OwnAll.frz nx os _ _ h3 fun b hb => hs b (List.mem_cons_of_mem _ hb))
  | .m ps, v, fp, h, hs => by
    cases h with
    | @m a _ _ h1 h2 h3 =>
      rw [viewD]
      have e : frzAt F H fx a = some (.dK _) := (if_pos (hs a List.mem_cons_self)).trans h2
      exact .dct (.inl e) (DpKv.mono (frzAt_same nx) ps _ h3)
  | .t os, v, fp, h, hs => by
    cases h with
    | t h1 h2 => rw [viewD]; exact .tup (SqT_mono (frzAt_same nx) h1) (OwnAll.frz nx os _ _ h2 hs)
  | .k _ os, v, fp, h, hs => by
    cases h with
    | @k a _ _ _ h1 h2 h3 =>
      rw [viewD]
      have e : frzAt F H fx a = some (.dK _) := (if_pos (hs a List.mem_cons_self)).trans h2
      exact .dct (.inl e) (dpKv_zip (OwnAll.frz nx os _ _ h3 fun b hb => hs b (List.mem_cons_of_mem _ hb)))
  | .n _ os, v, fp, h, hs => by
    cases h with
    | @n a _ _ _ h1 h2 h3 h4 =>
      rw [viewD]
      have e : frzAt F H fx a = some (dnO _ _ _) := (if_pos (hs a List.mem_cons_self)).trans h2
      exact .dcn (.inl e) (dpKn_zip (fun p hp => ⟨Dp.mono (frzAt_same nx) _ _ (h3 p hp).1, (h3 p hp).2⟩) (OwnAll.frz nx os _ _ h4 fun b hb => hs b (List.mem_cons_of_mem _ hb)))
  | .o _ _ os, v, fp, h, hs => by
    cases h with
    | @o c a C dx fs _ _ h0 h1 h2 h3 h4 h5 =>
      rw [viewD]
      have e : frzAt F H fx a = some (.ins _ _ _) := (if_pos (hs a List.mem_cons_self)).trans h3
      exact .ins e
theorem OwnAll.frz {F H : Hp} {fx : List Addr} (nx : ∀ b ∈ fx, F b = none) : ∀ (o : List Ow) (v : List V) (fp : List Addr), OwnAll K F H v o fp → (∀ b ∈ fp, b ∈ fx) → DpAll K (frzAt F H fx) v (viewAll o)
  | [], v, fp, h, _ => by cases h; rw [viewAll]; exact .nil
  | o :: os, v, fp, h, hs => by
    cases h with
    | cons h1 h2 => rw [viewAll]; exact .cons (OwnAt.frz nx o _ _ h1 fun b hb => hs b (List.mem_append_left _ hb)) (OwnAll.frz nx os _ _ h2 fun b hb => hs b (List.mem_append_right _ hb))
end
/-- a fresh owned value made data -/
theorem Ext.freeze {F H F' H' : Hp} {v : V} {o : Ow} {fp : List Addr} (e : Ext F H F' H') (h : OwnAt K F' H' v o fp) (n : ∀ b ∈ fp, H b = none) :
    ∃ F2, Ext F H F2 H' ∧ Dp K F2 v (viewD o) := by
  have nx : ∀ b ∈ fp, F' b = none := fun b hb => (OwnAt.there o v fp h b hb).1
  refine ⟨frzAt F' H' fp, ⟨e.ff.trans (frzAt_same nx), e.hh, fun b u q => ?_, frzAt_in e.fh⟩, OwnAt.frz nx o v fp h fun _ z => z⟩
  rcases frzAt_of q with z | z
  · exact e.fn b u z
  · exact .inr (n b z)

inductive EnvAt (K : Kw) (F H : Hp) : St → Ev → List Addr → Prop
  | nil : EnvAt K F H [] [] []
  | non {x : Option V} {σ : St} {env : Ev} {fp : List Addr} : EnvAt K F H σ env fp → EnvAt K F H (x :: σ) (none :: env) fp
  | som {v : V} {o : Ow} {σ : St} {env : Ev} {fp fps : List Addr} : OwnAt K F H v o fp → EnvAt K F H σ env fps → EnvAt K F H (some v :: σ) (some o :: env) (fp ++ fps)
theorem EnvAt.keep {F H F' H' : Hp} {fx fy : List Addr} (s : StepS F H fx F' H' fy) : ∀ {σ : St} {env : Ev} {fp : List Addr}, EnvAt K F H σ env fp → (∀ b ∈ fp, b ∉ fx) → EnvAt K F' H' σ env fp := by
  intro σ env fp h
  induction h with
  | nil => intro _; exact .nil
  | non h ih => intro n; exact .non (ih n)
  | som h1 h2 ih => intro n; exact .som (OwnAt.keep s _ _ _ h1 fun b hb => n b (List.mem_append_left _ hb)) (ih fun b hb => n b (List.mem_append_right _ hb))
theorem EnvAt.ext {F H F' H' : Hp} {σ : St} {env : Ev} {fp : List Addr} (h : EnvAt K F H σ env fp) (e : Ext F H F' H') : EnvAt K F' H' σ env fp :=
  h.keep (StepS.of_ext e []) fun _ _ => by simp
theorem EnvAt.there {F H : Hp} {σ : St} {env : Ev} {fp : List Addr} (h : EnvAt K F H σ env fp) : ∀ b ∈ fp, F b = none ∧ ∃ o, H b = some o := by
  induction h with
  | nil => intro b hb; cases hb
  | non h ih => exact ih
  | som h1 h2 ih =>
    intro b hb
    rcases List.mem_append.mp hb with e | e
    · exact OwnAt.there _ _ _ h1 b e
    · exact ih b e
theorem EnvAt.len {F H : Hp} {σ : St} {env : Ev} {fp : List Addr} (h : EnvAt K F H σ env fp) : σ.length = env.length := by
  induction h with
  | nil => rfl
  | non h ih => simp [ih]
  | som h1 h2 ih => simp [ih]
/-- a slot read: its own footprint, and the others' -/
theorem EnvAt.get {F H : Hp} {σ : St} {env : Ev} {fp : List Addr} (h : EnvAt K F H σ env fp) : ∀ {i : Nat} {o : Ow}, env[i]? = some (some o) → ∃ v fo, σ[i]? = some (some v) ∧ OwnAt K F H v o fo ∧ (∀ b ∈ fo, b ∈ fp) := by
  induction h with
  | nil => intro i o e; simp at e
  | non h ih =>
    intro i o e
    cases i with
    | zero => simp at e
    | succ i => simpa using ih (i := i) (by simpa using e)
  | @som v o' σ' env' fp1 fps h1 h2 ih =>
    intro i o e
    cases i with
    | zero =>
      simp at e; subst e
      exact ⟨v, fp1, rfl, h1, fun b hb => List.mem_append_left _ hb⟩
    | succ i =>
      obtain ⟨v2, fo, a, b, c⟩ := ih (i := i) (by simpa using e)
      exact ⟨v2, fo, by simpa using a, b, fun b hb => List.mem_append_right _ (c b hb)⟩
/-- a slot changed: the rest keeps; fo what stood there, fr the rest (F, H may have moved by a step within fo) -/
theorem EnvAt.put {F H : Hp} {σ : St} {env : Ev} {fp : List Addr} (h : EnvAt K F H σ env fp) : ∀ {i : Nat}, i < env.length → fp.Nodup → ∃ fr fo, (∀ b ∈ fr, b ∈ fp) ∧ (∀ b ∈ fo, b ∈ fp) ∧ fr.Nodup ∧ fo.Nodup ∧ (∀ b ∈ fo, b ∉ fr) ∧
    (∀ o, env[i]? = some (some o) → ∃ v, σ[i]? = some (some v) ∧ OwnAt K F H v o fo) ∧
    ∀ (F' H' : Hp) (fx fy : List Addr), StepS F H fx F' H' fy → (∀ b ∈ fr, b ∉ fx) → (∀ (x : Option V), EnvAt K F' H' (σ.set i x) (env.set i none) fr) ∧ ∀ (v : V) (o : Ow) (fn : List Addr), OwnAt K F' H' v o fn → fn.Nodup → (∀ b ∈ fn, b ∉ fr) → ∃ fp', fp'.Nodup ∧ (∀ b ∈ fp', b ∈ fn ∨ b ∈ fr) ∧ EnvAt K F' H' (σ.set i (some v)) (env.set i (some o)) fp' := by
  induction h with
  | nil => intro i hi; simp at hi
  | @non x σ' env' fps h ih =>
    intro i hi hn
    cases i with
    | zero =>
      refine ⟨fps, [], fun b z => z, (fun b z => nomatch z), hn, List.nodup_nil, fun b z => (nomatch z), fun o e => by simp at e, fun F' H' fx fy s n => ⟨fun x => .non (h.keep s n), fun v o fn ho hd hx => ?_⟩⟩
      refine ⟨fn ++ fps, ?_, fun b hb => List.mem_append.mp hb, .som ho (h.keep s n)⟩
      rw [List.nodup_append]
      exact ⟨hd, hn, fun a ha b hb e => hx a ha (e ▸ hb)⟩
    | succ i =>
      obtain ⟨fr, fo, a1, a2, a3, a3', a4, a5, a6⟩ := ih (i := i) (by simpa using hi) hn
      refine ⟨fr, fo, a1, a2, a3, a3', a4, by simpa using a5, fun F' H' fx fy s n => ⟨fun x => .non ((a6 F' H' fx fy s n).1 x), fun v o fn ho hd hx => ?_⟩⟩
      obtain ⟨fp', b1, b2, b3⟩ := (a6 F' H' fx fy s n).2 v o fn ho hd hx
      exact ⟨fp', b1, b2, .non b3⟩
  | @som v0 o0 σ' env' f1 fps h1 h2 ih =>
    intro i hi hn
    rw [List.nodup_append] at hn
    obtain ⟨n1, n2, n3⟩ := hn
    cases i with
    | zero =>
      refine ⟨fps, f1, fun b z => List.mem_append_right _ z, fun b z => List.mem_append_left _ z, n2, n1, fun b z q => n3 b z b q rfl, fun o e => ?_, fun F' H' fx fy s n => ⟨fun x => .non (h2.keep s n), fun v o fn ho hd hx => ?_⟩⟩
      · simp at e; subst e; exact ⟨v0, rfl, h1⟩
      · refine ⟨fn ++ fps, ?_, fun b hb => List.mem_append.mp hb, .som ho (h2.keep s n)⟩
        rw [List.nodup_append]
        exact ⟨hd, n2, fun a ha b hb e => hx a ha (e ▸ hb)⟩
    | succ i =>
      obtain ⟨fr, fo, a1, a2, a3, a3', a4, a5, a6⟩ := ih (i := i) (by simpa using hi) n2
      have dis : ∀ b ∈ f1, b ∉ fr := fun b z q => n3 b z b (a1 b q) rfl
      have key : ∀ (F' H' : Hp) (fx fy : List Addr), StepS F H fx F' H' fy → (∀ b ∈ f1 ++ fr, b ∉ fx) → OwnAt K F' H' v0 o0 f1 := fun F' H' fx fy s n => OwnAt.keep s _ _ _ h1 fun b hb => n b (List.mem_append_left _ hb)
      refine ⟨f1 ++ fr, fo, fun b z => ?_, fun b z => List.mem_append_right _ (a2 b z), ?_, a3', fun b z q => ?_, by simpa using a5, fun F' H' fx fy s n => ⟨fun x => .som (key F' H' fx fy s n) ((a6 F' H' fx fy s fun b hb => n b (List.mem_append_right _ hb)).1 x), fun v o fn ho hd hx => ?_⟩⟩
      · rcases List.mem_append.mp z with z | z
        · exact List.mem_append_left _ z
        · exact List.mem_append_right _ (a1 b z)
      · rw [List.nodup_append]; exact ⟨n1, a3, fun a ha b hb e => dis a ha (e ▸ hb)⟩
      · rcases List.mem_append.mp q with q | q
        · exact n3 b q b (a2 b z) rfl
        · exact a4 b z q
      · obtain ⟨fp', b1, b2, b3⟩ := (a6 F' H' fx fy s fun b hb => n b (List.mem_append_right _ hb)).2 v o fn ho hd fun b hb q => hx b hb (List.mem_append_right _ q)
        have dj : ∀ b ∈ f1, b ∉ fp' := fun b z q => by
          rcases b2 b q with r | r
          · exact hx b r (List.mem_append_left _ z)
          · exact dis b z r
        refine ⟨f1 ++ fp', ?_, fun b hb => ?_, .som (key F' H' fx fy s n) b3⟩
        · rw [List.nodup_append]; exact ⟨n1, b1, fun a ha b hb e => dj a ha (e ▸ hb)⟩
        · rcases List.mem_append.mp hb with r | r
          · exact .inr (List.mem_append_left _ r)
          · exact (b2 b r).imp id (List.mem_append_right _)

structure Sat (K : Kw) (F H : Hp) (σ : St) (env : Ev) (fp : List Addr) : Prop where
  fh : Same F H
  en : EnvAt K F H σ env fp
  nd : fp.Nodup
theorem Sat.ext {F H F' H' : Hp} {σ : St} {env : Ev} {fp : List Addr} (s : Sat K F H σ env fp) (e : Ext F H F' H') : Sat K F' H' σ env fp := ⟨e.fh, s.en.ext e, s.nd⟩
end
end Mir
end
set_option Elab.async false
set_option linter.all false
set_option maxRecDepth 100000
set_option maxHeartbeats 4000000
noncomputable section
namespace Mir
open PySem PySem.Spec L2

def Post (X : Cx) (W : WX) {α β : Type} (P : Hp → α → β → Hp → Hp → Prop) (F H : Hp) (σ : L2.St) : R α → (β → Hp → Prop) → Prop
  | .no, _ => False
  | .ok a, Q => ∀ v F' H', Ext F H F' H' → P H a v F' H' → Q v H'
  | .ex c, _ => ∀ C F' H', X.mg c = some (.ref C) → Ext F H F' H' → W (.ref C) none σ H'
class Anti {α β : Type} (P : Hp → α → β → Hp → Hp → Prop) : Prop where
  anti : ∀ {H H1 : Hp} {a : α} {v : β} {F' H' : Hp}, Same H H1 → P H1 a v F' H' → P H a v F' H'
def PVw (K : Kw) (_ : Hp) (d : D) (v : V) (_ H' : Hp) : Prop := Dp K H' v d
def PFz (K : Kw) (_ : Hp) (d : D) (v : V) (F' _ : Hp) : Prop := Dp K F' v d
def POw (K : Kw) (H : Hp) (r : Ow) (v : V) (F' H' : Hp) : Prop := ∃ fp, OwnAt K F' H' v r fp ∧ fp.Nodup ∧ ∀ b ∈ fp, H b = none
/-- a list or tuple whose items are frozen, though it may itself change; other data -/
def PSq (K : Kw) (_ : Hp) (d : D) (v : V) (F' H' : Hp) : Prop := match d with
  | .list ds => ∃ a vs, v = .ref a ∧ SqL K H' a vs ∧ DpAll K F' vs ds
  | d => Dp K F' v d
def PTb (_ : Hp) (b : Bool) (v : Bool) (_ _ : Hp) : Prop := v = b
def PAv (K : Kw) (_ : Hp) (ds : List D) (vs : List V) (_ H' : Hp) : Prop := DpAll K H' vs ds
def PAf (K : Kw) (_ : Hp) (ds : List D) (vs : List V) (F' _ : Hp) : Prop := DpAll K F' vs ds
variable {K : Kw}
instance : Anti (PVw K) := ⟨fun _ h => h⟩
instance : Anti (PFz K) := ⟨fun _ h => h⟩
instance : Anti (PSq K) := ⟨fun {_ _ _ _ _ _} _ h => h⟩
instance : Anti PTb := ⟨fun _ h => h⟩
instance : Anti (PAv K) := ⟨fun _ h => h⟩
instance : Anti (PAf K) := ⟨fun _ h => h⟩
instance : Anti (POw K) := ⟨fun s ⟨fp, a, b, c⟩ => ⟨fp, a, b, fun x hx => s.free (c x hx)⟩⟩

/-- the semantics: t (a reading) is implied by the mirror f -/
def Sm (X : Cx) (W : WX) {α β : Type} (P : Hp → α → β → Hp → Hp → Prop) (t : L2.St → Hp → (β → Hp → Prop) → Prop) (f : Ev → R α) : Prop :=
  ∀ F H σ env fp Q, Sat X.KK F H σ env fp → Post X W P F H σ (f env) Q → t σ H Q
section
variable {X : Cx} {W : WX} {α β γ δ : Type}
theorem Post.ext {P : Hp → α → β → Hp → Hp → Prop} [Anti P] {F H F1 H1 : Hp} {σ : L2.St} {r : R α} {Q : β → Hp → Prop} (h : Post X W P F H σ r Q) (e : Ext F H F1 H1) : Post X W P F1 H1 σ r Q := by
  cases r with
  | no => exact h
  | ok a => exact fun v F' H' e' p => h v F' H' (e.trans e') (Anti.anti e.hh p)
  | ex c => exact fun C F' H' m e' => h C F' H' m (e.trans e')
/-- evaluate one part, go on -/
theorem Sm.go {P : Hp → α → β → Hp → Hp → Prop} {P2 : Hp → γ → δ → Hp → Hp → Prop} [Anti P2] {t : L2.St → Hp → (β → Hp → Prop) → Prop} {f : Ev → R α} (s : Sm X W P t f) {g : α → R γ} {F H : Hp} {σ : L2.St} {env : Ev} {fp : List Addr} {Q : δ → Hp → Prop} {T : β → Hp → Prop}
    (sat : Sat X.KK F H σ env fp) (h : Post X W P2 F H σ ((f env).bind g) Q) (k : ∀ a v F1 H1, Sat X.KK F1 H1 σ env fp → P H a v F1 H1 → Ext F H F1 H1 → Post X W P2 F1 H1 σ (g a) Q → T v H1) : t σ H T := by
  refine s F H σ env fp T sat ?_
  cases e : f env with
  | no => rw [e] at h; exact h
  | ok a =>
    rw [e] at h
    exact fun v F' H' x p => k a v F' H' (sat.ext x) p x (Post.ext (show Post X W P2 F H σ (g a) Q from h) x)
  | ex c => rw [e] at h; exact h
theorem Post.thru {β' : Type} {P : Hp → α → β → Hp → Hp → Prop} {P2 : Hp → γ → β' → Hp → Hp → Prop} {F H : Hp} {σ : L2.St} {r : R α} {g : α → R γ} {Q : β → Hp → Prop} {Q2 : β' → Hp → Prop} (h : Post X W P2 F H σ (r.bind g) Q2)
    (k : ∀ a, r = .ok a → Post X W P2 F H σ (g a) Q2 → ∀ v F' H', Ext F H F' H' → P H a v F' H' → Q v H') : Post X W P F H σ r Q := by
  cases r with
  | no => exact h
  | ok a => exact k a rfl h
  | ex c => exact h
theorem Sm.map {P : Hp → α → β → Hp → Hp → Prop} {P2 : Hp → γ → β → Hp → Hp → Prop} {t : L2.St → Hp → (β → Hp → Prop) → Prop} {f : Ev → R α} (s : Sm X W P t f) {g : α → R γ} (k : ∀ H a v F' H', Same F' H' → P H a v F' H' → ∃ c, g a = .ok c ∧ P2 H c v F' H') :
    Sm X W P2 t fun env => (f env).bind g := by
  intro F H σ env fp Q sat h
  refine s F H σ env fp Q sat (Post.thru h fun a _ h' v F' H' x p => ?_)
  obtain ⟨c, hc, q⟩ := k H a v F' H' x.fh p
  rw [hc] at h'
  exact h' v F' H' x q
end

def eB {α β : Type} (f : Ev → R α) (g : α → R β) (env : Ev) : R β := (f env).bind g
def eM {α β : Type} (f : Ev → R α) (g : α → β) (env : Ev) : R β := (f env).map g

section
variable (X : Cx) (W : WX)
def DV (e : Expr) (f : Ev → R D) : Prop := ∃ t, PE X e t ∧ Sm X W (PVw X.KK) t f
def DF (e : Expr) (f : Ev → R D) : Prop := ∃ t, PE X e t ∧ Sm X W (PFz X.KK) t f
def DE (e : Expr) (f : Ev → R Ow) : Prop := ∃ t, PE X e t ∧ Sm X W (POw X.KK) t f
def DL (e : Expr) (f : Ev → R D) : Prop := ∃ t, PE X e t ∧ Sm X W (PSq X.KK) t f
def DT (e : Expr) (f : Ev → R Bool) : Prop := ∃ t, PT X e t ∧ Sm X W PTb t f
def DW (e : Expr) (f : Ev → R Bool) : Prop := ∃ t, PW X e t ∧ Sm X W PTb t f
def DA (es : List Expr) (f : Ev → R (List D)) : Prop := ∃ t, PA X es t ∧ Sm X W (PAf X.KK) t f
end
def unD : Ow → Option D
  | .d x => some x
  | .l _ => none
  | _ => none
def unDs : List Ow → Option (List D)
  | [] => some []
  | o :: os => (unD o).bind fun x => (unDs os).map fun xs => x :: xs
@[simp] theorem unDs_map : ∀ ds : List D, unDs (ds.map Ow.d) = some ds
  | [] => rfl
  | d :: ds => by simp [unDs, unD, unDs_map ds]
theorem unDs_eq : ∀ {os : List Ow} {ds : List D}, unDs os = some ds → os = ds.map Ow.d
  | [], ds, h => by simp [unDs] at h; subst h; rfl
  | .d x :: os, ds, h => by
    simp only [unDs, unD, Option.bind_some, Option.map_eq_some_iff] at h
    obtain ⟨xs, h1, h2⟩ := h
    subst h2
    rw [unDs_eq h1]; rfl
  | .l _ :: os, ds, h => by simp [unDs, unD] at h
  | .m _ :: os, ds, h => by simp [unDs, unD] at h
  | .t _ :: os, ds, h => by simp [unDs, unD] at h
  | .k _ _ :: os, ds, h => by simp [unDs, unD] at h
  | .n _ _ :: os, ds, h => by simp [unDs, unD] at h
  | .o _ _ _ :: os, ds, h => by simp [unDs, unD] at h
def shD : Ow → R D
  | .d x => .ok x
  | .l os => match unDs os with
    | some ds => .ok (.list ds)
    | none => .no
  | _ => .no
@[simp] theorem shD_d (x : D) : shD (.d x) = .ok x := rfl
@[simp] theorem shD_l (ds : List D) : shD (.l (ds.map Ow.d)) = .ok (.list ds) := by simp [shD]
@[simp] theorem shD_nil : shD (.l []) = .ok (.list []) := rfl
theorem OwnAll.dp {F H : Hp} : ∀ {ds : List D} {vs : List V} {fp : List Addr}, OwnAll K F H vs (ds.map Ow.d) fp → DpAll K F vs ds ∧ fp = []
  | [], _, _, h => by cases h; exact ⟨.nil, rfl⟩
  | d :: ds, _, _, h => by
    cases h with
    | cons h1 h2 =>
      cases h1 with
      | d q =>
        obtain ⟨a, b⟩ := OwnAll.dp (ds := ds) h2
        exact ⟨.cons q a, by rw [b]; rfl⟩
theorem OwnAll.of_dp {F H : Hp} : ∀ {ds : List D} {vs : List V}, DpAll K F vs ds → OwnAll K F H vs (ds.map Ow.d) []
  | [], _, h => by cases h; exact .nil
  | d :: ds, _, h => by
    cases h with
    | cons h1 h2 => exact .cons (fp := []) (.d h1) (OwnAll.of_dp h2)
theorem PSq.of {F H : Hp} {v : V} {d : D} {H0 : Hp} (s : Same F H) (h : Dp K F v d) : PSq K H0 d v F H := by
  cases d with
  | list ds =>
    cases h with
    | lst hs ha => exact ⟨_, _, rfl, s.seq hs, ha⟩
  | _ => exact h
theorem PSq.view {F H : Hp} {v : V} {d : D} {H0 : Hp} (s : Same F H) (h : PSq K H0 d v F H) : Dp K H v d := by
  cases d with
  | list ds =>
    obtain ⟨a, vs, rfl, h1, h2⟩ := h
    exact .lst h1 (dpaUp h2 s)
  | _ => exact dpUp (show Dp K F v _ from h) s
theorem PSq.ext {F H F1 H1 : Hp} {v : V} {d : D} {H0 H2 : Hp} (e : Ext F H F1 H1) (h : PSq K H0 d v F H) : PSq K H2 d v F1 H1 := by
  cases d with
  | list ds =>
    obtain ⟨a, vs, rfl, h1, h2⟩ := h
    exact ⟨_, _, rfl, e.hh.seq h1, dpaUp h2 e.ff⟩
  | _ => exact dpUp (show Dp K F v _ from h) e.ff
theorem own_seq {F H : Hp} {v : V} {o : Ow} {fp : List Addr} {d : D} {H0 : Hp} (s : Same F H) (h : OwnAt K F H v o fp) (e : shD o = .ok d) : PSq K H0 d v F H := by
  cases o with
  | d x =>
    cases h with
    | d p =>
      cases e
      exact .of s p
  | l os =>
    cases h with
    | l h1 h2 h3 =>
      have e' : (match unDs os with | some ds => (R.ok (.list ds) : R D) | none => .no) = .ok d := e
      clear e
      cases u : unDs os with
      | none => rw [u] at e'; cases e'
      | some ds =>
        rw [u] at e'
        cases e'
        rw [unDs_eq u] at h3
        exact ⟨_, _, rfl, SqL.of h2, (OwnAll.dp h3).1⟩
  | _ => cases e
theorem shD_ex (o : Ow) (c : Str) : shD o ≠ .ex c := fun e => by
  cases o with
  | d x => cases e
  | l os =>
    have e' : (match unDs os with | some ds => (R.ok (.list ds) : R D) | none => .no) = .ex c := e
    split at e' <;> cases e'
  | _ => cases e
theorem shD_ok {X : Cx} {W : WX} {β : Type} {P : Hp → D → β → Hp → Hp → Prop} {F H : Hp} {σ : L2.St} {o : Ow} {Q : β → Hp → Prop} (h : Post X W P F H σ (shD o) Q) : ∃ r, shD o = .ok r := by
  cases e2 : shD o with
  | no => rw [e2] at h; exact h.elim
  | ex c => exact absurd e2 (shD_ex o c)
  | ok r => exact ⟨r, rfl⟩
section
variable {X : Cx} {W : WX} {e a b : Expr} {es : List Expr} {pos : Pos}
theorem dv_df {f : Ev → R D} (h : DF X W e f) : DV X W e f := by
  obtain ⟨t, p, s⟩ := h
  refine ⟨t, p, fun F H σ env fp Q sat h => s F H σ env fp Q sat ?_⟩
  cases e : f env with
  | no => rw [e] at h; exact h
  | ex c => rw [e] at h; exact h
  | ok d => rw [e] at h; exact fun v F' H' x q => h v F' H' x (dpUp q x.fh)
theorem dv_de {f : Ev → R Ow} (h : DE X W e f) : DV X W e (eM f viewD) := by
  obtain ⟨t, p, s⟩ := h
  refine ⟨t, p, Sm.map s fun H o v F' H' sm ⟨fp, q, _⟩ => ⟨viewD o, rfl, OwnAt.view sm o v fp q⟩⟩
theorem de_df {f : Ev → R D} (h : DF X W e f) : DE X W e (eM f Ow.d) := by
  obtain ⟨t, p, s⟩ := h
  refine ⟨t, p, Sm.map s fun H d v F' H' sm q => ⟨.d d, rfl, [], .d q, List.nodup_nil, fun b z => nomatch z⟩⟩
theorem df_de {f : Ev → R Ow} (h : DE X W e f) : DF X W e (eM f viewD) := by
  obtain ⟨t, p, s⟩ := h
  refine ⟨t, p, fun F H σ env fp Q sat h => s F H σ env fp Q sat (Post.thru h fun d _ h' v F' H' x ⟨fp, q, _, n⟩ => ?_)⟩
  obtain ⟨F2, x2, q2⟩ := x.freeze q n
  exact h' v F2 H' x2 q2
theorem dl_df {f : Ev → R D} (h : DF X W e f) : DL X W e f := by
  obtain ⟨t, p, s⟩ := h
  refine ⟨t, p, fun F H σ env fp Q sat h => s F H σ env fp Q sat ?_⟩
  cases e : f env with
  | no => rw [e] at h; exact h
  | ex c => rw [e] at h; exact h
  | ok d => rw [e] at h; exact fun v F' H' x q => h v F' H' x (.of x.fh q)
theorem dl_de {f : Ev → R Ow} (h : DE X W e f) : DL X W e (eB f shD) := by
  obtain ⟨t, p, s⟩ := h
  refine ⟨t, p, fun F H σ env fp Q sat h => s F H σ env fp Q sat (Post.thru h fun d _ h' v F' H' x ⟨fp, q, _, n⟩ => ?_)⟩
  obtain ⟨r, e2⟩ := shD_ok h'
  rw [e2] at h'
  exact h' v F' H' x (own_seq x.fh q e2)
def eVar (i : Nat) (env : Ev) : R D := match env[i]? with
  | some (some (.d x)) => .ok x
  | _ => .no
def eVarO (i : Nat) (env : Ev) : R Ow := match env[i]? with
  | some (some o) => .ok o
  | _ => .no
theorem eVar_ok {P : Hp → D → V → Hp → Hp → Prop} {F H : Hp} {σ : L2.St} {i : Nat} {env : Ev} {Q : VK} (h : Post X W P F H σ (eVar i env) Q) : ∃ d, env[i]? = some (some (.d d)) ∧ eVar i env = .ok d := by
  unfold eVar at h ⊢
  split at h
  · rename_i d he
    exact ⟨d, he, rfl⟩
  · exact h.elim
theorem eVarO_ok {γ : Type} {P : Hp → γ → V → Hp → Hp → Prop} {F H : Hp} {σ : L2.St} {i : Nat} {env : Ev} {Q : VK} {g : Ow → R γ} (h : Post X W P F H σ ((eVarO i env).bind g) Q) : ∃ d, env[i]? = some (some d) ∧ eVarO i env = .ok d ∧ Post X W P F H σ (g d) Q := by
  unfold eVarO at h ⊢
  cases e : env[i]? with
  | none => rw [e] at h; exact h.elim
  | some o =>
    cases o with
    | none => rw [e] at h; exact h.elim
    | some o => rw [e] at h; exact ⟨o, rfl, rfl, h⟩
theorem df_var (i : Nat) {x : Str} (hN : X.N[i]? = some x := by rfl) (hv : Vis X.env.scope x := by first | exact Or.inl rfl | exact Or.inr (Or.inl rfl) | exact Or.inr (Or.inr rfl)) (hd : (x == ("__debug__" : Str)) = false := by decide)
    (hcd : (x == ("__classdict__" : Str)) = false := by decide) : DF X W (.Name x pos) (eVar i) := by
  refine ⟨_, pe_var hN hv hd hcd, fun F H σ env fp Q sat h => ?_⟩
  obtain ⟨d, he, e2⟩ := eVar_ok h
  rw [e2] at h
  obtain ⟨v, fo, h1, h2, _⟩ := sat.en.get he
  cases h2 with
  | d q => exact ⟨v, h1, h v F H (.refl sat.fh) q⟩
def eC (d : D) (_ : Ev) : R D := .ok d
theorem df_int {i j} : DF X W (.Constant (.int i) j pos) (eC (.int i)) := ⟨_, pe_int, fun F H σ env fp Q sat h => h _ F H (.refl sat.fh) (.int i)⟩
theorem df_bl {i j} : DF X W (.Constant (.bool i) j pos) (eC (.bool i)) := ⟨_, pe_bl, fun F H σ env fp Q sat h => h _ F H (.refl sat.fh) (.bl i)⟩
theorem df_non {j} : DF X W (.Constant .none j pos) (eC .none) := ⟨_, pe_non, fun F H σ env fp Q sat h => h _ F H (.refl sat.fh) .non⟩
theorem df_str {i j} : DF X W (.Constant (.str i) j pos) (eC (.str i)) := ⟨_, pe_str, fun F H σ env fp Q sat h => h _ F H (.refl sat.fh) (.str i)⟩
/-- a text constant of the module's top -/
theorem df_gstr {x : Str} {z : Str} {u : Value} (hg : Gl X x) (hm : X.mg x = some u) (r : RelV (.str z) u) (hd : (x == ("__debug__" : Str)) = false := by decide) : DF X W (.Name x pos) (eC (.str z)) :=
  ⟨_, pe_glob hg hm r hd, fun F H σ env fp Q sat h => h _ F H (.refl sat.fh) (.str z)⟩
def aNil (_ : Ev) : R (List D) := .ok []
def aCons (f : Ev → R D) (g : Ev → R (List D)) (env : Ev) : R (List D) := (f env).bind fun d => (g env).map fun ds => d :: ds
theorem da_nil : DA X W [] aNil := ⟨_, pa_nil, fun F H σ env fp Q sat h => h _ F H (.refl sat.fh) .nil⟩
theorem da_cons {f : Ev → R D} {g : Ev → R (List D)} (hf : DF X W e f) (hg : DA X W es g) (hs : starEach (e :: es) X.env = (false, eval e X.env) :: starEach es X.env := by rfl) : DA X W (e :: es) (aCons f g) := by
  obtain ⟨t, p, s⟩ := hf
  obtain ⟨t', p', s'⟩ := hg
  refine ⟨_, pa_cons p p' hs, fun F H σ env fp Q sat h => ?_⟩
  refine s.go sat h fun d v F1 H1 sat1 q _ h1 => ?_
  refine s'.go sat1 h1 fun ds vs F2 H2 sat2 q' x2 h2 => ?_
  exact h2 _ F2 H2 (.refl sat2.fh) (.cons (dpUp q x2.ff) q')
def eTup (f : Ev → R (List D)) (env : Ev) : R D := (f env).bind fun ds => guard (ds.length ≤ sizeLine) (.ok (.tuple ds))
def eLst (f : Ev → R (List D)) (env : Ev) : R Ow := (f env).bind fun ds => guard (ds.length ≤ sizeLine) (.ok (.l (ds.map Ow.d)))
theorem guard_post {P : Hp → α → β → Hp → Hp → Prop} {F H : Hp} {σ : L2.St} {c : Prop} {r : R α} {Q : β → Hp → Prop} (h : Post X W P F H σ (guard c r) Q) : c ∧ Post X W P F H σ r Q := by
  unfold guard at h
  split at h
  · exact ⟨‹_›, h⟩
  · exact h.elim
theorem df_tup {x1} {f : Ev → R (List D)} (hf : DA X W es f) : DF X W (.Tuple es x1 pos) (eTup f) := by
  obtain ⟨t, p, s⟩ := hf
  refine ⟨_, pe_tup p, fun F H σ env fp Q sat h => ?_⟩
  refine s.go sat h fun ds vs F1 H1 sat1 q _ h1 => ?_
  obtain ⟨hl, h2⟩ := guard_post h1
  refine ⟨by rw [DpAll.len q]; exact hl, fun p hp => ?_⟩
  have x := Ext.frz sat1.fh hp (.tup vs)
  exact h2 _ _ _ x (.tup (SqT.of upd_same) (dpaUp q x.ff))
theorem de_lst {f : Ev → R (List D)} (hf : DA X W es f) : DE X W (.List es pos) (eLst f) := by
  obtain ⟨t, p, s⟩ := hf
  refine ⟨_, pe_lst p, fun F H σ env fp Q sat h => ?_⟩
  refine s.go sat h fun ds vs F1 H1 sat1 q _ h1 => ?_
  obtain ⟨hl, h2⟩ := guard_post h1
  refine ⟨by rw [DpAll.len q]; exact hl, fun p hp => ?_⟩
  have x := Ext.own sat1.fh hp (.lst vs)
  exact h2 _ _ _ x ⟨[p], .l (free_of sat1.fh hp) upd_same (OwnAll.of_dp q), by simp, by simpa using hp⟩

def R.of {α : Type} : Option α → R α
  | some a => .ok a
  | none => .no
@[simp] theorem R.of_some (a : α) : R.of (some a) = .ok a := rfl
@[simp] theorem R.of_none : R.of (none : Option α) = .no := rfl
/-- data in, flat data out, the heap as it was -/
def OpS (K : Kw) (r : R2) (g : D → D → Option D) : Prop := ∀ H x y dx dy d Q, Dp K H x dx → Dp K H y dy → g dx dy = some d → (∀ v, (∀ F, Dp K F v d) → Q v H) → r x y H Q
def eBin (g : D → D → Option D) (f h : Ev → R D) (env : Ev) : R D := (f env).bind fun x => (h env).bind fun y => R.of (g x y)
theorem post_of {P : Hp → α → β → Hp → Hp → Prop} {F H : Hp} {σ : L2.St} {o : Option α} {Q : β → Hp → Prop} (h : Post X W P F H σ (R.of o) Q) : ∃ a, o = some a ∧ ∀ v F' H', Ext F H F' H' → P H a v F' H' → Q v H' := by
  cases o with
  | none => exact h.elim
  | some a => exact ⟨a, rfl, h⟩
theorem op_sm {r : R2} {g : D → D → Option D} (hs : OpS X.KK r g) {ta tb : TE} {f h : Ev → R D} (sa : Sm X W (PVw X.KK) ta f) (sb : Sm X W (PVw X.KK) tb h) : Sm X W (PFz X.KK) (tOp r ta tb) (eBin g f h) := by
  intro F H σ env fp Q sat hp
  refine sa.go sat hp fun d v F1 H1 sat1 q _ h1 => ?_
  refine sb.go sat1 h1 fun d' v' F2 H2 sat2 q' x2 h2 => ?_
  obtain ⟨z, hz, h3⟩ := post_of h2
  exact hs H2 v v' d d' z Q (dpUp q x2.hh) q' hz fun u hu => h3 u F2 H2 (.refl sat2.fh) (hu _)
theorem df_bin {op : Operator} {r : R2} {g : D → D → Option D} (ho : OpR X (binaryOp op) r) (hs : OpS X.KK r g) {f h : Ev → R D} (ha : DV X W a f) (hb : DV X W b h) : DF X W (.BinOp a op b pos) (eBin g f h) := by
  obtain ⟨ta, pa, sa⟩ := ha
  obtain ⟨tb, pb, sb⟩ := hb
  exact ⟨_, pe_op ho pa pb, op_sm hs sa sb⟩
theorem df_cmp {op : CmpOp} {r : R2} {g : D → D → Option D} (ho : OpR X (compareOp op) r) (hs : OpS X.KK r g) {f h : Ev → R D} (ha : DV X W a f) (hb : DV X W b h) (hm : behindInMarks op b = false := by first | exact nomark _ | rfl) :
    DF X W (.Compare a [op] [b] pos) (eBin g f h) := by
  obtain ⟨ta, pa, sa⟩ := ha
  obtain ⟨tb, pb, sb⟩ := hb
  exact ⟨_, pe_cmpR ho pa pb hm, op_sm hs sa sb⟩
def asB : D → R Bool
  | .bool b => .ok b
  | _ => .no
@[simp] theorem asB_bool (b : Bool) : asB (.bool b) = .ok b := rfl
theorem tb_sm {t : TE} {f : Ev → R D} (s : Sm X W (PVw X.KK) t f) : Sm X W PTb (fun σ H Q => t σ H fun x H' => ∃ k, x = .bl k ∧ Q k H') (eB f asB) := by
  intro F H σ env fp Q sat hp
  refine s.go sat hp fun d v F1 H1 sat1 q _ h1 => ?_
  cases d with
  | bool b =>
    cases q
    exact ⟨b, rfl, h1 b F1 H1 (.refl sat1.fh) rfl⟩
  | _ => exact h1.elim
theorem dt_cmp {op : CmpOp} {r : R2} {g : D → D → Option D} (ho : OpR X (compareOp op) r) (hs : OpS X.KK r g) {f h : Ev → R D} (ha : DV X W a f) (hb : DV X W b h) (hm : behindInMarks op b = false := by first | exact nomark _ | rfl) :
    DT X W (.Compare a [op] [b] pos) (eB (eBin g f h) asB) := by
  obtain ⟨ta, pa, sa⟩ := ha
  obtain ⟨tb, pb, sb⟩ := hb
  refine ⟨_, pt_cmpR ho pa pb hm, tb_sm ?_⟩
  intro F H σ env fp Q sat hp
  refine op_sm hs sa sb F H σ env fp Q sat ?_
  cases e : eBin g f h env with
  | no => rw [e] at hp; exact hp
  | ex c => rw [e] at hp; exact hp
  | ok d => rw [e] at hp; exact fun v F' H' x q => hp v F' H' x (dpUp q x.fh)
theorem dt_val {f : Ev → R D} (h : DV X W e f) (he : ∀ whole, isTrue e X.env whole = (do let v ← whole; standAt e.pos; holding [v] (truthy v)) := by intro _; rfl) : DT X W e (eB f asB) := by
  obtain ⟨t, p, s⟩ := h
  exact ⟨_, pt_val p he, tb_sm s⟩
def tNotE (f : Ev → R Bool) (env : Ev) : R Bool := (f env).map (!·)
theorem dt_not {f : Ev → R Bool} (h : DT X W a f) : DT X W (.UnaryOp .Not a pos) (tNotE f) := by
  obtain ⟨t, p, s⟩ := h
  refine ⟨_, pt_not p, fun F H σ env fp Q sat hp => ?_⟩
  refine s.go sat hp fun b v F1 H1 sat1 q _ h1 => ?_
  obtain rfl : v = b := q
  exact h1 _ F1 H1 (.refl sat1.fh) rfl
def tAndE (f g : Ev → R Bool) (env : Ev) : R Bool := (f env).bind fun b => if b = true then g env else .ok false
def tOrE (f g : Ev → R Bool) (env : Ev) : R Bool := (f env).bind fun b => if b = true then .ok true else g env
theorem dw_and1 {f : Ev → R Bool} (h : DT X W a f) : DW X W (.BoolOp .And [a] pos) f := by
  obtain ⟨t, p, s⟩ := h
  exact ⟨_, pw_and1 p, s⟩
theorem dw_or1 {f : Ev → R Bool} (h : DT X W a f) : DW X W (.BoolOp .Or [a] pos) f := by
  obtain ⟨t, p, s⟩ := h
  exact ⟨_, pw_or1 p, s⟩
theorem dw_and {rest : List Expr} {f g : Ev → R Bool} (h : DT X W a f) (h2 : DW X W (.BoolOp .And (b :: rest) pos) g) : DW X W (.BoolOp .And (a :: b :: rest) pos) (tAndE f g) := by
  obtain ⟨t, p, s⟩ := h
  obtain ⟨t', p', s'⟩ := h2
  refine ⟨_, pw_and p p', fun F H σ env fp Q sat hp => ?_⟩
  refine s.go sat hp fun b v F1 H1 sat1 q _ h1 => ?_
  obtain rfl : v = b := q
  cases v with
  | true => exact s' F1 H1 σ env fp Q sat1 h1
  | false => exact h1 false F1 H1 (.refl sat1.fh) rfl
theorem dw_or {rest : List Expr} {f g : Ev → R Bool} (h : DT X W a f) (h2 : DW X W (.BoolOp .Or (b :: rest) pos) g) : DW X W (.BoolOp .Or (a :: b :: rest) pos) (tOrE f g) := by
  obtain ⟨t, p, s⟩ := h
  obtain ⟨t', p', s'⟩ := h2
  refine ⟨_, pw_or p p', fun F H σ env fp Q sat hp => ?_⟩
  refine s.go sat hp fun b v F1 H1 sat1 q _ h1 => ?_
  obtain rfl : v = b := q
  cases v with
  | false => exact s' F1 H1 σ env fp Q sat1 h1
  | true => exact h1 true F1 H1 (.refl sat1.fh) rfl
theorem dt_dw {f : Ev → R Bool} (h : DW X W a f) : DT X W a f := by
  obtain ⟨t, p, s⟩ := h
  exact ⟨_, p.pt, s⟩
def eAnd (f g : Ev → R D) (env : Ev) : R D := ((f env).bind asB).bind fun b => if b = true then g env else .ok (.bool false)
def eOr (f g : Ev → R D) (env : Ev) : R D := ((f env).bind asB).bind fun b => if b = true then .ok (.bool true) else g env
def eNot (f : Ev → R D) (env : Ev) : R D := ((f env).bind asB).bind fun b => .ok (.bool !b)
theorem R.bind_assoc {α β γ : Type} (r : R α) (f : α → R β) (g : β → R γ) : (r.bind f).bind g = r.bind fun a => (f a).bind g := by cases r <;> rfl
theorem df_one {op} {f : Ev → R D} (h : DF X W a f) : DF X W (.BoolOp op [a] pos) f := by
  obtain ⟨t, p, s⟩ := h
  exact ⟨_, pe_one p, s⟩
theorem df_and {rest : List Expr} {f g : Ev → R D} (h : DV X W a f) (h2 : DF X W (.BoolOp .And (b :: rest) pos) g) : DF X W (.BoolOp .And (a :: b :: rest) pos) (eAnd f g) := by
  obtain ⟨t, p, s⟩ := h
  obtain ⟨t', p', s'⟩ := h2
  refine ⟨_, pe_and p p', fun F H σ env fp Q sat hp => ?_⟩
  unfold eAnd at hp
  rw [R.bind_assoc] at hp
  refine s.go sat hp fun d v F1 H1 sat1 q _ h1 => ?_
  cases d with
  | bool b =>
    cases q
    refine ⟨b, rfl, ?_⟩
    cases b with
    | true => exact s' F1 H1 σ env fp Q sat1 h1
    | false => exact h1 _ F1 H1 (.refl sat1.fh) (.bl false)
  | _ => exact h1.elim
def eIf (c : Ev → R Bool) (f g : Ev → R D) (env : Ev) : R D := (c env).bind fun b => if b = true then f env else g env
end
end Mir
end
set_option Elab.async false
set_option linter.all false
set_option maxRecDepth 100000
set_option maxHeartbeats 4000000
noncomputable section
namespace Mir
open PySem PySem.Spec L2

section
variable {K : Kw}
theorem dp_int {H : Hp} {v : V} {i : Int} (h : Dp K H v (.int i)) : v = .int i := by cases h; rfl
theorem dp_str {H : Hp} {v : V} {z : Str} (h : Dp K H v (.str z)) : v = .str z := by cases h; rfl
theorem dp_bool {H : Hp} {v : V} {z : Bool} (h : Dp K H v (.bool z)) : v = .bl z := by cases h; rfl
theorem dp_none {H : Hp} {v : V} (h : Dp K H v .none) : v = .non := by cases h; rfl
theorem dp_tup {H : Hp} {v : V} {ds : List D} (h : Dp K H v (.tuple ds)) : ∃ a vs, v = .ref a ∧ SqT K H a vs ∧ DpAll K H vs ds := by cases h with | tup a b => exact ⟨_, _, rfl, a, b⟩
theorem dp_lst {H : Hp} {v : V} {ds : List D} (h : Dp K H v (.list ds)) : ∃ a vs, v = .ref a ∧ SqL K H a vs ∧ DpAll K H vs ds := by cases h with | lst a b => exact ⟨_, _, rfl, a, b⟩

open Classical in
def gI (C : Int → Int → Prop) (f : Int → Int → Int) : D → D → Option D
  | .int i, .int j => if C i j then some (.int (f i j)) else none
  | _, _ => none
def gI0 (f : Int → Int → Int) : D → D → Option D
  | .int i, .int j => some (.int (f i j))
  | _, _ => none
def gIB (f : Int → Int → Bool) : D → D → Option D
  | .int i, .int j => some (.bool (f i j))
  | _, _ => none
theorem opS_I {C : Int → Int → Prop} {f : Int → Int → Int} : OpS K (rI C fun i j => .int (f i j)) (gI C f) := by
  intro H x y dx dy d Q hx hy e q
  unfold gI at e
  split at e
  · rename_i i j
    split at e
    · rename_i c
      cases e
      cases dp_int hx
      cases dp_int hy
      exact ⟨i, j, rfl, rfl, c, q _ fun _ => .int _⟩
    · cases e
  · cases e
theorem opS_I0 {f : Int → Int → Int} : OpS K (rI0 fun i j => .int (f i j)) (gI0 f) := by
  intro H x y dx dy d Q hx hy e q
  unfold gI0 at e
  split at e
  · cases e
    cases dp_int hx
    cases dp_int hy
    exact ⟨_, _, rfl, rfl, q _ fun _ => .int _⟩
  · cases e
theorem opS_IB {f : Int → Int → Bool} : OpS K (rI0 fun i j => .bl (f i j)) (gIB f) := by
  intro H x y dx dy d Q hx hy e q
  unfold gIB at e
  split at e
  · cases e
    cases dp_int hx
    cases dp_int hy
    exact ⟨_, _, rfl, rfl, q _ fun _ => .bl _⟩
  · cases e
def gSub := gI0 fun i j => i - j
def gMul := gI (fun i j => CMul i j ∨ CMulW i j) fun i j => i * j
def gDiv := gI CDivW fun i j => i / j
def gMod := gI (fun _ j => 0 < j) fun i j => i % j
def gPow := gI CPow fun i j => i ^ j.toNat
def gLt := gIB fun i j => decide (i < j)
def gLe := gIB fun i j => decide (i ≤ j)
def gGt := gIB fun i j => decide (j < i)
def gGe := gIB fun i j => decide (j ≤ i)
@[simp] theorem gSub_int (i j : Int) : gSub (.int i) (.int j) = some (.int (i - j)) := rfl
theorem gMul_int {i j : Int} (h : CMulW i j) : gMul (.int i) (.int j) = some (.int (i * j)) := if_pos (.inr h)
theorem gDiv_int {i j : Int} (h : CDivW i j) : gDiv (.int i) (.int j) = some (.int (i / j)) := if_pos h
theorem gMod_int {i j : Int} (h : 0 < j) : gMod (.int i) (.int j) = some (.int (i % j)) := if_pos h
theorem gPow_int {i j : Int} (h : CPow i j) : gPow (.int i) (.int j) = some (.int (i ^ j.toNat)) := if_pos h
@[simp] theorem gLt_int (i j : Int) : gLt (.int i) (.int j) = some (.bool (decide (i < j))) := rfl
@[simp] theorem gLe_int (i j : Int) : gLe (.int i) (.int j) = some (.bool (decide (i ≤ j))) := rfl
@[simp] theorem gGt_int (i j : Int) : gGt (.int i) (.int j) = some (.bool (decide (j < i))) := rfl
@[simp] theorem gGe_int (i j : Int) : gGe (.int i) (.int j) = some (.bool (decide (j ≤ i))) := rfl
end

section
variable {X : Cx} {W : WX} {e a b : Expr} {es : List Expr} {pos : Pos} {f g : Ev → R D}
theorem df_sub (ha : DV X W a f) (hb : DV X W b g) : DF X W (.BinOp a .Sub b pos) (eBin gSub f g) := df_bin op_sub opS_I0 ha hb
theorem op_mulV : OpR X (binaryOp .Mult) (rI (fun i j => CMul i j ∨ CMulW i j) fun i j => .int (i * j)) := by
  intro pins s σ H x y v u Q I rx ry h
  obtain ⟨i, j, e1, e2, c, q⟩ := h
  rcases c with c | c
  · exact op_mul pins s σ H x y v u Q I rx ry ⟨i, j, e1, e2, c, q⟩
  · exact op_mulW pins s σ H x y v u Q I rx ry ⟨i, j, e1, e2, c, q⟩
theorem df_mul (ha : DV X W a f) (hb : DV X W b g) : DF X W (.BinOp a .Mult b pos) (eBin gMul f g) := df_bin op_mulV opS_I ha hb
theorem df_div (ha : DV X W a f) (hb : DV X W b g) : DF X W (.BinOp a .FloorDiv b pos) (eBin gDiv f g) := df_bin op_fdivW opS_I ha hb
theorem df_mod (ha : DV X W a f) (hb : DV X W b g) : DF X W (.BinOp a .Mod b pos) (eBin gMod f g) := df_bin op_mod opS_I ha hb
theorem df_pow (ha : DV X W a f) (hb : DV X W b g) : DF X W (.BinOp a .Pow b pos) (eBin gPow f g) := df_bin op_pow opS_I ha hb
theorem df_gt (ha : DV X W a f) (hb : DV X W b g) : DF X W (.Compare a [.Gt] [b] pos) (eBin gGt f g) := df_cmp op_gt opS_IB ha hb
theorem dt_lt (ha : DV X W a f) (hb : DV X W b g) : DT X W (.Compare a [.Lt] [b] pos) (eB (eBin gLt f g) asB) := dt_cmp op_lt opS_IB ha hb
theorem dt_gt (ha : DV X W a f) (hb : DV X W b g) : DT X W (.Compare a [.Gt] [b] pos) (eB (eBin gGt f g) asB) := dt_cmp op_gt opS_IB ha hb
theorem dt_ge (ha : DV X W a f) (hb : DV X W b g) : DT X W (.Compare a [.GtE] [b] pos) (eB (eBin gGe f g) asB) := dt_cmp op_ge opS_IB ha hb
def gNeg : D → R D
  | .int i => .ok (.int (-i))
  | _ => .no
theorem df_neg (ha : DV X W a f) : DF X W (.UnaryOp .USub a pos) (eB f gNeg) := by
  obtain ⟨t, p, s⟩ := ha
  refine ⟨_, pe_un un_neg p, fun F H σ env fp Q sat hp => ?_⟩
  refine s.go sat hp fun d v F1 H1 sat1 q _ h1 => ?_
  cases d with
  | int i => cases dp_int q; exact ⟨i, rfl, h1 _ F1 H1 (.refl sat1.fh) (.int _)⟩
  | _ => exact h1.elim

def scalD : D → Bool
  | .none => true
  | .bool _ => true
  | .int _ => true
  | .str _ => true
  | _ => false
/-- a bool beside an int is left to the deep rule -/
def scal2 : D → D → Bool
  | .bool _, .int _ => false
  | .int _, .bool _ => false
  | a, b => scalD a && scalD b
def eqOk (a b : D) : Bool := a.canLay0 && b.canLay0 && decide (a.depth ≤ 130)
def gEq (a b : D) : Option D := if (scal2 a b || eqOk a b) = true then some (.bool (PyData.eqv a b)) else none
def gNe (a b : D) : Option D := if (scal2 a b || eqOk a b) = true then some (.bool (!PyData.eqv a b)) else none
def rEqA (K : Kw) (neg : Bool) : R2 := fun x y H Q => ∃ d e, Dp K H x d ∧ Dp K H y e ∧ eqOk d e = true ∧ Q (.bl (if neg then !PyData.eqv d e else PyData.eqv d e)) H
theorem eqOk_cases {a b : D} (h : eqOk a b = true) : a.canLay0 = true ∧ b.canLay0 = true ∧ a.depth ≤ 130 := by
  unfold eqOk at h
  simp only [Bool.and_eq_true, decide_eq_true_eq] at h
  exact ⟨h.1.1, h.1.2, h.2⟩
theorem op_eqA (hu : X.A.units + 140 < cLine) : OpR X (compareOp .Eq) (rEqA X.KK false) := by
  intro pins s σ H x y v u Q I rx ry h
  obtain ⟨d, e, hd, he, sd, q⟩ := h
  obtain ⟨as, r1⟩ := L2.Dp.reads I d x v (Dp.kit _ _ hd (eqOk_cases sd).1) rx
  obtain ⟨bs, r2⟩ := L2.Dp.reads I e y u (Dp.kit _ _ he (eqOk_cases sd).2.1) ry
  obtain ⟨c1, c2, c3⟩ := eqOk_cases sd
  exact SeqAt.compareEq_reads r1 r2 c1 c2 (by have := Nat.min_le_left d.depth e.depth; omega) ⟨.bl _, H, I, rfl, q⟩
theorem op_neA (hu : X.A.units + 140 < cLine) : OpR X (compareOp .NotEq) (rEqA X.KK true) := by
  intro pins s σ H x y v u Q I rx ry h
  obtain ⟨d, e, hd, he, sd, q⟩ := h
  obtain ⟨as, r1⟩ := L2.Dp.reads I d x v (Dp.kit _ _ hd (eqOk_cases sd).1) rx
  obtain ⟨bs, r2⟩ := L2.Dp.reads I e y u (Dp.kit _ _ he (eqOk_cases sd).2.1) ry
  obtain ⟨c1, c2, c3⟩ := eqOk_cases sd
  exact SeqAt.compareNe_reads r1 r2 c1 c2 (by have := Nat.min_le_left d.depth e.depth; omega) ⟨.bl _, H, I, rfl, q⟩
theorem scal_dp {K : Kw} {H : Hp} {x y : V} {a b : D} (ha : Dp K H x a) (hb : Dp K H y b) (h : scal2 a b = true) : scal x y = true ∧ decide (x = y) = PyData.eqv a b := by
  cases a <;> cases b <;> first
    | (cases h; done)
    | (cases ha; cases hb; refine ⟨rfl, ?_⟩; simp [PyData.eqv]; try rfl)
    | (cases ha; cases hb; refine ⟨rfl, ?_⟩; simp [PyData.eqv, dec_int, dec_bl, dec_str])
theorem opS_eq {K : Kw} : OpS K (fun x y H Q => rEq x y H Q ∨ rEqA K false x y H Q) gEq := by
  intro H x y dx dy d Q hx hy e q
  unfold gEq at e
  split at e
  · rename_i c
    cases e
    cases c1 : scal2 dx dy with
    | true =>
      obtain ⟨h1, h2⟩ := scal_dp hx hy c1
      exact .inl ⟨h1, by rw [h2]; exact q _ fun _ => .bl _⟩
    | false =>
      rw [c1, Bool.false_or] at c
      exact .inr ⟨dx, dy, hx, hy, c, q _ fun _ => .bl _⟩
  · cases e
theorem opS_ne {K : Kw} : OpS K (fun x y H Q => rNe x y H Q ∨ rEqA K true x y H Q) gNe := by
  intro H x y dx dy d Q hx hy e q
  unfold gNe at e
  split at e
  · rename_i c
    cases e
    cases c1 : scal2 dx dy with
    | true =>
      obtain ⟨h1, h2⟩ := scal_dp hx hy c1
      exact .inl ⟨h1, by rw [h2]; exact q _ fun _ => .bl _⟩
    | false =>
      rw [c1, Bool.false_or] at c
      exact .inr ⟨dx, dy, hx, hy, c, q _ fun _ => .bl _⟩
  · cases e
theorem df_eq (hu : X.A.units + 140 < cLine) (ha : DV X W a f) (hb : DV X W b g) : DF X W (.Compare a [.Eq] [b] pos) (eBin gEq f g) := df_cmp (OpR.or op_eq (op_eqA hu)) opS_eq ha hb
theorem dt_eq (hu : X.A.units + 140 < cLine) (ha : DV X W a f) (hb : DV X W b g) : DT X W (.Compare a [.Eq] [b] pos) (eB (eBin gEq f g) asB) := dt_cmp (OpR.or op_eq (op_eqA hu)) opS_eq ha hb
theorem dt_ne (hu : X.A.units + 140 < cLine) (ha : DV X W a f) (hb : DV X W b g) : DT X W (.Compare a [.NotEq] [b] pos) (eB (eBin gNe f g) asB) := dt_cmp (OpR.or op_ne (op_neA hu)) opS_ne ha hb
def isNone : D → Bool
  | .none => true
  | _ => false
def gIsN : D → D → Option D
  | x, .none => some (.bool (isNone x))
  | _, _ => none
def gNotN : D → D → Option D
  | x, .none => some (.bool (!isNone x))
  | _, _ => none
@[simp] theorem gIsN_none (x : D) : gIsN x .none = some (.bool (isNone x)) := by cases x <;> rfl
@[simp] theorem gNotN_none (x : D) : gNotN x .none = some (.bool (!isNone x)) := by cases x <;> rfl
theorem isNone_dp {K : Kw} {H : Hp} {x : V} {d : D} (h : Dp K H x d) : decide (x = .non) = isNone d := by
  cases h <;> first | rfl | (simp [isNone]; done)
theorem opS_isN {K : Kw} : OpS K (fun x y H Q => y = .non ∧ Q (.bl (decide (x = .non))) H) gIsN := by
  intro H x y dx dy d Q hx hy e q
  cases dy with
  | none =>
    rw [gIsN_none] at e
    cases e
    exact ⟨dp_none hy, by rw [isNone_dp hx]; exact q _ fun _ => .bl _⟩
  | _ => cases dx <;> cases e
theorem dt_isN (ha : DV X W a f) (hb : DV X W b g) : DT X W (.Compare a [.Is] [b] pos) (eB (eBin gIsN f g) asB) := dt_cmp op_isN opS_isN ha hb
def gAdd : D → D → Option Ow
  | .int i, .int j => some (.d (.int (i + j)))
  | .str x, .str y => if x.length + y.length ≤ sizeLine then some (.d (.str (x ++ y))) else none
  | .tuple xs, .tuple ys => if xs.length + ys.length ≤ sizeLine then some (.d (.tuple (xs ++ ys))) else none
  | .list xs, .list ys => if xs.length + ys.length ≤ sizeLine then some (.l ((xs ++ ys).map Ow.d)) else none
  | _, _ => none
@[simp] theorem gAdd_int (i j : Int) : gAdd (.int i) (.int j) = some (.d (.int (i + j))) := rfl
theorem gAdd_str {x y : Str} (h : x.length + y.length ≤ sizeLine) : gAdd (.str x) (.str y) = some (.d (.str (x ++ y))) := if_pos h
theorem gAdd_lst {xs ys : List D} (h : xs.length + ys.length ≤ sizeLine) : gAdd (.list xs) (.list ys) = some (.l ((xs ++ ys).map Ow.d)) := if_pos h
def rCatL (K : Kw) : R2 := fun x y H Q => ∃ a b xs ys, x = .ref a ∧ y = .ref b ∧ SqL K H a xs ∧ SqL K H b ys ∧ xs.length + ys.length ≤ sizeLine ∧ ∀ p, H p = none → Q (.ref p) (upd H p (.lst (xs ++ ys)))
theorem op_catL : OpR X (binaryOp .Add) (rCatL X.KK) := by
  intro pins s σ H x y v u Q I rx ry h
  obtain ⟨l, b, xs, zs, rfl, rfl, hH, hB, hz, q⟩ := h
  cases rx
  cases ry
  obtain ⟨its, r, pl, hl⟩ := I.list hH
  obtain ⟨its2, r2, pl2, hl2⟩ := I.list hB
  obtain ⟨⟨c1, d1, t1, s1⟩, g1, k1, n1, m1⟩ := pl.isList
  obtain ⟨⟨c2, d2, t2, s2⟩, g2, k2, n2, m2⟩ := pl2.isList
  simp only at k1 m1 k2 m2
  subst k1 m1 k2 m2
  refine PySem.concat_meets ⟨_, g1, rfl⟩ ⟨_, g2, rfl⟩ PySem.noFill_list_add PySem.seq_list_add PySem.F.slot_list_add PySem.F.entry_list_add (PySem.F.args_list_add_2 _ _)
    (PyProof.Rows.list_addW l b its.toArray its2.toArray n1 n2 d1 d2 s1 s2 (by rw [List.size_toArray, List.size_toArray, ← r.length, ← r2.length]; exact hz)) ⟨g1, g2, ?_⟩
  have ea : its.toArray ++ its2.toArray = (its ++ its2).toArray := by simp
  rw [ea]
  exact ⟨.ref _, _, I.lnew (t' := s.toks) (r.append r2) (by rw [List.length_append]; omega), rfl, q _ I.fresh⟩
abbrev rAddAll (K : Kw) : R2 := fun x y H Q => rI0 (fun i j => .int (i + j)) x y H Q ∨ (fun x y H Q => (∃ i j, x = V.str i ∧ y = V.str j ∧ i.length + j.length ≤ sizeLine ∧ Q (.str (i ++ j)) H) ∨ (fun x y H Q => rCatA K x y H Q ∨ rCatL K x y H Q) x y H Q) x y H Q
theorem op_addAll : OpR X (binaryOp .Add) (rAddAll X.KK) := OpR.or op_add (OpR.or op_add_str (OpR.or op_catA op_catL))
def eBinO (g : D → D → Option Ow) (f h : Ev → R D) (env : Ev) : R Ow := (f env).bind fun x => (h env).bind fun y => R.of (g x y)
/-- two operands with frozen items, a new value -/
def OpG (K : Kw) (r : R2) (g : D → D → Option Ow) : Prop := ∀ F H x y dx dy o Q, Same F H → PSq K H dx x F H → PSq K H dy y F H → g dx dy = some o → (∀ v F' H', Ext F H F' H' → POw K H o v F' H' → Q v H') → r x y H Q
theorem opG_sm {r : R2} {g : D → D → Option Ow} (hs : OpG X.KK r g) {ta tb : TE} {f h : Ev → R D} (sa : Sm X W (PSq X.KK) ta f) (sb : Sm X W (PSq X.KK) tb h) : Sm X W (POw X.KK) (tOp r ta tb) (eBinO g f h) := by
  intro F H σ env fp Q sat hp
  refine sa.go sat hp fun d v F1 H1 sat1 q _ h1 => ?_
  refine sb.go sat1 h1 fun d' v' F2 H2 sat2 q' x2 h2 => ?_
  obtain ⟨z, hz, h3⟩ := post_of h2
  exact hs F2 H2 v v' d d' z Q sat2.fh (q.ext x2) q' hz h3
theorem de_bin {op : Operator} {r : R2} {g : D → D → Option Ow} (ho : OpR X (binaryOp op) r) (hs : OpG X.KK r g) {f h : Ev → R D} (ha : DL X W a f) (hb : DL X W b h) : DE X W (.BinOp a op b pos) (eBinO g f h) := by
  obtain ⟨ta, pa, sa⟩ := ha
  obtain ⟨tb, pb, sb⟩ := hb
  exact ⟨_, pe_op ho pa pb, opG_sm hs sa sb⟩
theorem own_d {K : Kw} {H0 F H : Hp} {v : V} {d : D} (h : Dp K F v d) : POw K H0 (.d d) v F H := ⟨[], .d h, List.nodup_nil, fun _ z => nomatch z⟩
theorem own_l {K : Kw} {F H : Hp} {p : Addr} {vs : List V} {ds : List D} (s : Same F H) (hp : H p = none) (h : DpAll K F vs ds) : POw K H (.l (ds.map Ow.d)) (.ref p) F (upd H p (.lst vs)) :=
  ⟨[p], .l (free_of s hp) upd_same (OwnAll.of_dp h), by simp, by simpa using hp⟩
theorem opG_add {K : Kw} : OpG K (rAddAll K) gAdd := by
  intro F H x y dx dy o Q s hx hy e q
  unfold gAdd at e
  split at e
  · cases e
    cases dp_int hx
    cases dp_int hy
    exact .inl ⟨_, _, rfl, rfl, q _ _ _ (.refl s) (own_d (.int _))⟩
  · split at e
    · cases e
      cases dp_str hx
      cases dp_str hy
      exact .inr (.inl ⟨_, _, rfl, rfl, ‹_›, q _ _ _ (.refl s) (own_d (.str _))⟩)
    · cases e
  · split at e
    · rename_i xs ys c
      cases e
      obtain ⟨a, vs, rfl, h1, h2⟩ := dp_tup hx
      obtain ⟨b, ws, rfl, g1, g2⟩ := dp_tup hy
      refine .inr (.inr (.inl ⟨a, b, vs, ws, rfl, rfl, SqT_mono s h1, SqT_mono s g1, by rw [DpAll.len h2, DpAll.len g2]; exact c, fun e0 => ?_, fun n0 e0 => ?_, fun n0 n1 p hp => ?_⟩))
      · have l := DpAll.len h2
        rw [e0] at l
        have z : xs = [] := List.length_eq_zero_iff.mp l.symm
        subst z
        exact q _ _ _ (.refl s) (own_d hy)
      · have l := DpAll.len g2
        rw [e0] at l
        have z : ys = [] := List.length_eq_zero_iff.mp l.symm
        subst z
        rw [List.append_nil] at q
        exact q _ _ _ (.refl s) (own_d hx)
      · have x := Ext.frz s hp (.tup (vs ++ ws))
        exact q _ _ _ x (own_d (.tup (SqT.of upd_same) (dpaUp (DpAll.append h2 g2) x.ff)))
    · cases e
  · split at e
    · rename_i xs ys c
      cases e
      obtain ⟨a, vs, rfl, h1, h2⟩ := hx
      obtain ⟨b, ws, rfl, g1, g2⟩ := hy
      refine .inr (.inr (.inr ⟨a, b, vs, ws, rfl, rfl, h1, g1, by rw [DpAll.len h2, DpAll.len g2]; exact c, fun p hp => ?_⟩))
      exact q _ _ _ (Ext.own s hp _) (own_l s hp (DpAll.append h2 g2))
    · cases e
  · cases e
theorem de_add (ha : DL X W a f) (hb : DL X W b g) : DE X W (.BinOp a .Add b pos) (eBinO gAdd f g) := de_bin op_addAll opG_add ha hb
end
end Mir
end
set_option Elab.async false
set_option linter.all false
set_option maxRecDepth 100000
set_option maxHeartbeats 4000000
noncomputable section
namespace Mir
open PySem PySem.Spec L2

section
variable {X : Cx} {W : WX} {e a b : Expr} {es : List Expr} {pos : Pos} {f g : Ev → R D}
theorem atI_dp {K : Kw} {F : Hp} {vs : List V} {ds : List D} {i : Int} {d : D} (h : DpAll K F vs ds) (e : atI ds i = some d) : ∃ v, atI vs i = some v ∧ Dp K F v d := by
  unfold atI at e ⊢
  rw [DpAll.len h]
  cases q : ixN ds.length i with
  | none => rw [q] at e; cases e
  | some j =>
    rw [q] at e
    exact DpAll.get h e
def gIx : D → D → Option D
  | .list ds, .int i => atI ds i
  | .tuple ds, .int i => atI ds i
  | .str z, .int i => if z.length ≤ sizeLine then (atI z.cps.toList i).map fun c => .str ⟨#[c]⟩ else none
  | _, _ => none
@[simp] theorem gIx_list (ds : List D) (i : Int) : gIx (.list ds) (.int i) = atI ds i := rfl
@[simp] theorem gIx_tup (ds : List D) (i : Int) : gIx (.tuple ds) (.int i) = atI ds i := rfl
theorem df_ix (ha : DL X W a f) (hb : DV X W b g) (hs : PlainIx b := by exact fun _ _ => rfl) : DF X W (.Subscript a b pos) (eBin gIx f g) := by
  obtain ⟨ta, pa, sa⟩ := ha
  obtain ⟨tb, pb, sb⟩ := hb
  refine ⟨_, pe_ix ix_seq pa pb hs, fun F H σ env fp Q sat hp => ?_⟩
  refine sa.go sat hp fun d v F1 H1 sat1 q _ h1 => ?_
  refine sb.go sat1 h1 fun d' v' F2 H2 sat2 q' x2 h2 => ?_
  obtain ⟨z, hz, h3⟩ := post_of h2
  unfold gIx at hz
  split at hz
  · rename_i ds i
    cases dp_int q'
    obtain ⟨p, vs, rfl, p1, p2⟩ := q
    obtain ⟨w, w1, w2⟩ := atI_dp p2 hz
    exact .inl ⟨p, vs, i, w, rfl, rfl, x2.hh.seq p1, w1, h3 _ _ _ (.refl sat2.fh) (dpUp w2 x2.ff)⟩
  · rename_i ds i
    cases dp_int q'
    obtain ⟨p, vs, rfl, p1, p2⟩ := dp_tup q
    obtain ⟨w, w1, w2⟩ := atI_dp p2 hz
    exact .inr (.inl ⟨p, vs, i, w, rfl, rfl, SqT_mono (x2.ff.trans sat2.fh) p1, w1, h3 _ _ _ (.refl sat2.fh) (dpUp w2 x2.ff)⟩)
  · split at hz
    · rename_i zz i c
      cases dp_int q'
      cases dp_str q
      obtain ⟨cc, c1, c2⟩ := Option.map_eq_some_iff.mp hz
      subst c2
      exact .inr (.inr ⟨_, _, cc, rfl, rfl, c, c1, h3 _ _ _ (.refl sat2.fh) (.str _)⟩)
    · cases hz
  · cases hz
/-- a slice's part -/
def DO (X : Cx) (W : WX) (e : Option Expr) (f : Ev → R (Option Int)) : Prop := ∃ t, PO X e t ∧ Sm X W (fun _ a v _ _ => v = a) t f
instance : Anti (fun (_ : Hp) (a v : Option Int) (_ _ : Hp) => v = a) := ⟨fun _ h => h⟩
def oNone (_ : Ev) : R (Option Int) := .ok none
def asI : D → R (Option Int)
  | .int i => .ok (some i)
  | _ => .no
@[simp] theorem asI_int (i : Int) : asI (.int i) = .ok (some i) := rfl
theorem do_none : DO X W none oNone := ⟨_, po_none, fun F H σ env fp Q sat hp => hp none F H (.refl sat.fh) rfl⟩
theorem do_some (h : DV X W e f) : DO X W (some e) (eB f asI) := by
  obtain ⟨t, p, s⟩ := h
  refine ⟨_, po_some p, fun F H σ env fp Q sat hp => ?_⟩
  refine s.go sat hp fun d v F1 H1 sat1 q _ h1 => ?_
  cases d with
  | int i => cases dp_int q; exact ⟨i, rfl, h1 _ F1 H1 (.refl sat1.fh) rfl⟩
  | _ => exact h1.elim
def cutL {α : Type} (xs : List α) (lo hi : Option Int) : List α := (xs.drop (HT.sIx xs.length 0 lo)).take (HT.sIx xs.length xs.length hi - HT.sIx xs.length 0 lo)
theorem cutL_dp {K : Kw} {F : Hp} {vs : List V} {ds : List D} {lo hi : Option Int} (h : DpAll K F vs ds) : DpAll K F (cutV vs lo hi) (cutL ds lo hi) := by
  unfold cutV cutL
  rw [DpAll.len h]
  exact DpAll.take _ (DpAll.drop _ h)
def gSl : D → Option Int → Option Int → Option Ow
  | .list ds, lo, hi => some (.l ((cutL ds lo hi).map Ow.d))
  | .tuple ds, lo, hi => some (.d (.tuple (cutL ds lo hi)))
  | .str z, lo, hi => if z.length ≤ sizeLine then some (.d (.str (cutS z lo hi))) else none
  | _, _, _ => none
@[simp] theorem gSl_list (ds : List D) (lo hi : Option Int) : gSl (.list ds) lo hi = some (.l ((cutL ds lo hi).map Ow.d)) := rfl
@[simp] theorem gSl_tup (ds : List D) (lo hi : Option Int) : gSl (.tuple ds) lo hi = some (.d (.tuple (cutL ds lo hi))) := rfl
def eSl (f : Ev → R D) (l h : Ev → R (Option Int)) (env : Ev) : R Ow := (f env).bind fun x => (l env).bind fun i => (h env).bind fun j => R.of (gSl x i j)
theorem de_slice {lo hi : Option Expr} {l h : Ev → R (Option Int)} {p2 : Pos} (ha : DL X W a f) (hl : DO X W lo l) (hh : DO X W hi h) : DE X W (.Subscript a (.Slice lo hi none p2) pos) (eSl f l h) := by
  obtain ⟨ta, pa, sa⟩ := ha
  obtain ⟨tl, pl, sl⟩ := hl
  obtain ⟨th, ph, sh⟩ := hh
  refine ⟨_, pe_slice (SlR.or sl_list (SlR.or sl_tupA sl_str)) pa pl ph, fun F H σ env fp Q sat hp => ?_⟩
  refine sa.go sat hp fun d v F1 H1 sat1 q _ h1 => ?_
  refine sl.go sat1 h1 fun i i' F2 H2 sat2 q' x2 h2 => ?_
  obtain rfl : i' = i := q'
  refine sh.go sat2 h2 fun j j' F3 H3 sat3 q' x3 h3 => ?_
  obtain rfl : j' = j := q'
  obtain ⟨z, hz, h4⟩ := post_of h3
  have x := x2.trans x3
  unfold gSl at hz
  split at hz
  · cases hz
    obtain ⟨p, vs, rfl, p1, p2⟩ := q
    refine .inl ⟨p, vs, rfl, x.hh.seq p1, fun r hr => ?_⟩
    exact h4 _ _ _ (Ext.own sat3.fh hr _) (own_l sat3.fh hr (cutL_dp (dpaUp p2 x.ff)))
  · cases hz
    obtain ⟨p, vs, rfl, p1, p2⟩ := dp_tup q
    have p3 := DpAll.len p2
    refine .inr (.inl ⟨p, vs, rfl, SqT_mono (x.ff.trans sat3.fh) p1, fun c => ?_, fun _ r hr => ?_⟩)
    · refine h4 _ _ _ (.refl sat3.fh) (own_d ?_)
      rename_i ds
      have e : cutL ds i' j' = ds := by
        unfold cutL
        rw [← p3, c.1, c.2, List.drop_zero, Nat.sub_zero, p3, List.take_length]
      rw [e]
      exact dpUp q x.ff
    · have y := Ext.frz sat3.fh hr (.tup (cutV vs i' j'))
      exact h4 _ _ _ y (own_d (.tup (SqT.of upd_same) (cutL_dp (dpaUp p2 (x.ff.trans y.ff)))))
  · split at hz
    · cases hz
      cases dp_str q
      exact .inr (.inr ⟨_, rfl, ‹_›, h4 _ _ _ (.refl sat3.fh) (own_d (.str _))⟩)
    · cases hz
  · cases hz

inductive PSqs (K : Kw) (F H : Hp) : List D → List V → Prop
  | nil : PSqs K F H [] []
  | cons {d : D} {ds : List D} {v : V} {vs : List V} : PSq K H d v F H → PSqs K F H ds vs → PSqs K F H (d :: ds) (v :: vs)
def PAl (K : Kw) (_ : Hp) (ds : List D) (vs : List V) (F' H' : Hp) : Prop := PSqs K F' H' ds vs
instance {K : Kw} : Anti (PAl K) := ⟨fun _ h => h⟩
def DAl (X : Cx) (W : WX) (es : List Expr) (f : Ev → R (List D)) : Prop := ∃ t, PA X es t ∧ Sm X W (PAl X.KK) t f
theorem dal_nil : DAl X W [] aNil := ⟨_, pa_nil, fun F H σ env fp Q sat h => h _ F H (.refl sat.fh) .nil⟩
theorem dal_cons {f : Ev → R D} {g : Ev → R (List D)} (hf : DL X W e f) (hg : DAl X W es g) (hs : starEach (e :: es) X.env = (false, eval e X.env) :: starEach es X.env := by rfl) : DAl X W (e :: es) (aCons f g) := by
  obtain ⟨t, p, s⟩ := hf
  obtain ⟨t', p', s'⟩ := hg
  refine ⟨_, pa_cons p p' hs, fun F H σ env fp Q sat h => ?_⟩
  refine s.go sat h fun d v F1 H1 sat1 q _ h1 => ?_
  refine s'.go sat1 h1 fun ds vs F2 H2 sat2 q' x2 h2 => ?_
  exact h2 _ F2 H2 (.refl sat2.fh) (.cons (q.ext x2) q')
def CaG (K : Kw) (r : List V → Hp → VK → Prop) (g : List D → Option Ow) : Prop := ∀ F H vs ds o Q, Same F H → PSqs K F H ds vs → g ds = some o → (∀ v F' H', Ext F H F' H' → POw K H o v F' H' → Q v H') → r vs H Q
def eCa (g : List D → Option Ow) (f : Ev → R (List D)) (env : Ev) : R Ow := (f env).bind fun ds => R.of (g ds)
theorem ca_sm {r : List V → Hp → VK → Prop} {g : List D → Option Ow} {t : TA} {f : Ev → R (List D)} (hs : CaG X.KK r g) (s : Sm X W (PAl X.KK) t f) : Sm X W (POw X.KK) (tCB r t) (eCa g f) := by
  intro F H σ env fp Q sat hp
  refine s.go sat hp fun ds vs F1 H1 sat1 q _ h1 => ?_
  obtain ⟨z, hz, h2⟩ := post_of h1
  exact hs F1 H1 vs ds z Q sat1.fh q hz h2
theorem de_callB {id : String} {r : List V → Hp → VK → Prop} {g : List D → Option Ow} {x : Str} {p : Pos} {f : Ev → R (List D)} (hc : CallR X (.builtin id) r) (hs : CaG X.KK r g) (hg : Gl X x) (hm : X.mg x = none) (hv : bootBuiltins x = some (.builtin id)) (ha : DAl X W (e :: es) f)
    (hn : x ≠ "__name__" := by decide) (hdb : (x == ("__debug__" : Str)) = false := by decide)
    (he : starEach (e :: es) X.env = (false, eval e X.env) :: starEach es X.env := by rfl) (hpl : (backTo pos (starEach es X.env)).any (·.1) = false := by rfl) : DE X W (.Call (.Name x p) (e :: es) [] pos) (eCa g f) := by
  obtain ⟨t, pa, s⟩ := ha
  exact ⟨_, pe_callB hc hg hm hv pa hn hdb he hpl, ca_sm hs s⟩
theorem de_callTy {T : String} {r : List V → Hp → VK → Prop} {g : List D → Option Ow} {x : Str} {p : Pos} {f : Ev → R (List D)} (hc : CallR X (.type T) r) (hs : CaG X.KK r g) (hg : Gl X x) (hm : X.mg x = none) (hv : bootBuiltins x = some (.type T)) (ha : DAl X W (e :: es) f)
    (hn : x ≠ "__name__" := by decide) (hdb : (x == ("__debug__" : Str)) = false := by decide)
    (he : starEach (e :: es) X.env = (false, eval e X.env) :: starEach es X.env := by rfl) (hpl : (backTo pos (starEach es X.env)).any (·.1) = false := by rfl) : DE X W (.Call (.Name x p) (e :: es) [] pos) (eCa g f) := by
  obtain ⟨t, pa, s⟩ := ha
  exact ⟨_, pe_callTy hc hg hm hv pa hn hdb he hpl, ca_sm hs s⟩
theorem psqs1 {K : Kw} {F H : Hp} {d : D} {vs : List V} (h : PSqs K F H [d] vs) : ∃ v, vs = [v] ∧ PSq K H d v F H := by
  cases h with | cons a b => cases b; exact ⟨_, rfl, a⟩
theorem psqs2 {K : Kw} {F H : Hp} {d d' : D} {vs : List V} (h : PSqs K F H [d, d'] vs) : ∃ v w, vs = [v, w] ∧ PSq K H d v F H ∧ PSq K H d' w F H := by
  cases h with | cons a b => cases b with | cons a' b' => cases b'; exact ⟨_, _, rfl, a, a'⟩
def gLen : List D → Option Ow
  | [.list ds] => some (.d (.int ds.length))
  | [.tuple ds] => some (.d (.int ds.length))
  | [.str z] => if z.length ≤ sizeLine then some (.d (.int z.length)) else none
  | _ => none
@[simp] theorem gLen_list (ds : List D) : gLen [.list ds] = some (.d (.int ds.length)) := rfl
@[simp] theorem gLen_tup (ds : List D) : gLen [.tuple ds] = some (.d (.int ds.length)) := rfl
theorem caG_len {K : Kw} : CaG K (fun xs H Q => ∃ x n, xs = [x] ∧ LenV K x H n ∧ Q (.int n) H) gLen := by
  intro F H vs ds o Q s h e q
  unfold gLen at e
  split at e
  · cases e
    obtain ⟨v, rfl, p, ws, rfl, p1, p2⟩ := psqs1 h
    exact ⟨_, _, rfl, .inl ⟨ws, p1, (DpAll.len p2).symm⟩, q _ _ _ (.refl s) (own_d (.int _))⟩
  · cases e
    obtain ⟨v, rfl, w⟩ := psqs1 h
    obtain ⟨p, ws, rfl, p1, p2⟩ := dp_tup w
    exact ⟨_, _, rfl, .inr ⟨ws, SqT_mono s p1, (DpAll.len p2).symm⟩, q _ _ _ (.refl s) (own_d (.int _))⟩
  · split at e
    · rename_i c
      cases e
      obtain ⟨v, rfl, w⟩ := psqs1 h
      cases dp_str w
      exact ⟨_, _, rfl, ⟨c, rfl⟩, q _ _ _ (.refl s) (own_d (.int _))⟩
    · cases e
  · cases e
def gMax2 : List D → Option Ow
  | [.int i, .int j] => some (.d (.int (if j > i then j else i)))
  | _ => none
def gMin2 : List D → Option Ow
  | [.int i, .int j] => some (.d (.int (if j < i then j else i)))
  | _ => none
@[simp] theorem gMax2_int (i j : Int) : gMax2 [.int i, .int j] = some (.d (.int (if j > i then j else i))) := rfl
@[simp] theorem gMin2_int (i j : Int) : gMin2 [.int i, .int j] = some (.d (.int (if j < i then j else i))) := rfl
theorem caG_max2 {K : Kw} : CaG K (fun xs H Q => ∃ i j, xs = [.int i, .int j] ∧ Q (.int (if j > i then j else i)) H) gMax2 := by
  intro F H vs ds o Q s h e q
  unfold gMax2 at e
  split at e
  · cases e
    obtain ⟨v, w, rfl, h1, h2⟩ := psqs2 h
    cases dp_int h1
    cases dp_int h2
    exact ⟨_, _, rfl, q _ _ _ (.refl s) (own_d (.int _))⟩
  · cases e
def intsD : List D → Option (List Int)
  | [] => some []
  | .int i :: ds => (intsD ds).map fun is => i :: is
  | _ :: _ => none
@[simp] theorem intsD_map : ∀ ns : List Int, intsD (ns.map PyData.int) = some ns
  | [] => rfl
  | n :: ns => by simp [intsD, intsD_map ns]
def gList : List D → Option Ow
  | [.list ds] => some (.l (ds.map Ow.d))
  | [.tuple ds] => some (.l (ds.map Ow.d))
  | _ => none
@[simp] theorem gList_list (ds : List D) : gList [.list ds] = some (.l (ds.map Ow.d)) := rfl
@[simp] theorem gList_tup (ds : List D) : gList [.tuple ds] = some (.l (ds.map Ow.d)) := rfl
def gTuple : List D → Option Ow
  | [.list ds] => some (.d (.tuple ds))
  | [.tuple ds] => some (.d (.tuple ds))
  | _ => none
@[simp] theorem gTuple_list (ds : List D) : gTuple [.list ds] = some (.d (.tuple ds)) := rfl
@[simp] theorem gTuple_tup (ds : List D) : gTuple [.tuple ds] = some (.d (.tuple ds)) := rfl
theorem caG_tuple {K : Kw} : CaG K (fun xs H Q => ∃ p ys, xs = [.ref p] ∧ ((SqL K H p ys ∧ ∀ l, H l = none → Q (.ref l) (upd H l (.tup ys))) ∨ (SqT K H p ys ∧ Q (.ref p) H))) gTuple := by
  intro F H vs ds o Q s h e q
  unfold gTuple at e
  split at e
  · cases e
    obtain ⟨v, rfl, p, ws, rfl, p1, p2⟩ := psqs1 h
    refine ⟨p, ws, rfl, .inl ⟨p1, fun l hl => ?_⟩⟩
    have y := Ext.frz s hl (.tup ws)
    exact q _ _ _ y (own_d (.tup (SqT.of upd_same) (dpaUp p2 y.ff)))
  · cases e
    obtain ⟨v, rfl, w⟩ := psqs1 h
    obtain ⟨p, ws, rfl, p1, p2⟩ := dp_tup w
    exact ⟨p, ws, rfl, .inr ⟨SqT_mono s p1, q _ _ _ (.refl s) (own_d (.tup p1 p2))⟩⟩
  · cases e
def gInt : List D → Option Ow
  | [.int i] => some (.d (.int i))
  | [.bool b] => some (.d (.int (if b then 1 else 0)))
  | [.str z] => if z.length ≤ 640 then (PySem.intText? z).map fun n => .d (.int n) else none
  | _ => none
@[simp] theorem gInt_int (i : Int) : gInt [.int i] = some (.d (.int i)) := rfl
@[simp] theorem gInt_bool (b : Bool) : gInt [.bool b] = some (.d (.int (if b then 1 else 0))) := rfl
theorem caG_int {K : Kw} : CaG K (fun xs H Q => ((∃ i, xs = [.int i] ∧ Q (.int i) H) ∨ ∃ k, xs = [.bl k] ∧ Q (.int (if k then 1 else 0)) H) ∨ ∃ a n, xs = [.str a] ∧ PySem.intText? a = some n ∧ a.length ≤ 640 ∧ Q (.int n) H) gInt := by
  intro F H vs ds o Q s h e q
  unfold gInt at e
  split at e
  · cases e
    obtain ⟨v, rfl, w⟩ := psqs1 h
    cases dp_int w
    exact .inl (.inl ⟨_, rfl, q _ _ _ (.refl s) (own_d (.int _))⟩)
  · cases e
    obtain ⟨v, rfl, w⟩ := psqs1 h
    cases dp_bool w
    exact .inl (.inr ⟨_, rfl, q _ _ _ (.refl s) (own_d (.int _))⟩)
  · split at e
    · obtain ⟨n, e2, rfl⟩ := Option.map_eq_some_iff.mp e
      obtain ⟨v, rfl, w⟩ := psqs1 h
      cases dp_str w
      exact .inr ⟨_, n, rfl, e2, ‹_›, q _ _ _ (.refl s) (own_d (.int _))⟩
    · cases e
  · cases e
def gStr : List D → Option Ow
  | [.int i] => if i.natAbs.log2 < 1920 then some (.d (.str (toString i))) else none
  | _ => none
theorem caG_str {K : Kw} : CaG K (fun xs H Q => ∃ i, xs = [.int i] ∧ i.natAbs.log2 < 1920 ∧ Q (.str (toString i)) H) gStr := by
  intro F H vs ds o Q s h e q
  unfold gStr at e
  split at e
  · split at e
    · cases e
      obtain ⟨v, rfl, w⟩ := psqs1 h
      cases dp_int w
      exact ⟨_, rfl, ‹_›, q _ _ _ (.refl s) (own_d (.str _))⟩
    · cases e
  · cases e
theorem de_len {x : Expr} {p : Pos} {f : Ev → R (List D)} (hg : Gl X "len") (hm : X.mg "len" = none) (ha : DAl X W [x] f) (hpl : starEach [x] X.env = (false, eval x X.env) :: starEach [] X.env := by rfl) : DE X W (.Call (.Name "len" p) [x] [] pos) (eCa gLen f) :=
  de_callB call_len caG_len hg hm PySem.boot_len ha (he := hpl)
theorem de_max2 {x y : Expr} {p : Pos} {f : Ev → R (List D)} (hc : X.calm = true) (hg : Gl X "max") (hm : X.mg "max" = none) (ha : DAl X W [x, y] f) (he : starEach [x, y] X.env = (false, eval x X.env) :: starEach [y] X.env := by rfl) (hpl : (backTo pos (starEach [y] X.env)).any (·.1) = false := by rfl) : DE X W (.Call (.Name "max" p) [x, y] [] pos) (eCa gMax2 f) :=
  de_callB (call_max2 hc) caG_max2 hg hm (by decide +kernel) ha (he := he) (hpl := hpl)
theorem de_tuple {x : Expr} {p : Pos} {f : Ev → R (List D)} (hg : Gl X "tuple") (hm : X.mg "tuple" = none) (ha : DAl X W [x] f) (he : starEach [x] X.env = (false, eval x X.env) :: starEach [] X.env := by rfl) : DE X W (.Call (.Name "tuple" p) [x] [] pos) (eCa gTuple f) :=
  de_callTy call_tuple_of caG_tuple hg hm (by decide +kernel) ha (he := he)
theorem de_int {x : Expr} {p : Pos} {f : Ev → R (List D)} (hg : Gl X "int") (hm : X.mg "int" = none) (ha : DAl X W [x] f) (he : starEach [x] X.env = (false, eval x X.env) :: starEach [] X.env := by rfl) : DE X W (.Call (.Name "int" p) [x] [] pos) (eCa gInt f) :=
  de_callTy (CallR.or call_int1 call_int_str) caG_int hg hm (by decide +kernel) ha (he := he)
theorem de_str {x : Expr} {p : Pos} {f : Ev → R (List D)} (hg : Gl X "str") (hm : X.mg "str" = none) (ha : DAl X W [x] f) (he : starEach [x] X.env = (false, eval x X.env) :: starEach [] X.env := by rfl) : DE X W (.Call (.Name "str" p) [x] [] pos) (eCa gStr f) :=
  de_callTy call_str_int caG_str hg hm (by decide +kernel) ha (he := he)

def dTy : D → String
  | .none => "NoneType"
  | .bool _ => "bool"
  | .int _ => "int"
  | .str _ => "str"
  | .list _ => "list"
  | .tuple _ => "tuple"
  | .dict _ => "dict"
theorem sqL_ty {K : Kw} {H : Hp} {a : Addr} {xs : List V} (h : SqL K H a xs) : TyX K H (.ref a) (.type "list") := by
  rcases h with (h | ⟨o, h⟩) | ⟨o, its, n, hk, hc, _⟩
  · exact .base (.lst h)
  · exact .base (.frz h)
  · exact .kList hk hc
theorem sqT_ty {K : Kw} {H : Hp} {a : Addr} {xs : List V} (h : SqT K H a xs) : TyX K H (.ref a) (.type "tuple") := by
  rcases h with (h | ⟨o, h⟩) | ⟨o, its, n, hk, hc, _⟩
  · exact .base (.tup h)
  · exact .fTuple h
  · exact .kTuple hk hc
def isDct : D → Bool
  | .dict _ => true
  | _ => false
theorem dp_ty {K : Kw} {H : Hp} {v : V} {d : D} (h : Dp K H v d) (nd : isDct d = false) : TyX K H v (.type (dTy d)) := by
  cases h with
  | non => exact .base .non
  | bl b => exact .base (.bl b)
  | int i => exact .base (.int i)
  | str i => exact .base (.str i)
  | lst a b => exact sqL_ty a
  | tup a b => exact sqT_ty a
  | _ => cases nd
def gIsi (T : String) (d : D) : R D := if isDct d = true then .no else match kitB (dTy d) T with
  | some b => .ok (.bool b)
  | none => .no
theorem df_isi {T : String} {y : Str} {p p2 : Pos} (ha : DV X W a f) (hg : Gl X "isinstance") (hm : X.mg "isinstance" = none) (gT : Gl X y) (mT : X.mg y = none) (bT : bootBuiltins y = some (.type T))
    (he : starEach [a, .Name y p2] X.env = (false, eval a X.env) :: starEach [.Name y p2] X.env := by rfl) (he2 : starEach [.Name y p2] X.env = (false, eval (.Name y p2) X.env) :: starEach [] X.env := by rfl) (hpl : (backTo pos (starEach [.Name y p2] X.env)).any (·.1) = false := by rfl)
    (hn : y ≠ "__name__" := by decide) (hd : (y == ("__debug__" : Str)) = false := by decide) : DF X W (.Call (.Name "isinstance" p) [a, .Name y p2] [] pos) (eB f (gIsi T)) := by
  obtain ⟨t, pa, s⟩ := ha
  refine ⟨_, pe_callB call_isi hg hm (by decide +kernel) (pa_cons pa (pa_cons (pe_bltn (v := .ty T) gT mT bT rfl hn hd) pa_nil he2) he) (he := he) (hpl := hpl), fun F H σ env fp Q sat hp => ?_⟩
  refine s.go sat hp fun d v F1 H1 sat1 q _ h1 => ?_
  unfold gIsi at h1
  cases nd : isDct d with
  | true => rw [nd] at h1; exact h1.elim
  | false =>
  rw [nd] at h1
  simp only [Bool.false_eq_true, if_false] at h1
  split at h1
  · rename_i b hb
    exact ⟨v, .ty T, _, _, b, rfl, .ty T, dp_ty q nd, hb, h1 _ F1 H1 (.refl sat1.fh) (.bl _)⟩
  · exact h1.elim
end
end Mir
end
set_option Elab.async false
set_option linter.all false
set_option maxRecDepth 100000
set_option maxHeartbeats 4000000
noncomputable section
namespace Mir
open PySem PySem.Spec L2

def ItP (t : Bool) (h : Heap) (it a : Addr) (i : Nat) : Prop := match t with
  | true => h.IsTupleIter it a i
  | false => h.IsListIter it a i
def CoP (t : Bool) (h : Heap) (a : Addr) (its : Array Value) : Prop := match t with
  | true => h.IsTuple a its
  | false => h.IsList a its
def Sqq (t : Bool) (K : PySem.W.Frag) (H : Hp) (a : Addr) (vs : List V) : Prop := match t with
  | true => SqT K H a vs
  | false => SqL K H a vs
theorem Sqq.mono {t : Bool} {K : PySem.W.Frag} {H H' : Hp} {a : Addr} {vs : List V} (s : Same H H') (h : Sqq t K H a vs) : Sqq t K H' a vs := by
  cases t with
  | true => exact SqT_mono s h
  | false => exact s.seq h
section
variable {X : Cx} {pins : List (Addr × Obj)} {σ : L2.St} {H : Hp} {s : Shared} {a : Addr} {xs ys : List V} {t : Bool}
theorem Sqq.at (I : Inv X pins σ H s) (h : Sqq t X.K H a xs) : ∃ its : List Value, Vals xs its ∧ CoP t s.heap a its.toArray := by
  cases t with
  | true =>
    obtain ⟨its, r, p, _⟩ := I.tuple h
    exact ⟨its, r, p⟩
  | false =>
    obtain ⟨its, r, p, _⟩ := I.list h
    exact ⟨its, r, p.isList⟩
theorem Sqq.inj (I : Inv X pins σ H s) (h : Sqq t X.K H a xs) (h' : Sqq t X.K H a ys) : xs = ys := by
  cases t with
  | true => exact I.tuple_inj h h'
  | false => exact I.list_inj h h'
end
theorem ItP.at {t : Bool} {h h' : Heap} {it a : Addr} {i : Nat} (p : ItP t h it a i) (k : ∀ o, h.get? it = some o → h'.get? it = some o) : ItP t h' it a i := by
  cases t with
  | true => obtain ⟨o, e, q⟩ := p; exact ⟨o, k o e, q⟩
  | false => obtain ⟨o, e, q⟩ := p; exact ⟨o, k o e, q⟩
end Mir
end
set_option Elab.async false
set_option linter.all false
set_option maxRecDepth 100000
set_option maxHeartbeats 4000000
noncomputable section
namespace Mir
open PySem PySem.Spec L2

end Mir
end
set_option Elab.async false
set_option linter.all false
set_option maxRecDepth 100000
set_option maxHeartbeats 4000000
noncomputable section
namespace Mir
open PySem PySem.Spec L2

structure WalkF (K : Kw) (J : It) (F0 : Hp) (items : List D) : Prop where
  go : ∀ i F H, i < items.length → Same F0 F → Same F H → J.go i H
  yld : ∀ i F H x H', i < items.length → Same F0 F → Same F H → J.yld i H x H' → ∃ d F', items[i]? = some d ∧ Ext F H F' H' ∧ Dp K F' x d
  stop : ∀ F H, Same F0 F → Same F H → J.stop items.length H
def PIt (K : Kw) (_ : Hp) (items : List D) (J : It) (F' _ : Hp) : Prop := WalkF K J F' items
instance {K : Kw} : Anti (PIt K) := ⟨fun _ h => h⟩
def DI (X : Cx) (W : WX) (tg e : Expr) (f : Ev → R (List D)) : Prop := ∃ wi, PI X tg e wi ∧ Sm X W (PIt X.KK) wi f
section
variable {K : Kw} {F0 : Hp} {a b : Addr} {vs ws : List V} {ds es : List D}
theorem walkF_l (h1 : SqL K F0 a vs) (h2 : DpAll K F0 vs ds) : WalkF K (Itl K a) F0 ds where
  go := fun i F H hi s1 s2 => by
    rw [← DpAll.len h2] at hi
    exact ⟨vs, vs[i], (s1.trans s2).seq h1, by simp [hi]⟩
  yld := fun i F H x H' hi s1 s2 ⟨e, q⟩ => by
    subst e
    obtain ⟨d, e1, e2⟩ := DpAll.getV h2 (q vs ((s1.trans s2).seq h1))
    exact ⟨d, F, e1, .refl s2, dpUp e2 s1⟩
  stop := fun F H s1 s2 => ⟨vs, (s1.trans s2).seq h1, by rw [DpAll.len h2]; exact Nat.le_refl _⟩
theorem walkF_t (h1 : SqT K F0 a vs) (h2 : DpAll K F0 vs ds) : WalkF K (Itt K a) F0 ds where
  go := fun i F H hi s1 s2 => by
    rw [← DpAll.len h2] at hi
    exact ⟨vs, vs[i], SqT_mono (s1.trans s2) h1, by simp [hi]⟩
  yld := fun i F H x H' hi s1 s2 ⟨e, q⟩ => by
    subst e
    obtain ⟨d, e1, e2⟩ := DpAll.getV h2 (q vs (SqT_mono (s1.trans s2) h1))
    exact ⟨d, F, e1, .refl s2, dpUp e2 s1⟩
  stop := fun F H s1 s2 => ⟨vs, SqT_mono (s1.trans s2) h1, by rw [DpAll.len h2]; exact Nat.le_refl _⟩
def charsD (z : Str) : List D := z.cps.toList.map fun c => .str ⟨#[c]⟩
theorem walkF_s (z : Str) : WalkF K (Its z) F0 (charsD z) where
  go := fun i F H hi s1 s2 => walk_str.goes i H (by simpa [charsD] using hi) trivial
  yld := fun i F H x H' hi s1 s2 h => by
    have hi' : i < z.cps.size := by simpa [charsD] using hi
    obtain ⟨e, c, e1, e2⟩ := walk_str.yields i H x H' hi' trivial h
    subst e e2
    exact ⟨_, F, by simp [charsD, e1], .refl s2, .str _⟩
  stop := fun F H s1 s2 => by
    have := (walk_str (z := z)).stops H trivial
    simpa [charsD] using this
def rangeD (lo : Int) (n : Nat) : List D := (List.range n).map fun i => .int (lo + (i : Nat))
def rangeCD (lo c : Int) (n : Nat) : List D := (List.range n).map fun i => .int (lo + (i : Nat) * c)
theorem walkF_r (lo : Int) (n : Nat) : WalkF K (Itr lo n) F0 (rangeD lo n) where
  go := fun i F H hi s1 s2 => walk_range.goes i H (by simpa [rangeD] using hi) trivial
  yld := fun i F H x H' hi s1 s2 h => by
    have hi' : i < n := by simpa [rangeD] using hi
    obtain ⟨e, e1⟩ := walk_range.yields i H x H' hi' trivial h
    subst e e1
    exact ⟨_, F, by simp [rangeD, hi'], .refl s2, .int _⟩
  stop := fun F H s1 s2 => by
    have := (walk_range (lo := lo) (n := n)).stops H trivial
    simpa [rangeD] using this
theorem walkF_rc (lo c : Int) (n : Nat) : WalkF K (Itc lo c n) F0 (rangeCD lo c n) where
  go := fun i F H hi s1 s2 => walk_rangeC.goes i H (by simpa [rangeCD] using hi) trivial
  yld := fun i F H x H' hi s1 s2 h => by
    have hi' : i < n := by simpa [rangeCD] using hi
    obtain ⟨e, e1⟩ := walk_rangeC.yields i H x H' hi' trivial h
    subst e e1
    exact ⟨_, F, by simp [rangeCD, hi'], .refl s2, .int _⟩
  stop := fun F H s1 s2 => by
    have := (walk_rangeC (lo := lo) (c := c) (n := n)).stops H trivial
    simpa [rangeCD] using this
def enumD : Nat → List D → List D
  | _, [] => []
  | n, d :: ds => .tuple [.int n, d] :: enumD (n + 1) ds
def zipD : List D → List D → List D
  | x :: xs, y :: ys => .tuple [x, y] :: zipD xs ys
  | _, _ => []
@[simp] theorem zipD_nil (ys : List D) : zipD [] ys = [] := by cases ys <;> rfl
@[simp] theorem zipD_nil2 (ys : List D) : zipD ys [] = [] := by cases ys <;> rfl
@[simp] theorem zipD_cons (x y : D) (xs ys : List D) : zipD (x :: xs) (y :: ys) = .tuple [x, y] :: zipD xs ys := rfl
end
section
variable {X : Cx} {W : WX} {tg e e2 : Expr} {es : List Expr} {pos p : Pos} {f g : Ev → R D}
theorem PI.or {wi wj : TI} (h : PI X tg e wi) (h' : PI X tg e wj) : PI X tg e (fun σ H R => wi σ H R ∨ wj σ H R) := ⟨fun pins s σ H R I q => by
  rcases q with q | q
  · exact h.run pins s σ H R I q
  · exact h'.run pins s σ H R I q⟩
def itD : D → R (List D)
  | .list ds => .ok ds
  | .tuple ds => .ok ds
  | .str z => .ok (charsD z)
  | _ => .no
@[simp] theorem itD_list (ds : List D) : itD (.list ds) = .ok ds := rfl
@[simp] theorem itD_tup (ds : List D) : itD (.tuple ds) = .ok ds := rfl
@[simp] theorem itD_str (z : Str) : itD (.str z) = .ok (charsD z) := rfl
/-- go on by what the first part is -/
theorem Sm.choose {α β γ δ : Type} {P : Hp → α → β → Hp → Hp → Prop} {P2 : Hp → γ → δ → Hp → Hp → Prop} [Anti P2] {t : L2.St → Hp → (β → Hp → Prop) → Prop} {f : Ev → R α} (s : Sm X W P t f) {g : α → R γ} {F H : Hp} {σ : L2.St} {env : Ev} {fp : List Addr} {Q : δ → Hp → Prop} {G : Prop}
    (sat : Sat X.KK F H σ env fp) (h : Post X W P2 F H σ ((f env).bind g) Q) (no : (∀ T, t σ H T) → G)
    (k : ∀ a, f env = .ok a → (∀ T, (∀ v F1 H1, Sat X.KK F1 H1 σ env fp → P H a v F1 H1 → Ext F H F1 H1 → Post X W P2 F1 H1 σ (g a) Q → T v H1) → t σ H T) → G) : G := by
  cases e : f env with
  | no => rw [e] at h; exact h.elim
  | ok a =>
    refine k a e fun T hT => s F H σ env fp T sat ?_
    rw [e] at h ⊢
    exact fun v F' H' x p => hT v F' H' (sat.ext x) p x (Post.ext (show Post X W P2 F H σ (g a) Q from h) x)
  | ex c =>
    refine no fun T => s F H σ env fp T sat ?_
    rw [e] at h ⊢
    exact h
theorem di_seq (h : DF X W e f) : DI X W tg e (eB f itD) := by
  obtain ⟨t, p, s⟩ := h
  refine ⟨_, PI.or (pi_list p) (PI.or (pi_tup p) (pi_str p)), fun F H σ env fp Q sat hp => ?_⟩
  refine s.choose sat hp (fun z => .inl (z _)) fun d e k => ?_
  cases d with
  | list ds =>
    refine .inl (k _ fun v F1 H1 sat1 q _ h1 => ?_)
    obtain ⟨a, vs, rfl, q1, q2⟩ := dp_lst q
    exact ⟨a, rfl, ⟨vs, sat1.fh.seq q1⟩, h1 _ F1 H1 (.refl sat1.fh) (walkF_l q1 q2)⟩
  | tuple ds =>
    refine .inr (.inl (k _ fun v F1 H1 sat1 q _ h1 => ?_))
    obtain ⟨a, vs, rfl, q1, q2⟩ := dp_tup q
    exact ⟨a, rfl, ⟨vs, SqT_mono sat1.fh q1⟩, h1 _ F1 H1 (.refl sat1.fh) (walkF_t q1 q2)⟩
  | str z =>
    refine .inr (.inr (k _ fun v F1 H1 sat1 q _ h1 => ?_))
    cases dp_str q
    exact ⟨z, rfl, h1 _ F1 H1 (.refl sat1.fh) (walkF_s z)⟩
  | _ =>
    refine .inl (k _ fun v F1 H1 sat1 q _ h1 => h1.elim)
def rg1 : List D → R (List D)
  | [.int j] => guard (-(2 ^ 62) ≤ j ∧ j < 2 ^ 62) (.ok (rangeD 0 j.toNat))
  | _ => .no
def rg3 : List D → R (List D)
  | [.int i, .int j, .int c] => guard (c = -1 ∧ -(2 ^ 62) ≤ i ∧ i < 2 ^ 62 ∧ -(2 ^ 62) ≤ j ∧ j < 2 ^ 62) (.ok (rangeCD i (-1) (i - j).toNat))
  | _ => .no
theorem daf1 {K : Kw} {F : Hp} {d : D} {vs : List V} (h : DpAll K F vs [d]) : ∃ v, vs = [v] ∧ Dp K F v d := by
  cases h with | cons a b => cases b; exact ⟨_, rfl, a⟩
theorem daf3 {K : Kw} {F : Hp} {d d' d2 : D} {vs : List V} (h : DpAll K F vs [d, d', d2]) : ∃ v w u, vs = [v, w, u] ∧ Dp K F v d ∧ Dp K F w d' ∧ Dp K F u d2 := by
  cases h with | cons a b => cases b with | cons a' b' => cases b' with | cons a2 b2 => cases b2; exact ⟨_, _, _, rfl, a, a', a2⟩
variable {fa : Ev → R (List D)}
theorem di_range1 (hg : Gl X "range") (hm : X.mg "range" = none) (h : DA X W [e] fa) (hs : starEach [e] X.env = [(false, eval e X.env)] := by rfl) : DI X W tg (.Call (.Name "range" p) [e] [] pos) (eB fa rg1) := by
  obtain ⟨t, pa, s⟩ := h
  refine ⟨_, pi_range1 hg hm pa hs, fun F H σ env fp Q sat hp => ?_⟩
  refine s.go sat hp fun ds vs F1 H1 sat1 q _ h1 => ?_
  unfold rg1 at h1
  split at h1
  · obtain ⟨c, h2⟩ := guard_post h1
    obtain ⟨v, rfl, w⟩ := daf1 q
    cases dp_int w
    exact ⟨_, rfl, c.1, c.2, h2 _ F1 H1 (.refl sat1.fh) (walkF_r _ _)⟩
  · exact h1.elim
theorem di_range3 {e3 : Expr} (hg : Gl X "range") (hm : X.mg "range" = none) (h : DA X W [e, e2, e3] fa) (hs : starEach [e, e2, e3] X.env = (false, eval e X.env) :: starEach [e2, e3] X.env := by rfl) (hs2 : (backTo pos (starEach [e2, e3] X.env)).any (·.1) = false := by rfl) : DI X W tg (.Call (.Name "range" p) [e, e2, e3] [] pos) (eB fa rg3) := by
  obtain ⟨t, pa, s⟩ := h
  refine ⟨_, pi_range3 hg hm pa hs hs2, fun F H σ env fp Q sat hp => ?_⟩
  refine s.go sat hp fun ds vs F1 H1 sat1 q _ h1 => ?_
  unfold rg3 at h1
  split at h1
  · obtain ⟨⟨c, c1, c2, c3, c4⟩, h2⟩ := guard_post h1
    obtain ⟨v, w, u, rfl, w1, w2, w3⟩ := daf3 q
    cases dp_int w1
    cases dp_int w2
    cases dp_int w3
    subst c
    exact ⟨_, _, _, _, rfl, RgC.neg c1 c2 c3 c4, h2 _ F1 H1 (.refl sat1.fh) (walkF_rc _ _ _)⟩
  · exact h1.elim
def sqqD : D → Option (Bool × List D)
  | .list ds => some (false, ds)
  | .tuple ds => some (true, ds)
  | _ => none
def enArg : List D → R (List D)
  | [d] => match sqqD d with
    | some (_, ds) => .ok (enumD 0 ds)
    | none => .no
  | _ => .no
@[simp] theorem enArg_list (ds : List D) : enArg [.list ds] = .ok (enumD 0 ds) := rfl
@[simp] theorem enArg_tup (ds : List D) : enArg [.tuple ds] = .ok (enumD 0 ds) := rfl
end
end Mir
end
set_option Elab.async false
set_option linter.all false
set_option maxRecDepth 100000
set_option maxHeartbeats 4000000
noncomputable section
namespace Mir
open PySem PySem.Spec L2

section
variable {K : Kw} {F H : Hp} {σ : L2.St} {env : Ev} {fp : List Addr}
/-- store an own value; fx: the value's new footprint -/
theorem Sat.put (s : Sat K F H σ env fp) {i : Nat} (hi : i < env.length) {v : V} {o : Ow} {fx : List Addr} (h : OwnAt K F H v o fx) (nd : fx.Nodup) (dj : ∀ b ∈ fx, b ∉ fp) :
    ∃ fp', Sat K F H (σ.set i (some v)) (env.set i (some o)) fp' ∧ ∀ b ∈ fp', b ∈ fx ∨ b ∈ fp := by
  obtain ⟨fr, fo, a1, a2, a3, a4, a5, a6, a7⟩ := s.en.put hi s.nd
  obtain ⟨fp', b1, b2, b3⟩ := (a7 F H [] [] (StepS.of_ext (.refl s.fh) []) fun _ _ => by simp).2 v o fx h nd fun b hb z => dj b hb (a1 b z)
  exact ⟨fp', ⟨s.fh, b3, b1⟩, fun b hb => (b2 b hb).imp id (a1 b)⟩
end

def Off (ix : List Nat) (σ σ' : L2.St) : Prop := σ'.length = σ.length ∧ ∀ j, j ∉ ix → σ'[j]? = σ[j]?
theorem Off.refl (σ : L2.St) (ix : List Nat) : Off ix σ σ := ⟨rfl, fun _ _ => rfl⟩
theorem Off.trans {ix jx : List Nat} {σ σ1 σ2 : L2.St} (a : Off ix σ σ1) (b : Off jx σ1 σ2) : Off (ix ++ jx) σ σ2 :=
  ⟨b.1.trans a.1, fun j h => (b.2 j fun z => h (List.mem_append_right _ z)).trans (a.2 j fun z => h (List.mem_append_left _ z))⟩
/-- the reading of a target, by its mirror -/
def tgOf (K : Kw) (ix : List Nat) (g : D → Ev → Option Ev) : TG := fun v σ H Q => ∃ F env fp d env', Sat K F H σ env fp ∧ Dp K F v d ∧ g d env = some env' ∧ ∀ σ' fp', Sat K F H σ' env' fp' → (∀ b ∈ fp', b ∈ fp) → Off ix σ σ' → Q σ' H
def tgsOf (K : Kw) (ix : List Nat) (g : List D → Ev → Option Ev) : TGs := fun v σ H Q => ∃ F env fp d env', Sat K F H σ env fp ∧ DpAll K F v d ∧ g d env = some env' ∧ ∀ σ' fp', Sat K F H σ' env' fp' → (∀ b ∈ fp', b ∈ fp) → Off ix σ σ' → Q σ' H
def DG (X : Cx) (tg : Expr) (ix : List Nat) (g : D → Ev → Option Ev) : Prop := PG X tg (tgOf X.KK ix g)
def DGs (X : Cx) (tg : List Expr) (ix : List Nat) (g : List D → Ev → Option Ev) : Prop := PGs X tg (tgsOf X.KK ix g)
theorem PG.imp {X : Cx} {tg : Expr} {t t' : TG} (h : PG X tg t) (k : ∀ v σ H Q, t' v σ H Q → t v σ H Q) : PG X tg t' := ⟨fun pins s σ H v u Q I r q => h.run pins s σ H v u Q I r (k v σ H Q q)⟩
theorem PGs.imp {X : Cx} {tg : List Expr} {t t' : TGs} (h : PGs X tg t) (k : ∀ v σ H Q, t' v σ H Q → t v σ H Q) : PGs X tg t' := ⟨fun pins s σ H v u Q I r q => h.run pins s σ H v u Q I r (k v σ H Q q)⟩
def gtName (i : Nat) (d : D) (env : Ev) : Option Ev := if i < env.length then some (env.set i (some (.d d))) else none
def gtNil : List D → Ev → Option Ev
  | [], env => some env
  | _, _ => none
def gtCons (g : D → Ev → Option Ev) (h : List D → Ev → Option Ev) : List D → Ev → Option Ev
  | d :: ds, env => (g d env).bind (h ds)
  | _, _ => none
def gtTup (n : Nat) (h : List D → Ev → Option Ev) : D → Ev → Option Ev
  | .tuple ds, env => if ds.length = n then h ds env else none
  | _, _ => none
section
variable {X : Cx} {e : Expr} {es : List Expr} {pos : Pos}
theorem dg_name (i : Nat) {x : Str} (hN : X.N.Nodup) (hi : X.N[i]? = some x := by rfl) (hx : Loc X.env.scope x := by first | exact Or.inl rfl | exact Or.inr rfl) (hf : X.fn x = true ∨ X.env.scope.names.lookup x = some .local := by first | exact .inl rfl | exact .inr rfl | assumption) : DG X (.Name x pos) [i] (gtName i) := by
  refine PG.imp (pg_name hN hi hx hf) ?_
  rintro v σ H Q ⟨F, env, fp, d, env', sat, hd, he, q⟩
  unfold gtName at he
  split at he
  · cases he
    obtain ⟨fp', s', h'⟩ := sat.put ‹_› (OwnAt.d hd) List.nodup_nil (fun _ z => nomatch z)
    exact q _ fp' s' (fun b hb => (h' b hb).elim (fun z => nomatch z) id) ⟨by simp, fun j hj => List.getElem?_set_ne (fun z => hj (by simp [z]))⟩
  · cases he
theorem dgs_nil : DGs X [] [] gtNil := by
  refine PGs.imp pgs_nil ?_
  rintro v σ H Q ⟨F, env, fp, d, env', sat, hd, he, q⟩
  cases d with
  | nil => cases hd; cases he; exact ⟨rfl, q σ fp sat (fun _ z => z) (.refl _ _)⟩
  | cons d ds => cases he
theorem dgs_cons {ix jx : List Nat} {g : D → Ev → Option Ev} {h : List D → Ev → Option Ev} (h1 : DG X e ix g) (h2 : DGs X es jx h) (hs : (assignEach (e :: es) X.env).map (·.2) = assign e X.env :: (assignEach es X.env).map (·.2) := by rfl) : DGs X (e :: es) (ix ++ jx) (gtCons g h) := by
  refine PGs.imp (pgs_cons h1 h2 hs) ?_
  rintro v σ H Q ⟨F, env, fp, d, env', sat, hd, he, q⟩
  cases d with
  | nil => cases he
  | cons d ds =>
    cases hd with
    | cons d1 d2 =>
      cases e1 : g d env with
      | none => unfold gtCons at he; simp only at he; rw [e1] at he; cases he
      | some env1 =>
        unfold gtCons at he; simp only at he; rw [e1] at he
        refine ⟨_, _, rfl, F, env, fp, d, env1, sat, d1, e1, fun σ1 fp1 sat1 sub1 o1 => ?_⟩
        exact ⟨F, env1, fp1, ds, env', sat1, d2, he, fun σ2 fp2 sat2 sub2 o2 => q σ2 fp2 sat2 (fun b hb => sub1 b (sub2 b hb)) (o1.trans o2)⟩
theorem dg_tup {k n : Nat} {ix : List Nat} {h : List D → Ev → Option Ev} (hc : X.calm = true) (hs : DGs X es ix h) (hn : (assignEach es X.env).length = n := by rfl) (hst : (assignEach es X.env).findIdx? (·.1) = none := by rfl) : DG X (.Tuple es k pos) ix (gtTup n h) := by
  refine PG.imp (pg_tup hc hs hn hst) ?_
  rintro v σ H Q ⟨F, env, fp, d, env', sat, hd, he, q⟩
  unfold gtTup at he
  split at he
  · split at he
    · rename_i ds c
      obtain ⟨a, vs, rfl, h1, h2⟩ := dp_tup hd
      exact ⟨a, vs, rfl, SqT_mono sat.fh h1, (DpAll.len h2).trans c, F, env, fp, ds, env', sat, h2, he, q⟩
    · cases he
  · cases he
end

inductive SR where
  | no
  | nx (env : Ev)
  | rt (r : Ow) (env : Ev)
  | bk (env : Ev)
  | ct (env : Ev)
  | ex (c : Str) (env : Ev)
def SR.andThen : SR → (Ev → SR) → SR
  | .nx env, f => f env
  | r, _ => r
@[simp] theorem SR.andThen_nx (env : Ev) (f : Ev → SR) : (SR.nx env).andThen f = f env := rfl
@[simp] theorem SR.andThen_rt (r : Ow) (env : Ev) (f : Ev → SR) : (SR.rt r env).andThen f = .rt r env := rfl
@[simp] theorem SR.andThen_ex (c : Str) (env : Ev) (f : Ev → SR) : (SR.ex c env).andThen f = .ex c env := rfl
@[simp] theorem SR.andThen_bk (env : Ev) (f : Ev → SR) : (SR.bk env).andThen f = .bk env := rfl
@[simp] theorem SR.andThen_ct (env : Ev) (f : Ev → SR) : (SR.ct env).andThen f = .ct env := rfl
@[simp] theorem SR.andThen_no (f : Ev → SR) : SR.no.andThen f = .no := rfl
/-- a pure part, then a statement's outcome -/
def R.st {α : Type} (env : Ev) : R α → (α → SR) → SR
  | .no, _ => .no
  | .ok a, f => f a
  | .ex c, _ => .ex c env
@[simp] theorem R.st_ok {α : Type} (env : Ev) (a : α) (f : α → SR) : (R.ok a).st env f = f a := rfl
@[simp] theorem R.st_ex {α : Type} (env : Ev) (c : Str) (f : α → SR) : (R.ex c : R α).st env f = .ex c env := rfl
/-- S: the slots that may be stored -/
def OffS (S : Nat → Bool) (σ σ' : L2.St) : Prop := ∀ j, S j = false → σ'[j]? = σ[j]?
theorem OffS.refl (S : Nat → Bool) (σ : L2.St) : OffS S σ σ := fun _ _ => rfl
theorem OffS.trans {S : Nat → Bool} {σ σ1 σ2 : L2.St} (a : OffS S σ σ1) (b : OffS S σ1 σ2) : OffS S σ σ2 := fun j h => (b j h).trans (a j h)
theorem OffS.set {S : Nat → Bool} {σ : L2.St} {i : Nat} (h : S i = true) (x : Option V) : OffS S σ (σ.set i x) := fun j hj => List.getElem?_set_ne fun z => by rw [z, hj] at h; cases h
theorem OffS.of {S : Nat → Bool} {σ σ' : L2.St} {ix : List Nat} (h : Off ix σ σ') (k : ix.all S = true) : OffS S σ σ' := fun j hj => h.2 j fun z => by
  rw [List.all_eq_true] at k
  rw [k j z] at hj; cases hj
def PostS (X : Cx) (W : WX) (S : Nat → Bool) (σ0 : L2.St) (F H : Hp) (fp : List Addr) (D : Ends) : SR → Prop
  | .no => False
  | .nx env => ∀ σ F' H' fp', OffS S σ0 σ → StepS F H fp F' H' fp' → Sat X.KK F' H' σ env fp' → D.nx σ H'
  | .bk env => ∀ σ F' H' fp', OffS S σ0 σ → StepS F H fp F' H' fp' → Sat X.KK F' H' σ env fp' → D.bk σ H'
  | .ct env => ∀ σ F' H' fp', OffS S σ0 σ → StepS F H fp F' H' fp' → Sat X.KK F' H' σ env fp' → D.ct σ H'
  | .rt r env => ∀ v σ F' H' fx fp', OffS S σ0 σ → StepS F H fp F' H' (fx ++ fp') → Sat X.KK F' H' σ env fp' → OwnAt X.KK F' H' v r fx → (fx ++ fp').Nodup → D.rt v H'
  | .ex c env => ∀ C σ F' H' fp', X.mg c = some (.ref C) → OffS S σ0 σ → StepS F H fp F' H' fp' → Sat X.KK F' H' σ env fp' → W (.ref C) none σ H'
def SmS (X : Cx) (W : WX) (S : Nat → Bool) (t : TS) (f : Ev → SR) : Prop := ∀ F H σ env fp D, Sat X.KK F H σ env fp → PostS X W S σ F H fp D (f env) → t D σ H
def DS (X : Cx) (W : WX) (S : Nat → Bool) (st : Stmt) (f : Ev → SR) : Prop := ∃ t, PS X st t ∧ SmS X W S t f
def DSs (X : Cx) (W : WX) (S : Nat → Bool) (st : List Stmt) (f : Ev → SR) : Prop := ∃ t, PSs X st t ∧ SmS X W S t f
section
variable {X : Cx} {W : WX} {S : Nat → Bool} {σ0 σ1 : L2.St} {F H F1 H1 : Hp} {fp fp1 : List Addr} {D : Ends}
theorem PostS.step {r : SR} (h : PostS X W S σ0 F H fp D r) (o : OffS S σ0 σ1) (s : StepS F H fp F1 H1 fp1) : PostS X W S σ1 F1 H1 fp1 D r := by
  cases r with
  | no => exact h
  | nx env => exact fun σ F' H' fp' o' s' => h σ F' H' fp' (o.trans o') (s.trans s')
  | bk env => exact fun σ F' H' fp' o' s' => h σ F' H' fp' (o.trans o') (s.trans s')
  | ct env => exact fun σ F' H' fp' o' s' => h σ F' H' fp' (o.trans o') (s.trans s')
  | rt r env => exact fun v σ F' H' fx fp' o' s' => h v σ F' H' fx fp' (o.trans o') (s.trans s')
  | ex c env => exact fun C σ F' H' fp' m o' s' => h C σ F' H' fp' m (o.trans o') (s.trans s')
theorem PostS.ext {r : SR} (h : PostS X W S σ0 F H fp D r) (e : Ext F H F1 H1) : PostS X W S σ0 F1 H1 fp D r := h.step (.refl _ _) (StepS.of_ext e fp)
theorem PostS.sub {S' : Nat → Bool} {r : SR} (h : PostS X W S σ0 F H fp D r) (k : ∀ j, S j = false → S' j = false) : PostS X W S' σ0 F H fp D r := by
  have o : ∀ {σ : L2.St}, OffS S' σ0 σ → OffS S σ0 σ := fun o j hj => o j (k j hj)
  cases r with
  | no => exact h
  | nx env => exact fun σ F' H' fp' o' s' => h σ F' H' fp' (o o') s'
  | bk env => exact fun σ F' H' fp' o' s' => h σ F' H' fp' (o o') s'
  | ct env => exact fun σ F' H' fp' o' s' => h σ F' H' fp' (o o') s'
  | rt r env => exact fun v σ F' H' fx fp' o' s' => h v σ F' H' fx fp' (o o') s'
  | ex c env => exact fun C σ F' H' fp' m o' s' => h C σ F' H' fp' m (o o') s'
/-- a pure part within a statement -/
theorem Sm.st {α β : Type} {P : Hp → α → β → Hp → Hp → Prop} {t : L2.St → Hp → (β → Hp → Prop) → Prop} {f : Ev → R α} (s : Sm X W P t f) {g : α → SR} {σ : L2.St} {env : Ev} {T : β → Hp → Prop} (sat : Sat X.KK F H σ env fp)
    (h : PostS X W S σ F H fp D ((f env).st env g)) (k : ∀ a v F1 H1, Sat X.KK F1 H1 σ env fp → P H a v F1 H1 → Ext F H F1 H1 → PostS X W S σ F1 H1 fp D (g a) → T v H1) : t σ H T := by
  refine s F H σ env fp T sat ?_
  cases e : f env with
  | no => rw [e] at h; exact h
  | ok a =>
    rw [e] at h
    exact fun v F' H' x p => k a v F' H' (sat.ext x) p x (PostS.ext (show PostS X W S σ F H fp D (g a) from h) x)
  | ex c =>
    rw [e] at h
    exact fun C F' H' m x => h C σ F' H' fp m (.refl _ _) (StepS.of_ext x fp) (sat.ext x)
end
section
variable {X : Cx} {W : WX} {S : Nat → Bool} {st : Stmt} {sts : List Stmt} {e : Expr} {pos : Pos} {fs gs : Ev → SR}
def sSkip (env : Ev) : SR := .nx env
def sSeq (f g : Ev → SR) (env : Ev) : SR := (f env).andThen g
theorem dss_nil : DSs X W S [] sSkip := ⟨_, pss_nil, fun F H σ env fp D sat h => h σ F H fp (.refl _ _) (StepS.of_ext (.refl sat.fh) fp) sat⟩
theorem dss_one (h : DS X W S st fs) : DSs X W S [st] fs := by
  obtain ⟨t, p, s⟩ := h
  exact ⟨_, pss_one p, s⟩
theorem seq_sm {t u : TS} (s : SmS X W S t fs) (s' : SmS X W S u gs) : SmS X W S (tSeq t u) (sSeq fs gs) := by
  intro F H σ env fp D sat h
  refine s F H σ env fp _ sat ?_
  unfold sSeq at h
  cases e : fs env with
  | no => rw [e] at h; exact h
  | nx env1 =>
    rw [e] at h
    exact fun σ1 F1 H1 fp1 o1 st1 sat1 => s' F1 H1 σ1 env1 fp1 D sat1 (PostS.step (show PostS X W S σ F H fp D (gs env1) from h) o1 st1)
  | bk env1 => rw [e] at h; exact h
  | ct env1 => rw [e] at h; exact h
  | rt r env1 => rw [e] at h; exact h
  | ex c env1 => rw [e] at h; exact h
theorem dss_cons (h : DS X W S st fs) (h2 : DSs X W S sts gs) : DSs X W S (st :: sts) (sSeq fs gs) := by
  obtain ⟨t, p, s⟩ := h
  obtain ⟨t', p', s'⟩ := h2
  exact ⟨_, pss_cons p p', seq_sm s s'⟩
def sCont (env : Ev) : SR := .ct env
theorem ds_cont : DS X W S (.Continue pos) sCont := ⟨_, ps_continue, fun F H σ env fp D sat h => h σ F H fp (.refl _ _) (StepS.of_ext (.refl sat.fh) fp) sat⟩
/-- name = e -/
def sSet (i : Nat) (f : Ev → R Ow) (env : Ev) : SR := (f env).st env fun r => if i < env.length then .nx (env.set i (some r)) else .no
theorem fresh_dj {K : Kw} {H F' H' : Hp} {F : Hp} {σ : L2.St} {env : Ev} {fp fx : List Addr} (sat : Sat K F H σ env fp) (n : ∀ b ∈ fx, H b = none) : ∀ b ∈ fx, b ∉ fp := fun b hb z => by
  obtain ⟨_, vs, e⟩ := sat.en.there b z
  rw [n b hb] at e
  cases e
theorem put_step {K : Kw} {F H F1 H1 : Hp} {σ : L2.St} {env : Ev} {fp fx : List Addr} {i : Nat} {v : V} {r : Ow} (sat : Sat K F H σ env fp) (x : Ext F H F1 H1) (h : OwnAt K F1 H1 v r fx) (nd : fx.Nodup) (n : ∀ b ∈ fx, H b = none) (hi : i < env.length) :
    ∃ fp', StepS F H fp F1 H1 fp' ∧ Sat K F1 H1 (σ.set i (some v)) (env.set i (some r)) fp' := by
  obtain ⟨fp', s', h'⟩ := (sat.ext x).put hi h nd (fresh_dj (F' := F) (H' := H) sat n)
  exact ⟨fp', ⟨x.ff, fun b o e _ => x.hh b o e, fun b o e => (x.fn b o e).imp id .inr, fun b hb => (h' b hb).elim (fun z => .inr (n b z)) .inl⟩, s'⟩
theorem ds_set {f : Ev → R Ow} {x : Str} {pos' : Pos} (i : Nat) (hN : X.N.Nodup) (he : DE X W e f) (hi : X.N[i]? = some x := by rfl) (hx : Loc X.env.scope x := by first | exact Or.inl rfl | exact Or.inr rfl)
    (hs : swapsWith e (some (.Name x pos')) pos.line X.env = pure false := by rfl) (hf : X.fn x = true ∨ X.env.scope.names.lookup x = some .local := by first | exact .inl rfl | exact .inr rfl | assumption) (hS : S i = true := by rfl) : DS X W S (.Assign [.Name x pos'] e pos) (sSet i f) := by
  obtain ⟨t, p, s⟩ := he
  refine ⟨_, ps_set hN hi hx p hs hf, fun F H σ env fp D sat h => ?_⟩
  refine s F H σ env fp _ sat ?_
  unfold sSet at h
  cases e : f env with
  | no => rw [e] at h; exact h
  | ex c => rw [e] at h; exact fun C F' H' m x => h C σ F' H' fp m (.refl _ _) (StepS.of_ext x fp) (sat.ext x)
  | ok r =>
    rw [e] at h
    intro v F' H' x ⟨fx, q, nd, n⟩
    have h' : PostS X W S σ F H fp D (if i < env.length then .nx (env.set i (some r)) else .no) := h
    split at h'
    · obtain ⟨fp', s1, s2⟩ := put_step sat x q nd n ‹_›
      exact h' _ F' H' fp' (.set hS _) s1 s2
    · exact h'.elim
/-- targets = e, e frozen -/
def sAsg (g : D → Ev → Option Ev) (f : Ev → R D) (env : Ev) : SR := (f env).st env fun d => match g d env with
  | some env' => .nx env'
  | none => .no
theorem ds_asg {f : Ev → R D} {g : D → Ev → Option Ev} {tg : Expr} {ix : List Nat} (he : DF X W e f) (hg : DG X tg ix g) (hs : swapsWithSole [tg] e pos.line X.env = pure false := by rfl) (hw : swappedStores [tg] e X.env = pure none := by rfl)
    (h1 : (assignEach [tg] X.env).map (·.2) = [assign tg X.env] := by rfl) (hS : ix.all S = true := by rfl) : DS X W S (.Assign [tg] e pos) (sAsg g f) := by
  obtain ⟨t, p, s⟩ := he
  refine ⟨_, ps_asg p hg hs hw h1, fun F H σ env fp D sat h => ?_⟩
  refine s.st sat h fun d v F1 H1 sat1 q _ h1 => ?_
  split at h1
  · rename_i env' e
    exact ⟨F1, env, fp, d, env', sat1, q, e, fun σ' fp' sat' sub off => h1 σ' F1 H1 fp' (.of off hS) ((StepS.of_ext (.refl sat1.fh) fp).subset sub) sat'⟩
  · exact h1.elim
/-- an expression whose value is dropped -/
def sDrop (f : Ev → R D) (env : Ev) : SR := (f env).st env fun _ => .nx env
def sRet (f : Ev → R Ow) (env : Ev) : SR := (f env).st env fun r => .rt r env
theorem ds_ret {f : Ev → R Ow} (he : DE X W e f) : DS X W S (.Return (some e) pos) (sRet f) := by
  obtain ⟨t, p, s⟩ := he
  refine ⟨_, ps_ret p, fun F H σ env fp D sat h => ?_⟩
  refine s F H σ env fp _ sat ?_
  unfold sRet at h
  cases e : f env with
  | no => rw [e] at h; exact h
  | ex c => rw [e] at h; exact fun C F' H' m x => h C σ F' H' fp m (.refl _ _) (StepS.of_ext x fp) (sat.ext x)
  | ok r =>
    rw [e] at h
    intro v F' H' x ⟨fx, q, nd, n⟩
    have dj := fresh_dj (F' := F) (H' := H) sat n
    refine h v σ F' H' fx fp (.refl _ _) ⟨x.ff, fun b o e _ => x.hh b o e, fun b o e => (x.fn b o e).imp id .inr, fun b hb => ?_⟩ (sat.ext x) q ?_
    · rcases List.mem_append.mp hb with z | z
      · exact .inr (n b z)
      · exact .inl z
    · rw [List.nodup_append]; exact ⟨nd, sat.nd, fun a ha b hb e => dj a ha (e ▸ hb)⟩
def sRetN (env : Ev) : SR := .rt (.d .none) env
/-- return x, x given away -/
def sRetV (i : Nat) (env : Ev) : SR := match env[i]? with
  | some (some o) => .rt o (env.set i none)
  | _ => .no
theorem ds_retV (i : Nat) {x : Str} {pos' : Pos} (hN : X.N[i]? = some x := by rfl) (hv : Vis X.env.scope x := by first | exact Or.inl rfl | exact Or.inr (Or.inl rfl) | exact Or.inr (Or.inr rfl)) (hd : (x == ("__debug__" : Str)) = false := by decide)
    (hcd : (x == ("__classdict__" : Str)) = false := by decide) : DS X W S (.Return (some (.Name x pos')) pos) (sRetV i) := by
  refine ⟨_, ps_ret (pe_var hN hv hd hcd), fun F H σ env fp D sat h => ?_⟩
  unfold sRetV at h
  split at h
  · rename_i o he
    have hi : i < env.length := (List.getElem?_eq_some_iff.mp he).1
    obtain ⟨fr, fo, a1, a2, a3, a3', a4, a5, a6⟩ := sat.en.put hi sat.nd
    obtain ⟨v, e1, e2⟩ := a5 o he
    have e3 := (a6 F H [] [] (StepS.of_ext (.refl sat.fh) []) fun _ _ => by simp).1 (some v)
    have es : σ.set i (some v) = σ := by
      refine List.ext_getElem? fun j => ?_
      by_cases hj : i = j
      · subst hj
        rw [List.getElem?_set_self (List.getElem?_eq_some_iff.mp e1).1]
        exact e1.symm
      · rw [List.getElem?_set_ne hj]
    rw [es] at e3
    refine ⟨v, e1, h v _ F H fo fr (.refl _ _) ((StepS.of_ext (.refl sat.fh) fp).subset fun b hb => ?_) ⟨sat.fh, e3, a3⟩ e2 ?_⟩
    · exact (List.mem_append.mp hb).elim (a2 b) (a1 b)
    · rw [List.nodup_append]; exact ⟨a3', a3, fun a ha b hb e => a4 a ha (e ▸ hb)⟩
  · exact h.elim
def sIf (c : Ev → R Bool) (f g : Ev → SR) (env : Ev) : SR := (c env).st env fun b => if b = true then f env else g env
theorem ds_if {c : Expr} {a b : List Stmt} {fc : Ev → R Bool} (hc : DT X W c fc) (ha : DSs X W S a fs) (hb : DSs X W S b gs) : DS X W S (.If c a b pos) (sIf fc fs gs) := by
  obtain ⟨t, p, s⟩ := hc
  obtain ⟨ta, pa, sa⟩ := ha
  obtain ⟨tb, pb, sb⟩ := hb
  refine ⟨_, ps_if p pa pb, fun F H σ env fp D sat h => ?_⟩
  refine s.st sat h fun k v F1 H1 sat1 q _ h1 => ?_
  obtain rfl : v = k := q
  cases v with
  | true => exact sa F1 H1 σ env fp D sat1 h1
  | false => exact sb F1 H1 σ env fp D sat1 h1
/-- for target in ..: body -/
def forL (g : D → Ev → Option Ev) (f : Ev → SR) : List D → Ev → SR
  | [], env => .nx env
  | d :: ds, env => match g d env with
    | none => .no
    | some env1 => match f env1 with
      | .nx env2 => forL g f ds env2
      | .ct env2 => forL g f ds env2
      | .bk env2 => .nx env2
      | .rt r env2 => .rt r env2
      | .ex c env2 => .ex c env2
      | .no => .no
def sFor (it : Ev → R (List D)) (g : D → Ev → Option Ev) (f : Ev → SR) (env : Ev) : SR := (it env).st env fun ds => forL g f ds env
theorem ds_for {tg iter : Expr} {body : List Stmt} {fi : Ev → R (List D)} {g : D → Ev → Option Ev} (hp : PassesOwn (model X.prog X.w) X.A X.env X.xe) (hc : X.calm = true) {ix : List Nat} (hi : DI X W tg iter fi) (hg : DG X tg ix g) (hb : DSs X W S body fs)
    (hs : ∀ x, foldedSetIterable iter X.env x = pure x := by intro _; rfl) (hS : ix.all S = true := by rfl) : DS X W S (.For tg iter body [] pos) (sFor fi g fs) := by
  obtain ⟨wi, pi, si⟩ := hi
  obtain ⟨tb, pb, sb⟩ := hb
  refine ⟨_, ps_for hp hc pi hg pb hs, fun F H σ env fp D sat h => ?_⟩
  refine si.st sat h fun items J F1 H1 sat1 wk _ h1 => ?_
  have wk : WalkF X.KK J F1 items := wk
  refine ⟨fun i m σ' H' => m = items.length - i ∧ i ≤ items.length ∧ ∃ F' env' fp', Same F1 F' ∧ Sat X.KK F' H' σ' env' fp' ∧ PostS X W S σ' F' H' fp' D (forL g fs (items.drop i) env'),
    ⟨items.length, by simp, Nat.zero_le _, F1, env, fp, Same.refl _, sat1, h1⟩, ?_⟩
  rintro i m σ' H' ⟨rfl, hi, F', env', fp', st, sat', h2⟩
  by_cases hlt : i < items.length
  · refine .inr ⟨wk.go i F' H' hlt st sat'.fh, fun σ2 H2 => ∃ F2 env2 fp2, Same F1 F2 ∧ Sat X.KK F2 H2 σ2 env2 fp2 ∧ PostS X W S σ2 F2 H2 fp2 D (forL g fs (items.drop (i + 1)) env2), ?_, ?_⟩
    · rintro σ2 H2 ⟨F2, env2, fp2, a, b, c⟩
      exact ⟨items.length - (i + 1), by omega, rfl, hlt, F2, env2, fp2, a, b, c⟩
    · intro x H3 y
      obtain ⟨d, F3, e1, x3, dp⟩ := wk.yld i F' H' x H3 hlt st sat'.fh y
      have ed : items.drop i = d :: items.drop (i + 1) := by
        rw [List.drop_eq_getElem_cons hlt]
        have : items[i] = d := by rw [List.getElem?_eq_getElem hlt] at e1; exact Option.some.inj e1
        rw [this]
      rw [ed] at h2
      unfold forL at h2
      cases eg : g d env' with
      | none => rw [eg] at h2; exact h2.elim
      | some env1 =>
        rw [eg] at h2
        simp only at h2
        refine ⟨F3, env', fp', d, env1, sat'.ext x3, dp, eg, fun σ4 fp4 sat4 sub4 off4 => ?_⟩
        have st4 : StepS F' H' fp' F3 H3 fp4 := (StepS.of_ext x3 fp').subset sub4
        have h4 := PostS.step h2 (.of off4 hS) st4
        refine sb F3 H3 σ4 env1 fp4 _ sat4 ?_
        cases ef : fs env1 with
        | no => rw [ef] at h4; exact h4
        | nx env2 => rw [ef] at h4; exact fun σ5 F5 H5 fp5 o5 s5 sat5 => ⟨F5, env2, fp5, st.trans (x3.ff.trans s5.ff), sat5, PostS.step h4 o5 s5⟩
        | ct env2 => rw [ef] at h4; exact fun σ5 F5 H5 fp5 o5 s5 sat5 => ⟨F5, env2, fp5, st.trans (x3.ff.trans s5.ff), sat5, PostS.step h4 o5 s5⟩
        | bk env2 => rw [ef] at h4; exact h4
        | rt r env2 => rw [ef] at h4; exact h4
        | ex c env2 => rw [ef] at h4; exact h4
  · have e : i = items.length := by omega
    subst e
    rw [List.drop_length] at h2
    exact .inl ⟨wk.stop F' H' st sat'.fh, h2 σ' F' H' fp' (.refl _ _) (StepS.of_ext (.refl sat'.fh) fp') sat'⟩
/-- while c: body, at most n turns -/
def whileN (c : Ev → R Bool) (f : Ev → SR) : Nat → Ev → SR
  | 0, _ => .no
  | n + 1, env => (c env).st env fun b => if b = true then (match f env with
      | .nx env2 => whileN c f n env2
      | .ct env2 => whileN c f n env2
      | .bk env2 => .nx env2
      | .rt r env2 => .rt r env2
      | .ex c env2 => .ex c env2
      | .no => .no) else .nx env
theorem ds_while {c : Expr} {body : List Stmt} {fc : Ev → R Bool} (n : Nat) (hp : PassesOwn (model X.prog X.w) X.A X.env X.xe) (hc : DT X W c fc) (hb : DSs X W S body fs) : DS X W S (.While c body [] pos) (whileN fc fs n) := by
  obtain ⟨tc, pc, sc⟩ := hc
  obtain ⟨tb, pb, sb⟩ := hb
  refine ⟨_, ps_while hp pc pb, fun F H σ env fp D sat h => ?_⟩
  refine ⟨fun m σ' H' => ∃ F' env' fp', Sat X.KK F' H' σ' env' fp' ∧ PostS X W S σ' F' H' fp' D (whileN fc fs m env'), ⟨n, F, env, fp, sat, h⟩, ?_⟩
  rintro m σ' H' ⟨F', env', fp', sat', h2⟩
  cases m with
  | zero => exact h2.elim
  | succ m =>
    unfold whileN at h2
    refine sc.st sat' h2 fun k v F1 H1 sat1 q x1 h3 => ?_
    obtain rfl : v = k := q
    cases v with
    | false => exact h3 σ' F1 H1 fp' (.refl _ _) (StepS.of_ext (.refl sat1.fh) fp') sat1
    | true =>
      rw [if_pos rfl] at h3 ⊢
      refine ⟨fun σ5 H5 => ∃ F5 env2 fp5, Sat X.KK F5 H5 σ5 env2 fp5 ∧ PostS X W S σ5 F5 H5 fp5 D (whileN fc fs m env2), fun σ5 H5 z => ⟨m, Nat.lt_succ_self m, z⟩, ?_⟩
      refine sb F1 H1 σ' env' fp' _ sat1 ?_
      cases ef : fs env' with
      | no => rw [ef] at h3; exact h3
      | nx env2 => rw [ef] at h3; exact fun σ5 F5 H5 fp5 o5 s5 sat5 => ⟨F5, env2, fp5, sat5, PostS.step h3 o5 s5⟩
      | ct env2 => rw [ef] at h3; exact fun σ5 F5 H5 fp5 o5 s5 sat5 => ⟨F5, env2, fp5, sat5, PostS.step h3 o5 s5⟩
      | bk env2 => rw [ef] at h3; exact h3
      | rt r env2 => rw [ef] at h3; exact h3
      | ex c env2 => rw [ef] at h3; exact h3
end
end Mir
end
set_option Elab.async false
set_option linter.all false
set_option maxRecDepth 100000
set_option maxHeartbeats 4000000
noncomputable section
namespace Mir
open PySem PySem.Spec L2

def PostF (K : Kw) (mg : Str → Option Value) (F H : Hp) : R Ow → VK → XK → Prop
  | .no, _, _ => False
  | .ok r, Q, _ => ∀ v F' H', Ext F H F' H' → POw K H r v F' H' → Q v H'
  | .ex c, _, E => ∀ C F' H', mg c = some (.ref C) → Ext F H F' H' → E (.ref C) none H'
def spM (K : Kw) (mg : Str → Option Value) (n : Nat) (m : List D → R Ow) : Sp := fun vs H Q E => ∃ F ds, Same F H ∧ DpAll K F vs ds ∧ ds.length = n ∧ PostF K mg F H (m ds) Q E
theorem spM_len {K : Kw} {mg : Str → Option Value} {n : Nat} {m : List D → R Ow} {vs : List V} {H : Hp} {Q : VK} {E : XK} (h : spM K mg n m vs H Q E) : vs.length = n := by
  obtain ⟨F, ds, _, h1, h2, _⟩ := h
  rw [DpAll.len h1, h2]
def envOf (k : Nat) (ds : List D) : Ev := ds.map (fun d => some (Ow.d d)) ++ List.replicate k none
def runB (k : Nat) (f : Ev → SR) (ds : List D) : R Ow := match f (envOf k ds) with
  | .nx _ => .ok (.d .none)
  | .rt r _ => .ok r
  | .ex c _ => .ex c
  | _ => .no
theorem env_start {K : Kw} {F H : Hp} (k : Nat) : ∀ {vs : List V} {ds : List D}, DpAll K F vs ds → EnvAt K F H (vs.map some ++ List.replicate k none) (envOf k ds) []
  | vs, [], h => by
    cases h
    show EnvAt K F H (List.replicate k none) (List.replicate k none) []
    induction k with
    | zero => exact .nil
    | succ k ih => exact .non ih
  | vs, d :: ds, h => by
    cases h with
    | cons h1 h2 => exact .som (fp := []) (.d h1) (env_start k h2)
section
variable {P : Program} {w : World} {K : PySem.W.Frag} {mg : Str → Option Value} {base : Heap}
theorem mk_fn {x qual : Str} {st : Stmt} {f : Addr} {fd : FuncData} {N ps : List Str} {k l : Nat} {fb : Ev → SR} {m : List D → R Ow} (F : Fun K x qual st f fd) (S : FnScope N ps (defScope st)) (hl : N.length = ps.length + l) (hm : ∀ ds, m ds = runB l fb ds)
    (hb : ∀ (cdv : Value) (A : Around) (outer : List Env) (s : Shared) (H : Hp) (E : XK), Room k (A.deeper (PyProof.Rows.envOfC qual (defScope st) s.heap.objs.size f cdv)) →
      DSs (cxOf (L2.CX P w) P w K mg base N qual (defScope st) f cdv A outer s H E) (fun cls d _ H => E cls d H) (fun _ => true) (defBody st) fb) : FnOk P w K mg base (L2.CX P w) (k + 1) f fd ps (spM ⟨K, w⟩ mg ps.length m) := by
  refine F.okX S (fun vs H Q E h => spM_len h) (fun cdv A outer s H vs Q E hr h => ?_)
  obtain ⟨t, p, sm⟩ := hb cdv A outer s H E hr
  refine ⟨t, p, ?_⟩
  have hlen := spM_len h
  obtain ⟨F0, ds, s1, s2, s3, s4⟩ := h
  have e0 : start N vs = vs.map some ++ List.replicate l none := by
    show vs.map some ++ List.replicate (N.length - vs.length) none = _
    rw [hl, hlen, Nat.add_sub_cancel_left]
  rw [e0]
  have sat : Sat ⟨K, w⟩ F0 H (vs.map some ++ List.replicate l none) (envOf l ds) [] := ⟨s1, env_start l s2, List.nodup_nil⟩
  rw [hm] at s4
  unfold runB at s4
  have ext : ∀ {F' H' : Hp} {fp' : List Addr}, StepS F0 H [] F' H' fp' → Same F' H' → Ext F0 H F' H' := fun st sf => ⟨st.ff, fun b o e => st.fr b o e (by simp), fun b o e => (st.fn b o e).imp id fun z => z.elim (fun z => nomatch z) id, sf⟩
  refine sm F0 H _ _ [] _ sat ?_
  cases e : fb (envOf l ds) with
  | no => rw [e] at s4; exact s4
  | bk env => rw [e] at s4; exact s4.elim
  | ct env => rw [e] at s4; exact s4.elim
  | nx env => rw [e] at s4; exact fun σ' F' H' fp' _ st sat' => s4 .non F' H' (ext st sat'.fh) (own_d .non)
  | rt r env =>
    rw [e] at s4
    intro v σ' F' H' fx fp' _ st sat' ow nd
    refine s4 v F' H' (ext st sat'.fh) ⟨fx, ow, (List.nodup_append.mp nd).1, fun b hb => ?_⟩
    exact (st.sub b (List.mem_append_left _ hb)).elim (fun z => nomatch z) id
  | ex c env => rw [e] at s4; exact fun C σ' F' H' fp' m _ st sat' => s4 C F' H' m (ext st sat'.fh)
end
section
variable {X : Cx} {W : WX} {e : Expr} {es : List Expr} {pos p : Pos}
theorem de_call {k n : Nat} {f : Addr} {fd : FuncData} {ps : List Str} {x : Str} {m : List D → R Ow} {fa : Ev → R (List D)} (F : FnOk X.prog X.w X.K X.mg X.base (L2.CX X.prog X.w) k f fd ps (spM X.KK X.mg n m)) (tk : Takes X W) (hr : Room k X.A) (hg : Gl X x) (hm : X.mg x = some (.ref f))
    (hk : PySem.W.keepIn X.K (.ref f) = true) (hb : Binds X.K fd ps []) (ha : DA X W (e :: es) fa) (hn : ∀ ds env, fa env = .ok ds → ds.length = n)
    (hdb : (x == ("__debug__" : Str)) = false := by decide) (he : starEach (e :: es) X.env = (false, eval e X.env) :: starEach es X.env := by rfl) (hpl : (backTo pos (starEach es X.env)).any (·.1) = false := by rfl) :
    DE X W (.Call (.Name x p) (e :: es) [] pos) (eB fa m) := by
  obtain ⟨t, pa, s⟩ := ha
  refine ⟨_, pe_callS F hr hg hm hk hb (fun σ => passAt tk σ) pa hdb he hpl, fun F0 H σ env fp Q sat hp => ?_⟩
  refine s.choose sat hp (fun z => z _) fun ds ed k => k _ fun vs F1 H1 sat1 q _ h1 => ?_
  refine ⟨F1, ds, sat1.fh, q, hn ds env ed, ?_⟩
  cases em : m ds with
  | no => rw [em] at h1; exact h1
  | ok r => rw [em] at h1; exact h1
  | ex c => rw [em] at h1; exact h1
theorem aNil_len {ds : List D} {env : Ev} (h : aNil env = .ok ds) : ds.length = 0 := by cases h; rfl
theorem aCons_len {n : Nat} {f : Ev → R D} {g : Ev → R (List D)} (ih : ∀ ds env, g env = .ok ds → ds.length = n) : ∀ ds env, aCons f g env = .ok ds → ds.length = n + 1 := fun ds env h => by
  unfold aCons at h
  cases e1 : f env with
  | no => rw [e1] at h; cases h
  | ex c => rw [e1] at h; cases h
  | ok d =>
    rw [e1] at h
    have h' : (g env).map (fun ds => d :: ds) = .ok ds := h
    cases e2 : g env with
    | no => rw [e2] at h'; cases h'
    | ex c => rw [e2] at h'; cases h'
    | ok es =>
      rw [e2] at h'
      cases h'
      simp [ih es env e2]

/-- the reading that a mirror is -/
def tOf (K : Kw) (Pst : Hp → Hp → L2.St → R α → (β → Hp → Prop) → Prop) (f : Ev → R α) : L2.St → Hp → (β → Hp → Prop) → Prop := fun σ H Q => ∃ F env fp, Sat K F H σ env fp ∧ Pst F H σ (f env) Q
def W0 : WX := fun _ _ _ _ => False
theorem PE.imp {X : Cx} {e : Expr} {t t' : TE} (h : PE X e t) (k : ∀ σ H Q, t' σ H Q → t σ H Q) : PE X e t' := ⟨fun pins s σ H Q I q => h.run pins s σ H Q I (k σ H Q q)⟩
theorem PTs.imp {X : Cx} {e : List Expr} {t t' : TT} (h : PTs X e t) (k : ∀ σ H Q, t' σ H Q → t σ H Q) : PTs X e t' := ⟨fun pins s σ H Q I q => h.run pins s σ H Q I (k σ H Q q)⟩
theorem DE.can {X : Cx} {W : WX} {e : Expr} {f : Ev → R Ow} (h : DE X W e f) : PE X e (tOf X.KK (Post X W (POw X.KK)) f) := by
  obtain ⟨t, p, s⟩ := h
  refine PE.imp p ?_
  rintro σ H Q ⟨F, env, fp, sat, h⟩
  exact s F H σ env fp Q sat h
/-- a clause's tests -/
def DTs (X : Cx) (W : WX) (ifs : List Expr) (f : Ev → R Bool) : Prop := ∃ t, PTs X ifs t ∧ Sm X W PTb t f
def cYes (_ : Ev) : R Bool := .ok true
theorem dts_nil : DTs X W [] cYes := ⟨_, pts_nil, fun F H σ env fp Q sat h => h true F H (.refl sat.fh) rfl⟩
theorem DTs.can {X : Cx} {W : WX} {e : List Expr} {f : Ev → R Bool} (h : DTs X W e f) : L2.PTs X e (tOf X.KK (Post X W PTb) f) := by
  obtain ⟨t, p, s⟩ := h
  refine PTs.imp p ?_
  rintro σ H Q ⟨F, env, fp, sat, h⟩
  exact s F H σ env fp Q sat h
def wipeE (env : Ev) : List Nat → Ev
  | [] => env
  | v :: vs => (wipeE env vs).set v none
theorem set_none_len {α : Type} {l : List (Option α)} {i : Nat} (h : ¬ i < l.length) (x : Option α) : l.set i x = l := List.set_eq_of_length_le (by omega)
theorem wipe_sat {K : Kw} {F H : Hp} {σ : L2.St} {env : Ev} {fp : List Addr} (sat : Sat K F H σ env fp) : ∀ vs : List Nat, ∃ fp', Sat K F H (wipe σ vs) (wipeE env vs) fp' ∧ ∀ b ∈ fp', b ∈ fp
  | [] => ⟨fp, sat, fun _ z => z⟩
  | v :: vs => by
    obtain ⟨fp1, s1, h1⟩ := wipe_sat sat vs
    by_cases hi : v < (wipeE env vs).length
    · obtain ⟨fr, fo, a1, a2, a3, a3', a4, a5, a6⟩ := s1.en.put hi s1.nd
      have e3 := (a6 F H [] [] (StepS.of_ext (.refl sat.fh) []) fun _ _ => by simp).1 none
      exact ⟨fr, ⟨sat.fh, e3, a3⟩, fun b hb => h1 b (a1 b hb)⟩
    · refine ⟨fp1, ?_, h1⟩
      show Sat K F H ((wipe σ vs).set v none) ((wipeE env vs).set v none) fp1
      rw [set_none_len hi, set_none_len (by rw [s1.en.len]; exact hi)]
      exact s1
theorem wipe_get : ∀ (σ : L2.St) (vs : List Nat) (j : Nat), (wipe σ vs)[j]? = if j ∈ vs then (σ[j]?).map (fun _ => none) else σ[j]?
  | σ, [], j => by simp [wipe]
  | σ, v :: vs, j => by
    show ((wipe σ vs).set v none)[j]? = _
    by_cases hj : v = j
    · subst hj
      by_cases hl : v < (wipe σ vs).length
      · rw [List.getElem?_set_self hl]
        rw [wipe_length] at hl
        simp [List.getElem?_eq_getElem hl]
      · rw [set_none_len hl, wipe_get σ vs v]
        rw [wipe_length] at hl
        have e : σ[v]? = none := List.getElem?_eq_none (by omega)
        simp [e]
    · rw [List.getElem?_set_ne hj, wipe_get σ vs j]
      simp [Ne.symm hj]
theorem wipe_off {σ σ' : L2.St} {ix vs : List Nat} (h : Off ix (wipe σ vs) σ') (hs : ∀ i ∈ ix, i ∈ vs) : wipe σ' vs = wipe σ vs := by
  refine List.ext_getElem? fun j => ?_
  rw [wipe_get σ', wipe_get σ]
  by_cases hj : j ∈ vs
  · rw [if_pos hj, if_pos hj]
    have hl := h.1
    rw [wipe_length] at hl
    by_cases hb : j < σ.length
    · rw [List.getElem?_eq_getElem hb, List.getElem?_eq_getElem (by omega : j < σ'.length)]; rfl
    · rw [List.getElem?_eq_none (by omega), List.getElem?_eq_none (by omega)]
  · rw [if_neg hj, if_neg hj, h.2 j fun z => hj (hs j z), wipe_get σ, if_neg hj]
def noEx {α : Type} : R α → R α
  | .ex _ => .no
  | r => r
@[simp] theorem noEx_ok {α : Type} (a : α) : noEx (.ok a) = .ok a := rfl
def lcR (g : D → Ev → Option Ev) (c : Ev → R Bool) (e : Ev → R Ow) (env : Ev) : List D → R (List Ow)
  | [] => .ok []
  | d :: ds => match g d env with
    | none => .no
    | some env1 => (noEx (c env1)).bind fun b => if b = true then (noEx (e env1)).bind fun r => (lcR g c e env ds).map fun rs => r :: rs else lcR g c e env ds
def eLc (it : Ev → R (List D)) (g : D → Ev → Option Ev) (c : Ev → R Bool) (e : Ev → R Ow) (vs : List Nat) (env : Ev) : R Ow := (it env).bind fun ds => guard (ds.length ≤ sizeLine) ((noEx (lcR g c e (wipeE env vs) ds)).map Ow.l)
theorem OwnAll.snoc {K : Kw} {F H : Hp} {v : V} {r : Ow} {fr : List Addr} : ∀ {os : List Ow} {vs : List V} {fp : List Addr}, OwnAll K F H vs os fp → OwnAt K F H v r fr → fp.Nodup → fr.Nodup → (∀ b ∈ fr, b ∉ fp) → ∃ fp', OwnAll K F H (vs ++ [v]) (os ++ [r]) fp' ∧ fp'.Nodup ∧ ∀ b ∈ fp', b ∈ fp ∨ b ∈ fr
  | [], _, _, h, g, n1, n2, dj => by
    cases h
    exact ⟨fr ++ [], .cons g .nil, by simpa using n2, fun b hb => .inr (by simpa using hb)⟩
  | o :: os, _, _, h, g, n1, n2, dj => by
    cases h with
    | @cons _ _ _ _ f1 fs h1 h2 =>
      rw [List.nodup_append] at n1
      obtain ⟨m1, m2, m3⟩ := n1
      obtain ⟨fp', a, b, c⟩ := OwnAll.snoc h2 g m2 n2 fun b hb z => dj b hb (List.mem_append_right _ z)
      refine ⟨f1 ++ fp', .cons h1 a, ?_, fun x hx => ?_⟩
      · rw [List.nodup_append]
        refine ⟨m1, b, fun x hx y hy e => ?_⟩
        subst e
        rcases c x hy with z | z
        · exact m3 x hx x z rfl
        · exact dj x z (List.mem_append_left _ hx)
      · rcases List.mem_append.mp hx with z | z
        · exact .inl (List.mem_append_left _ z)
        · exact (c x z).imp (List.mem_append_right _) id
theorem de_lc_core {wi : TI} {g : D → Ev → Option Ev} {fi : Ev → R (List D)} {fc : Ev → R Bool} {fe : Ev → R Ow} {ix vs : List Nat} (si : Sm X W (PIt X.KK) wi fi) (hix : ∀ i ∈ ix, i ∈ vs) :
    Sm X W (POw X.KK) (tLc wi (tgOf X.KK ix g) (tOf X.KK (Post X W0 PTb) fc) (tOf X.KK (Post X W0 (POw X.KK)) fe) vs) (eLc fi g fc fe vs) := by
  intro F H σ env fp Q sat hp
  refine si.go sat hp fun items J F1 H1 sat1 wk _ h1 => ?_
  have wk : WalkF X.KK J F1 items := wk
  obtain ⟨hz, h2⟩ := guard_post h1
  intro Dd hD
  have hD1 : F1 Dd = none := free_of sat1.fh hD
  cases el : lcR g fc fe (wipeE env vs) items with
  | no => rw [el] at h2; exact h2.elim
  | ex c => rw [el] at h2; exact h2.elim
  | ok all =>
  rw [el] at h2
  have h2 : ∀ v F' H', Ext F1 H1 F' H' → POw X.KK H1 (.l all) v F' H' → Q v H' := h2
  let Iv : Nat → Hp → Prop := fun i H' => ∃ F' acc accO fa rest, Ext F1 H1 F' H' ∧ F' Dd = none ∧ H' Dd = some (.lst acc) ∧ OwnAll X.KK F' H' acc accO fa ∧ fa.Nodup ∧ Dd ∉ fa ∧ accO.length ≤ i ∧ (∀ b ∈ fa, H1 b = none) ∧ lcR g fc fe (wipeE env vs) (items.drop i) = .ok rest ∧ all = accO ++ rest
  refine ⟨fun i m H' => m = items.length - i ∧ i ≤ items.length ∧ Iv i H', ⟨items.length, by simp, Nat.zero_le _, F1, [], [], [], all, Ext.own sat1.fh hD _, hD1, upd_same, .nil, List.nodup_nil, by simp, Nat.le_refl _, (fun b z => nomatch z), el, rfl⟩, ?_⟩
  rintro i m H' ⟨rfl, hi, F', acc, accO, fa, rest, x, fD, hDd, ow, nd, nD, hl, fr, er, ea⟩
  by_cases hlt : i < items.length
  · refine .inr ⟨wk.go i F' H' hlt x.ff x.fh, Iv (i + 1), fun H2 z => ⟨items.length - (i + 1), by omega, rfl, hlt, z⟩, fun v H3 y => ?_⟩
    obtain ⟨d, F3, e1, x3, dp⟩ := wk.yld i F' H' v H3 hlt x.ff x.fh y
    have ed : items.drop i = d :: items.drop (i + 1) := by
      rw [List.drop_eq_getElem_cons hlt]
      have : items[i] = d := by rw [List.getElem?_eq_getElem hlt] at e1; exact Option.some.inj e1
      rw [this]
    rw [ed] at er
    unfold lcR at er
    cases eg : g d (wipeE env vs) with
    | none => rw [eg] at er; cases er
    | some env1 =>
    rw [eg] at er
    simp only at er
    obtain ⟨fpw, satw, subw⟩ := wipe_sat (sat1.ext (x.trans x3)) vs
    refine ⟨F3, _, fpw, d, env1, satw, dp, eg, fun σ2 fp2 sat2 sub2 off2 => ⟨wipe_off off2 hix, F3, env1, fp2, sat2, ?_⟩⟩
    cases ec : fc env1 with
    | no => rw [ec] at er; cases er
    | ex c => rw [ec] at er; cases er
    | ok b =>
    rw [ec] at er
    simp only [noEx_ok, R.bind_ok] at er
    intro v4 F4 H4 x4 ev4
    obtain rfl : v4 = b := ev4
    have xx4 := x3.trans x4
    cases v4 with
    | false =>
      rw [if_neg Bool.false_ne_true] at er ⊢
      have g1 := x.trans xx4
      refine ⟨F4, acc, accO, fa, rest, g1, ?_, xx4.hh _ _ hDd, ow.ext xx4, nd, nD, Nat.le_succ_of_le hl, fr, er, ea⟩
      cases q : F4 Dd with
      | none => rfl
      | some u =>
        rcases xx4.fn Dd u q with z | z
        · rw [fD] at z; cases z
        · rw [hDd] at z; cases z
    | true =>
      rw [if_pos rfl] at er ⊢
      refine ⟨F4, env1, fp2, sat2.ext x4, ?_⟩
      cases ee : fe env1 with
      | no => rw [ee] at er; cases er
      | ex c => rw [ee] at er; cases er
      | ok r =>
      rw [ee] at er
      simp only [noEx_ok, R.bind_ok] at er
      intro y5 F5 H5 x5 ⟨fr5, ow5, nd5, fresh5⟩
      have xx := xx4.trans x5
      have hD5 : H5 Dd = some (.lst acc) := xx.hh _ _ hDd
      have fD5 : F5 Dd = none := by
        cases q : F5 Dd with
        | none => rfl
        | some u =>
          rcases xx.fn Dd u q with z | z
          · rw [fD] at z; cases z
          · rw [hDd] at z; cases z
      have nD5 : Dd ∉ fr5 := fun z => by
        have := fresh5 Dd z
        rw [xx4.hh _ _ hDd] at this; cases this
      cases er2 : lcR g fc fe (wipeE env vs) (items.drop (i + 1)) with
      | no => rw [er2] at er; cases er
      | ex c => rw [er2] at er; cases er
      | ok rest2 =>
      rw [er2] at er
      cases er
      have la := OwnAll.len ow
      have stp : StepS F5 H5 [Dd] F5 (upd H5 Dd (.lst (acc ++ [y5]))) [] := ⟨Same.refl _, fun b o e n => by rw [upd_ne (fun z => n (by simp [z]))]; exact e, fun b o e => .inl e, fun b z => nomatch z⟩
      obtain ⟨fa', ow', nd', sub'⟩ := OwnAll.snoc (OwnAll.keep stp _ _ _ (ow.ext xx) fun b hb => by simp; exact fun z => nD (z ▸ hb)) (OwnAt.keep stp _ _ _ ow5 fun b hb => by simp; exact fun z => nD5 (z ▸ hb)) nd nd5 fun b hb z => by
        obtain ⟨_, vs', e⟩ := OwnAll.there _ _ _ ow b z
        have := xx4.hh.free (fresh5 b hb)
        rw [e] at this; cases this
      refine ⟨acc, hD5, by omega, F5, acc ++ [y5], accO ++ [r], fa', rest2, ⟨(x.trans xx).ff, fun b o e => ?_, (x.trans xx).fn, fun b o e => ?_⟩, fD5, upd_same, ow', nd', ?_, by simp; omega, fun b hb => ?_, er2, by simp [ea]⟩
      · rw [upd_ne (ne_of_none e hD)]; exact (x.trans xx).hh b o e
      · rw [upd_ne (ne_of_none e fD5)]; exact xx.fh b o e
      · intro z
        rcases sub' _ z with q | q
        · exact nD q
        · exact nD5 q
      · rcases sub' b hb with q | q
        · exact fr b q
        · exact x.hh.free (xx4.hh.free (fresh5 b q))
  · have e : i = items.length := by omega
    subst e
    rw [List.drop_length] at er
    cases er
    refine .inl ⟨wk.stop F' H' x.ff x.fh, h2 _ F' H' x ⟨Dd :: fa, ?_, List.nodup_cons.mpr ⟨nD, nd⟩, fun b hb => ?_⟩⟩
    · rw [ea, List.append_nil]; exact .l fD hDd ow
    · rcases List.mem_cons.mp hb with z | z
      · rw [z]; exact hD
      · exact fr b z
end
end Mir
end
set_option Elab.async false
set_option linter.all false
set_option maxRecDepth 100000
set_option maxHeartbeats 4000000
noncomputable section
namespace Mir
open PySem PySem.Spec L2

section
variable {K : Kw} {F H : Hp} {σ : L2.St} {env : Ev} {fp : List Addr}
theorem set_self {σ : L2.St} {i : Nat} {v : V} (h : σ[i]? = some (some v)) : σ.set i (some v) = σ := by
  refine List.ext_getElem? fun j => ?_
  by_cases hj : i = j
  · subst hj
    rw [List.getElem?_set_self (List.getElem?_eq_some_iff.mp h).1]
    exact h.symm
  · rw [List.getElem?_set_ne hj]
theorem mut_step {F H F1 H1 : Hp} {a : Addr} {vs vs' : List V} (x : Ext F H F1 H1) (h : H a = some (.lst vs)) : StepS F H [a] F1 (upd H1 a (.lst vs')) [] :=
  ⟨x.ff, fun b o e n => by rw [upd_ne (fun z => n (by simp [z]))]; exact x.hh b o e, fun b o e => (x.fn b o e).imp id .inr, fun b z => nomatch z⟩
theorem mut_free {F H F1 H1 : Hp} {a : Addr} {vs : List V} (x : Ext F H F1 H1) (hf : F a = none) (h : H a = some (.lst vs)) : F1 a = none := by
  cases q : F1 a with
  | none => rfl
  | some u =>
    rcases x.fn a u q with z | z
    · rw [hf] at z; cases z
    · rw [h] at z; cases z
theorem mut_same {F1 H1 : Hp} {a : Addr} {o : HO} (s : Same F1 H1) (hf : F1 a = none) : Same F1 (upd H1 a o) := fun b u e => by
  rw [upd_ne (ne_of_none e hf)]; exact s b u e
/-- the list in slot i, and what is left when it is changed -/
theorem Sat.mut (sat : Sat K F H σ env fp) {i : Nat} {os : List Ow} (hi : env[i]? = some (some (.l os))) : ∃ a vs fo, σ[i]? = some (some (.ref a)) ∧ F a = none ∧ H a = some (.lst vs) ∧ OwnAll K F H vs os fo ∧ fo.Nodup ∧ a ∉ fo ∧ (∀ b ∈ a :: fo, b ∈ fp) ∧
    ∀ F1 H1 vs' os' fo', Ext F H F1 H1 → OwnAll K F1 (upd H1 a (.lst vs')) vs' os' fo' → fo'.Nodup → (∀ b ∈ fo', b ∈ fo ∨ H b = none) → ∃ fp', StepS F H fp F1 (upd H1 a (.lst vs')) fp' ∧ Sat K F1 (upd H1 a (.lst vs')) σ (env.set i (some (.l os'))) fp' := by
  have hl : i < env.length := (List.getElem?_eq_some_iff.mp hi).1
  obtain ⟨fr, fo0, a1, a2, a3, a3', a4, a5, a6⟩ := sat.en.put hl sat.nd
  obtain ⟨v, e1, e2⟩ := a5 _ hi
  cases e2 with
  | @l a vs _ fo h1 h2 h3 =>
    obtain ⟨nd1, nd2⟩ := List.nodup_cons.mp a3'
    refine ⟨a, vs, fo, e1, h1, h2, h3, nd2, nd1, a2, fun F1 H1 vs' os' fo' x ow nd sub => ?_⟩
    have hf1 := mut_free x h1 h2
    have na' : a ∉ fo' := fun z => by
      rcases sub a z with q | q
      · exact nd1 q
      · rw [h2] at q; cases q
    have fresh : ∀ b, H b = none → b ∉ fr := fun b q z => by
      obtain ⟨_, w, e⟩ := sat.en.there b (a1 b z)
      rw [q] at e; cases e
    obtain ⟨fp', b1, b2, b3⟩ := (a6 F1 (upd H1 a (.lst vs')) [a] [] (mut_step x h2) fun b hb z => a4 b (by rw [List.mem_singleton.mp z]; exact List.mem_cons_self) hb).2 (.ref a) (.l os') (a :: fo') (.l hf1 upd_same ow) (List.nodup_cons.mpr ⟨na', nd⟩) fun b hb z => by
      rcases List.mem_cons.mp hb with q | q
      · subst q; exact a4 b List.mem_cons_self z
      · rcases sub b q with q | q
        · exact a4 b (List.mem_cons_of_mem _ q) z
        · exact fresh b q z
    rw [set_self e1] at b3
    refine ⟨fp', (mut_step x h2).mono (fun b hb => by rw [List.mem_singleton.mp hb]; exact a2 a List.mem_cons_self) |> fun s => ⟨s.ff, s.fr, s.fn, fun b hb => ?_⟩, mut_same x.fh hf1, b3, b1⟩
    rcases b2 b hb with q | q
    · rcases List.mem_cons.mp q with q | q
      · rw [q]; exact .inl (a2 a List.mem_cons_self)
      · rcases sub b q with q | q
        · exact .inl (a2 b (List.mem_cons_of_mem _ q))
        · exact .inr q
    · exact .inl (a1 b q)
/-- the items of an own list, behind a change at the list itself -/
theorem own_mut {F1 H1 : Hp} {a : Addr} {vs vs' : List V} {os : List Ow} {fo : List Addr} (x : Ext F H F1 H1) (h : H a = some (.lst vs)) (ow : OwnAll K F H vs os fo) (na : a ∉ fo) : OwnAll K F1 (upd H1 a (.lst vs')) vs os fo :=
  OwnAll.keep (mut_step x h) _ _ _ ow fun b hb z => na (by rw [← List.mem_singleton.mp z]; exact hb)
theorem own_mut1 {F1 H1 : Hp} {a : Addr} {vs vs' : List V} {v : V} {r : Ow} {fx : List Addr} (s : Same F1 H1) (hf : F1 a = none) (h : H1 a = some (.lst vs)) (ow : OwnAt K F1 H1 v r fx) (na : a ∉ fx) : OwnAt K F1 (upd H1 a (.lst vs')) v r fx :=
  OwnAt.keep (mut_step (.refl s) h) _ _ _ ow fun b hb z => na (by rw [← List.mem_singleton.mp z]; exact hb)
theorem OwnAll.get {F H : Hp} : ∀ {os : List Ow} {vs : List V} {fp : List Addr} {k : Nat} {o : Ow}, OwnAll K F H vs os fp → fp.Nodup → os[k]? = some o → ∃ (v : V) (fo fr : List Addr), vs[k]? = some v ∧ OwnAt K F H v o fo ∧ fo.Nodup ∧ fr.Nodup ∧ (∀ b ∈ fo, b ∈ fp) ∧ (∀ b ∈ fr, b ∈ fp) ∧ (∀ b ∈ fo, b ∉ fr) ∧
    ∀ F' H' fx fy v' o' fn, StepS F H fx F' H' fy → (∀ b ∈ fr, b ∉ fx) → OwnAt K F' H' v' o' fn → fn.Nodup → (∀ b ∈ fn, b ∉ fr) → ∃ fp', OwnAll K F' H' (vs.set k v') (os.set k o') fp' ∧ fp'.Nodup ∧ ∀ b ∈ fp', b ∈ fn ∨ b ∈ fr
  | [], _, _, k, o, h, nd, e => by simp at e
  | x :: os, _, _, 0, o, h, nd, e => by
    cases h with
    | @cons v vs _ _ f1 fs h1 h2 =>
      simp at e; subst e
      obtain ⟨n1, n2, n3⟩ := List.nodup_append.mp nd
      refine ⟨v, f1, fs, rfl, h1, n1, n2, fun b z => List.mem_append_left _ z, fun b z => List.mem_append_right _ z, fun b z q => n3 b z b q rfl, fun F' H' fx fy v' o' fn st dj ow nf df => ?_⟩
      refine ⟨fn ++ fs, .cons ow (OwnAll.keep st _ _ _ h2 dj), ?_, fun b hb => List.mem_append.mp hb⟩
      rw [List.nodup_append]
      exact ⟨nf, n2, fun a ha b hb e => df a ha (e ▸ hb)⟩
  | x :: os, _, _, k + 1, o, h, nd, e => by
    cases h with
    | @cons v vs _ _ f1 fs h1 h2 =>
      obtain ⟨n1, n2, n3⟩ := List.nodup_append.mp nd
      obtain ⟨v0, fo, fr, g1, g2, g3, g4, g5, g6, g7, g8⟩ := OwnAll.get (k := k) h2 n2 (by simpa using e)
      refine ⟨v0, fo, f1 ++ fr, by simpa using g1, g2, g3, ?_, fun b z => List.mem_append_right _ (g5 b z), fun b z => ?_, fun b z q => ?_, fun F' H' fx fy v' o' fn st dj ow nf df => ?_⟩
      · rw [List.nodup_append]; exact ⟨n1, g4, fun a ha b hb e => n3 a ha b (g6 b hb) e⟩
      · exact (List.mem_append.mp z).elim (List.mem_append_left _) fun z => List.mem_append_right _ (g6 b z)
      · rcases List.mem_append.mp q with q | q
        · exact n3 b q b (g5 b z) rfl
        · exact g7 b z q
      · obtain ⟨fp', c1, c2, c3⟩ := g8 F' H' fx fy v' o' fn st (fun b hb => dj b (List.mem_append_right _ hb)) ow nf fun b hb z => df b hb (List.mem_append_right _ z)
        refine ⟨f1 ++ fp', .cons (OwnAt.keep st _ _ _ h1 fun b hb => dj b (List.mem_append_left _ hb)) c1, ?_, fun b hb => ?_⟩
        · rw [List.nodup_append]
          refine ⟨n1, c2, fun a ha b hb e => ?_⟩
          subst e
          rcases c3 a hb with z | z
          · exact df a z (List.mem_append_left _ ha)
          · exact n3 a ha a (g6 a z) rfl
        · rcases List.mem_append.mp hb with z | z
          · exact .inr (List.mem_append_left _ z)
          · exact (c3 b z).imp id (List.mem_append_right _)
end
section
variable {X : Cx} {W : WX} {S : Nat → Bool} {e e1 e2 : Expr} {pos cpos apos npos : Pos} {x : Str}
def ownL (i : Nat) (env : Ev) (k : List Ow → SR) : SR := match env[i]? with
  | some (some (.l os)) => k os
  | _ => .no
theorem ownL_post {σ : L2.St} {F H : Hp} {fp : List Addr} {D : Ends} {i : Nat} {env : Ev} {k : List Ow → SR} (h : PostS X W S σ F H fp D (ownL i env k)) : ∃ os, env[i]? = some (some (.l os)) ∧ PostS X W S σ F H fp D (k os) := by
  unfold ownL at h
  split at h
  · exact ⟨_, ‹_›, h⟩
  · exact h.elim
/-- x.append(e) -/
def sApp (i : Nat) (f : Ev → R Ow) (env : Ev) : SR := ownL i env fun os => (f env).st env fun r => if os.length < sizeLine then .nx (env.set i (some (.l (os ++ [r])))) else .no
theorem ds_app {f : Ev → R Ow} (i : Nat) (he : DE X W e f) (hN : X.N[i]? = some x := by rfl) (hv : Vis X.env.scope x := by first | exact Or.inl rfl | exact Or.inr (Or.inl rfl) | exact Or.inr (Or.inr rfl)) (hd : (x == ("__debug__" : Str)) = false := by decide) (hcd : (x == ("__classdict__" : Str)) = false := by decide)
    (hbase : attributeBase (.Name x npos) "append" X.env (eval (.Name x npos) X.env) = eval (.Name x npos) X.env := by rfl)
    (hfew : ((backTo cpos (starEach [e] X.env)).all (fun x => !x.1) && (backToKw cpos (keywordEach [] X.env)).all (fun x => x.1.isSome) && decide ([e].length + ([] : List Keyword).length + (if ([] : List Keyword).isEmpty then 0 else 1) < 30)) = true := by rfl)
    (hline : (apos.endLine == cpos.line) = true := by rfl) (hs : starEach [e] X.env = (false, eval e X.env) :: starEach [] X.env := by rfl) (hplain : (backTo cpos (starEach [] X.env)).any (·.1) = false := by rfl)
    (hsw : swapsWith (.Call (.Attribute (.Name x npos) "append" apos) [e] [] cpos) none pos.line X.env = pure false := by rfl) : DS X W S (.Expr (.Call (.Attribute (.Name x npos) "append" apos) [e] [] cpos) pos) (sApp i f) := by
  obtain ⟨t, p, s⟩ := he
  refine ⟨_, ps_expr (pe_bm PySem.F.plainAttrs_list PySem.F.slot_list_append PySem.F.type_list_append mt_append (pe_var hN hv hd hcd) (pa_cons p pa_nil hs) hbase hfew hline hs hplain) hsw, fun F H σ env fp D sat h => ?_⟩
  obtain ⟨os, eo, h⟩ := ownL_post h
  obtain ⟨a, vs, fo, c1, c0, c2, c3, c4, c5, c6, c7⟩ := sat.mut eo
  refine ⟨.ref a, c1, .inl ⟨rfl, vs, SqL.of c2⟩, ?_⟩
  refine s F H σ env fp _ sat ?_
  cases ef : f env with
  | no => rw [ef] at h; exact h
  | ex c => rw [ef] at h; exact fun C F' H' m x => h C σ F' H' fp m (.refl _ _) (StepS.of_ext x fp) (sat.ext x)
  | ok r =>
    rw [ef] at h
    intro v F1 H1 x1 ⟨fx, ow, nx, fr⟩
    have h2 : PostS X W S σ F H fp D (if os.length < sizeLine then .nx (env.set i (some (.l (os ++ [r])))) else .no) := h
    split at h2
    · have la := OwnAll.len c3
      have hb := x1.hh _ _ c2
      obtain ⟨fo', g1, g2, g3⟩ := OwnAll.snoc (own_mut (vs' := vs ++ [v]) x1 c2 c3 c5) (own_mut1 x1.fh (mut_free x1 c0 c2) hb ow fun z => by rw [fr a z] at c2; cases c2) c4 nx fun b hb z => by
        obtain ⟨_, w, e⟩ := OwnAll.there _ _ _ c3 b z
        rw [fr b hb] at e; cases e
      obtain ⟨fp', st, sat'⟩ := c7 F1 H1 (vs ++ [v]) (os ++ [r]) fo' x1 g1 g2 fun b hb => (g3 b hb).imp id (fr b)
      exact ⟨a, vs, v, rfl, rfl, hb, by omega, h2 σ F1 _ fp' (.refl _ _) st sat'⟩
    · exact h2.elim
def asL : D → R (List D)
  | .list ds => .ok ds
  | _ => .no
@[simp] theorem asL_list (ds : List D) : asL (.list ds) = .ok ds := rfl
def sExt (i : Nat) (f : Ev → R D) (env : Ev) : SR := ownL i env fun os => (f env).st env fun d => (asL d).st env fun ds => if os.length + ds.length ≤ sizeLine then .nx (env.set i (some (.l (os ++ ds.map Ow.d)))) else .no
/-- x[k] = e -/
def putAt (i : Nat) (env : Ev) (os : List Ow) (r : Ow) : D → SR
  | .int k => match ixN os.length k with
    | some j => .nx (env.set i (some (.l (os.set j r))))
    | none => .no
  | _ => .no
def sPut (i : Nat) (f : Ev → R Ow) (g : Ev → R D) (env : Ev) : SR := (f env).st env fun r => ownL i env fun os => (g env).st env (putAt i env os r)
theorem OwnAll.set {K : Kw} {F H : Hp} {os : List Ow} {vs : List V} {fp : List Addr} {j : Nat} {v : V} {r : Ow} {fx : List Addr} (s : Same F H) (h : OwnAll K F H vs os fp) (nd : fp.Nodup) (hj : j < os.length) (ow : OwnAt K F H v r fx) (nx : fx.Nodup) (dj : ∀ b ∈ fx, b ∉ fp) :
    ∃ fp', OwnAll K F H (vs.set j v) (os.set j r) fp' ∧ fp'.Nodup ∧ ∀ b ∈ fp', b ∈ fp ∨ b ∈ fx := by
  obtain ⟨v0, fo, fr, g1, g2, g3, g4, g5, g6, g7, g8⟩ := OwnAll.get (k := j) h nd (List.getElem?_eq_getElem hj)
  obtain ⟨fp', a, b, c⟩ := g8 F H [] [] v r fx (StepS.of_ext (.refl s) []) (fun _ _ => by simp) ow nx fun b hb z => dj b hb (g6 b z)
  exact ⟨fp', a, b, fun b hb => (c b hb).elim .inr fun z => .inl (g6 b z)⟩
theorem pg_subV {i : Nat} {ti : TE} {k : Expr} {tpos : Pos} (hk : PE X k ti) (hN : X.N[i]? = some x) (hv : Vis X.env.scope x) (hd : (x == ("__debug__" : Str)) = false) (hcd : (x == ("__classdict__" : Str)) = false)
    (ha : ∀ v, assign (.Subscript (.Name x npos) k tpos) X.env v = (do
      let ov ← holding [v] (eval (.Name x npos) X.env)
      let iv ← holding [v, ov] (eval k X.env)
      standAt tpos
      holding [v, ov, iv] (setItem ov iv v)
      release [v, ov, iv] [])) : PG X (.Subscript (.Name x npos) k tpos) (L2.gSub (tVar i) ti rSetL) := pg_sub (pe_var hN hv hd hcd) hk set_list ha
theorem ds_put {f : Ev → R Ow} {g : Ev → R D} {k : Expr} {tpos : Pos} (i : Nat) (he : DE X W e f) (hk : DF X W k g) (hN : X.N[i]? = some x := by rfl) (hv : Vis X.env.scope x := by first | exact Or.inl rfl | exact Or.inr (Or.inl rfl) | exact Or.inr (Or.inr rfl)) (hd : (x == ("__debug__" : Str)) = false := by decide) (hcd : (x == ("__classdict__" : Str)) = false := by decide)
    (ha : ∀ v, assign (.Subscript (.Name x npos) k tpos) X.env v = (do
      let ov ← holding [v] (eval (.Name x npos) X.env)
      let iv ← holding [v, ov] (eval k X.env)
      standAt tpos
      holding [v, ov, iv] (setItem ov iv v)
      release [v, ov, iv] []) := by intro _; rfl)
    (hs : swapsWithSole [.Subscript (.Name x npos) k tpos] e pos.line X.env = pure false := by rfl) (hw : swappedStores [.Subscript (.Name x npos) k tpos] e X.env = pure none := by rfl)
    (h1 : (assignEach [.Subscript (.Name x npos) k tpos] X.env).map (·.2) = [assign (.Subscript (.Name x npos) k tpos) X.env] := by rfl) : DS X W S (.Assign [.Subscript (.Name x npos) k tpos] e pos) (sPut i f g) := by
  obtain ⟨t, p, s⟩ := he
  obtain ⟨t', p', s'⟩ := hk
  refine ⟨_, ps_asg p (pg_subV p' hN hv hd hcd ha) hs hw h1, fun F H σ env fp D sat h => ?_⟩
  refine s F H σ env fp _ sat ?_
  unfold sPut at h
  cases ef : f env with
  | no => rw [ef] at h; exact h
  | ex c => rw [ef] at h; exact fun C F' H' m x => h C σ F' H' fp m (.refl _ _) (StepS.of_ext x fp) (sat.ext x)
  | ok r =>
    rw [ef] at h
    intro v F1 H1 x1 ⟨fx, ow, nx, fr⟩
    have h1 : PostS X W S σ F H fp D (ownL i env fun os => (g env).st env (putAt i env os r)) := h
    obtain ⟨os, eo, h2⟩ := ownL_post h1
    obtain ⟨a, vs, fo, c1, c0, c2, c3, c4, c5, c6, c7⟩ := sat.mut eo
    refine ⟨.ref a, c1, ?_⟩
    refine s' F1 H1 σ env fp _ (sat.ext x1) ?_
    cases eg : g env with
    | no => rw [eg] at h2; exact h2.elim
    | ex c => rw [eg] at h2; exact fun C F' H' m x => h2 C σ F' H' fp m (.refl _ _) (StepS.of_ext (x1.trans x) fp) (sat.ext (x1.trans x))
    | ok d =>
      rw [eg] at h2
      have h2 : PostS X W S σ F H fp D (putAt i env os r d) := h2
      intro w F2 H2 x2 q
      have x := x1.trans x2
      cases d with
      | int k =>
        cases hj : ixN os.length k with
        | none => unfold putAt at h2; simp only at h2; rw [hj] at h2; exact h2.elim
        | some j =>
          unfold putAt at h2; simp only at h2; rw [hj] at h2
          cases dp_int q
          have la := OwnAll.len c3
          have hb := x.hh _ _ c2
          have hjl : j < os.length := (ixN_seq hj).2.1
          have f2 := mut_free x c0 c2
          have na : a ∉ fx := fun z => by rw [fr a z] at c2; cases c2
          obtain ⟨fo', g1, g2, g3⟩ := OwnAll.set (j := j) (mut_same x.fh f2) (own_mut (vs' := vs.set j v) x c2 c3 c5) c4 hjl (own_mut1 (vs' := vs.set j v) x.fh f2 hb (ow.ext x2) na) nx fun b hb z => by
            obtain ⟨_, w, e⟩ := OwnAll.there _ _ _ c3 b z
            rw [fr b hb] at e; cases e
          obtain ⟨fp', st, sat'⟩ := c7 F2 H2 (vs.set j v) (os.set j r) fo' x g1 g2 fun b hb => (g3 b hb).imp id (fr b)
          exact ⟨a, vs, k, j, rfl, rfl, hb, by rw [la]; exact hj, h2 σ F2 _ fp' (.refl _ _) st sat'⟩
      | _ => exact h2.elim
end
end Mir
end
set_option Elab.async false
set_option linter.all false
set_option maxRecDepth 100000
set_option maxHeartbeats 4000000
noncomputable section
namespace Mir
open PySem PySem.Spec L2

def PAs (K : Kw) (_ : Hp) (r : Ow) (v : V) (F' H' : Hp) : Prop := ∃ fp, OwnAt K F' H' v r fp
instance {K : Kw} : Anti (PAs K) := ⟨fun _ h => h⟩
def DP (X : Cx) (W : WX) (e : Expr) (f : Ev → R Ow) : Prop := ∃ t, PE X e t ∧ Sm X W (PAs X.KK) t f
section
variable {X : Cx} {W : WX} {S : Nat → Bool} {e a b : Expr} {pos cpos apos npos : Pos} {x : Str}
theorem dp_var (i : Nat) {x : Str} (hN : X.N[i]? = some x := by rfl) (hv : Vis X.env.scope x := by first | exact Or.inl rfl | exact Or.inr (Or.inl rfl) | exact Or.inr (Or.inr rfl)) (hd : (x == ("__debug__" : Str)) = false := by decide)
    (hcd : (x == ("__classdict__" : Str)) = false := by decide) : DP X W (.Name x pos) (eVarO i) := by
  refine ⟨_, pe_var hN hv hd hcd, fun F H σ env fp Q sat h => ?_⟩
  have h' : Post X W (PAs X.KK) F H σ ((eVarO i env).bind fun o => .ok o) Q := by
    cases e : eVarO i env <;> rw [e] at h <;> exact h
  obtain ⟨o, he, _, h2⟩ := eVarO_ok h'
  obtain ⟨v, fo, h1, h3, _⟩ := sat.en.get he
  exact ⟨v, h1, h2 v F H (.refl sat.fh) ⟨fo, h3⟩⟩
def ixO : Ow → D → R Ow
  | .l os, .int k => match atI os k with
    | some o => .ok o
    | none => .no
  | _, _ => .no
def eIxO (f : Ev → R Ow) (g : Ev → R D) (env : Ev) : R Ow := (f env).bind fun o => (g env).bind fun d => ixO o d
theorem OwnAll.at {K : Kw} {F H : Hp} {os : List Ow} {vs : List V} {fp : List Addr} {k : Int} {o : Ow} (h : OwnAll K F H vs os fp) (e : atI os k = some o) : ∃ v fo, atI vs k = some v ∧ OwnAt K F H v o fo := by
  have hl := OwnAll.len h
  unfold atI at e ⊢
  rw [hl]
  cases hj : ixN os.length k with
  | none => rw [hj] at e; cases e
  | some j =>
    rw [hj] at e
    have e : os[j]? = some o := e
    have : ∀ {os : List Ow} {vs : List V} {fp : List Addr} {j : Nat}, OwnAll K F H vs os fp → os[j]? = some o → ∃ v fo, vs[j]? = some v ∧ OwnAt K F H v o fo := by
      intro os
      induction os with
      | nil => intro vs fp j h e; simp at e
      | cons q os ih =>
        intro vs fp j h e
        cases h with
        | cons h1 h2 =>
          cases j with
          | zero => simp at e; subst e; exact ⟨_, _, rfl, h1⟩
          | succ j =>
            obtain ⟨v, fo, a, b⟩ := ih h2 (by simpa using e)
            exact ⟨v, fo, by simpa using a, b⟩
    exact this h e
theorem dp_ix {f : Ev → R Ow} {g : Ev → R D} (ha : DP X W a f) (hb : DV X W b g) (hs : PlainIx b := by exact fun _ _ => rfl) : DP X W (.Subscript a b pos) (eIxO f g) := by
  obtain ⟨ta, pa, sa⟩ := ha
  obtain ⟨tb, pb, sb⟩ := hb
  refine ⟨_, pe_ix ix_list pa pb hs, fun F H σ env fp Q sat h => ?_⟩
  unfold eIxO at h
  refine sa.go sat h fun o v F1 H1 sat1 q _ h1 => ?_
  refine sb.go sat1 h1 fun d u F2 H2 sat2 q2 x2 h2 => ?_
  unfold ixO at h2
  split at h2
  · rename_i os k
    split at h2
    · rename_i o' he
      obtain ⟨fo, ow⟩ := q
      cases dp_int q2
      cases ow with
      | l m1 m2 m3 =>
        obtain ⟨w, fw, e1, e2⟩ := OwnAll.at m3 he
        exact ⟨_, _, _, _, rfl, rfl, SqL.of (x2.hh _ _ m2), e1, h2 w F2 H2 (.refl sat2.fh) ⟨fw, e2.ext x2⟩⟩
    · exact h2.elim
  · exact h2.elim
theorem dl_dp {f : Ev → R Ow} (h : DP X W e f) : DL X W e (eB f shD) := by
  obtain ⟨t, p, s⟩ := h
  refine ⟨t, p, fun F H σ env fp Q sat h => s F H σ env fp Q sat (Post.thru h fun d _ h' v F' H' x ⟨fp, q⟩ => ?_)⟩
  obtain ⟨r, e2⟩ := shD_ok h'
  rw [e2] at h'
  exact h' v F' H' x (own_seq x.fh q e2)
theorem dv_dp {f : Ev → R Ow} (h : DP X W e f) : DV X W e (eM f viewD) := by
  obtain ⟨t, p, s⟩ := h
  refine ⟨t, p, Sm.map s fun H o v F' H' sm ⟨fp, q⟩ => ⟨viewD o, rfl, OwnAt.view sm o v fp q⟩⟩

def repO : Ow → D → R Ow
  | .l os, .int k => match unDs os with
    | some ds => guard (-(2 ^ 63) ≤ k ∧ k < 2 ^ 63 ∧ os.length * k.toNat ≤ sizeLine) (.ok (.l ((List.replicate k.toNat ds).flatten.map Ow.d)))
    | none => .no
  | _, _ => .no
def eRep (f : Ev → R Ow) (g : Ev → R D) (env : Ev) : R Ow := (f env).bind fun o => (g env).bind fun d => repO o d
theorem DpAll.rep {K : Kw} {F : Hp} {vs : List V} {ds : List D} (h : DpAll K F vs ds) : ∀ n : Nat, DpAll K F (List.replicate n vs).flatten (List.replicate n ds).flatten
  | 0 => .nil
  | n + 1 => by
    rw [List.replicate_succ, List.replicate_succ, List.flatten_cons, List.flatten_cons]
    exact DpAll.append h (DpAll.rep h n)
theorem de_rep {f : Ev → R Ow} {g : Ev → R D} (ha : DE X W a f) (hb : DV X W b g) : DE X W (.BinOp a .Mult b pos) (eRep f g) := by
  obtain ⟨ta, pa, sa⟩ := ha
  obtain ⟨tb, pb, sb⟩ := hb
  refine ⟨_, pe_op op_rep pa pb, fun F H σ env fp Q sat h => ?_⟩
  unfold eRep at h
  refine sa.go sat h fun o v F1 H1 sat1 q _ h1 => ?_
  refine sb.go sat1 h1 fun d u F2 H2 sat2 q2 x2 h2 => ?_
  unfold repO at h2
  split at h2
  · rename_i os k
    split at h2
    · rename_i ds he
      obtain ⟨⟨c1, c2, c3⟩, h3⟩ := guard_post h2
      obtain ⟨fo, ow, _, _⟩ := q
      cases dp_int q2
      have eo := unDs_eq he
      subst eo
      cases ow with
      | l m1 m2 m3 =>
        have la := OwnAll.len m3
        refine ⟨_, _, _, rfl, rfl, x2.hh _ _ m2, c1, c2, by rw [la]; exact c3, fun p hp => ?_⟩
        have d2 := DpAll.rep (dpaUp (OwnAll.dp m3).1 x2.ff) k.toNat
        exact h3 _ F2 _ (Ext.own sat2.fh hp _) (own_l sat2.fh hp d2)
    · exact h2.elim
  · exact h2.elim

def eAug (h : D → D → Option D) (i : Nat) (f : Ev → R D) (env : Ev) : R D := (eVar i env).bind fun x => (f env).bind fun y => R.of (h x y)
def sAug (h : D → D → Option D) (i : Nat) (f : Ev → R D) (env : Ev) : SR := (eAug h i f env).st env fun d => if i < env.length then .nx (env.set i (some (.d d))) else .no
theorem ds_aug {f : Ev → R D} {g : D → D → Option D} {op : Operator} {r : R2} (i : Nat) (ho : OpR X (inplaceOp op) r) (hs : OpS X.KK r g) (hN : X.N.Nodup) (he : DV X W e f) (hi : X.N[i]? = some x := by rfl) (hx : Loc X.env.scope x := by first | exact Or.inl rfl | exact Or.inr rfl)
    (hf : X.fn x = true ∨ X.env.scope.names.lookup x = some .local := by first | exact .inl rfl | exact .inr rfl | assumption) (hS : S i = true := by rfl) : DS X W S (.AugAssign (.Name x npos) op e pos) (sAug g i f) := by
  obtain ⟨t, p, s⟩ := he
  refine ⟨_, ps_aug hN hi hx p ho hf, fun F H σ env fp D sat h => ?_⟩
  unfold sAug eAug at h
  cases e1 : eVar i env with
  | no => rw [e1] at h; exact h.elim
  | ex c => exact absurd e1 (by unfold eVar; split <;> intro z <;> cases z)
  | ok dx =>
    rw [e1] at h
    have e2 : env[i]? = some (some (.d dx)) := by
      unfold eVar at e1
      split at e1
      · rename_i d he; cases e1; exact he
      · cases e1
    obtain ⟨v, fo, h1, h2, _⟩ := sat.en.get e2
    refine ⟨v, h1, ?_⟩
    refine s F H σ env fp _ sat ?_
    cases ef : f env with
    | no => rw [ef] at h; exact h
    | ex c => rw [ef] at h; exact fun C F' H' m x => h C σ F' H' fp m (.refl _ _) (StepS.of_ext x fp) (sat.ext x)
    | ok dy =>
      rw [ef] at h
      have h : PostS X W S σ F H fp D ((R.of (g dx dy)).st env fun d => if i < env.length then .nx (env.set i (some (.d d))) else .no) := h
      intro u F1 H1 x1 q
      cases eg : g dx dy with
      | none => rw [eg] at h; exact h.elim
      | some dz =>
        rw [eg] at h
        have h : PostS X W S σ F H fp D (if i < env.length then .nx (env.set i (some (.d dz))) else .no) := h
        split at h
        · cases h2 with
          | d hd =>
            refine hs H1 v u dx dy dz _ (dpUp (dpUp hd x1.ff) x1.fh) q eg fun z q2 => ?_
            obtain ⟨fp', s1, s2⟩ := put_step sat x1 (.d (q2 F1)) List.nodup_nil (fun _ z => nomatch z) ‹_›
            exact h _ F1 H1 fp' (.set hS _) s1 s2
        · exact h.elim
end
end Mir
end
set_option Elab.async false
set_option linter.all false
set_option maxRecDepth 100000
set_option maxHeartbeats 4000000
noncomputable section
namespace Mir
open PySem PySem.Spec L2

section
variable {K : Kw} {F H : Hp} {σ : L2.St} {env : Ev} {fp : List Addr}
theorem set_selfV {vs : List V} {j : Nat} {v : V} (h : vs[j]? = some v) : vs.set j v = vs := by
  refine List.ext_getElem? fun k => ?_
  by_cases hk : j = k
  · subst hk
    rw [List.getElem?_set_self (List.getElem?_eq_some_iff.mp h).1]
    exact h.symm
  · rw [List.getElem?_set_ne hk]
theorem Sat.mut1 (sat : Sat K F H σ env fp) {i j : Nat} {os os1 : List Ow} (hi : env[i]? = some (some (.l os))) (hj : os[j]? = some (.l os1)) : ∃ a0 vs0 a vs fo, σ[i]? = some (some (.ref a0)) ∧ H a0 = some (.lst vs0) ∧ vs0.length = os.length ∧ vs0[j]? = some (.ref a) ∧ F a = none ∧ H a = some (.lst vs) ∧ OwnAll K F H vs os1 fo ∧ fo.Nodup ∧ a ∉ fo ∧
    ∀ F1 H1 vs' os' fo', Ext F H F1 H1 → OwnAll K F1 (upd H1 a (.lst vs')) vs' os' fo' → fo'.Nodup → (∀ b ∈ fo', b ∈ fo ∨ H b = none) → ∃ fp', StepS F H fp F1 (upd H1 a (.lst vs')) fp' ∧ Sat K F1 (upd H1 a (.lst vs')) σ (env.set i (some (.l (os.set j (.l os'))))) fp' := by
  have hl : i < env.length := (List.getElem?_eq_some_iff.mp hi).1
  obtain ⟨fr, fo0, a1, a2, a3, a3', a4, a5, a6⟩ := sat.en.put hl sat.nd
  obtain ⟨v, e1, e2⟩ := a5 _ hi
  cases e2 with
  | @l a0 vs0 _ fI h1 h2 h3 =>
    obtain ⟨nd1, nd2⟩ := List.nodup_cons.mp a3'
    obtain ⟨vj, fo1, fr1, g1, g2, g3, g4, g5, g6, g7, g8⟩ := OwnAll.get h3 nd2 hj
    cases g2 with
    | @l a vs _ fo m1 m2 m3 =>
      obtain ⟨nd3, nd4⟩ := List.nodup_cons.mp g3
      refine ⟨a0, vs0, a, vs, fo, e1, h2, OwnAll.len h3, g1, m1, m2, m3, nd4, nd3, fun F1 H1 vs' os' fo' x ow nd sub => ?_⟩
      have hf1 := mut_free x m1 m2
      have na' : a ∉ fo' := fun z => by
        rcases sub a z with q | q
        · exact nd3 q
        · rw [m2] at q; cases q
      have fresh : ∀ b, H b = none → b ∉ fr := fun b q z => by
        obtain ⟨_, w, e⟩ := sat.en.there b (a1 b z)
        rw [q] at e; cases e
      have fresh1 : ∀ b, H b = none → b ∉ fr1 := fun b q z => by
        obtain ⟨_, w, e⟩ := OwnAll.there _ _ _ h3 b (g6 b z)
        rw [q] at e; cases e
      have st := mut_step (vs' := vs') x m2
      obtain ⟨f1, k1, k2, k3⟩ := g8 F1 (upd H1 a (.lst vs')) [a] [] (.ref a) (.l os') (a :: fo') st (fun b hb z => g7 b (by rw [List.mem_singleton.mp z]; exact List.mem_cons_self) hb) (.l hf1 upd_same ow) (List.nodup_cons.mpr ⟨na', nd⟩) fun b hb z => by
        rcases List.mem_cons.mp hb with q | q
        · subst q; exact g7 b List.mem_cons_self z
        · rcases sub b q with q | q
          · exact g7 b (List.mem_cons_of_mem _ q) z
          · exact fresh1 b q z
      rw [set_selfV g1] at k1
      have sub1 : ∀ b ∈ f1, b ∈ fI ∨ H b = none := fun b hb => by
        rcases k3 b hb with q | q
        · rcases List.mem_cons.mp q with q | q
          · subst q; exact .inl (g5 b List.mem_cons_self)
          · exact (sub b q).imp (fun z => g5 b (List.mem_cons_of_mem _ z)) id
        · exact .inl (g6 b q)
      have ne : a ≠ a0 := fun e => nd1 (e ▸ g5 a List.mem_cons_self)
      have hf0 : F1 a0 = none := mut_free x h1 h2
      have n0 : a0 ∉ f1 := fun z => by
        rcases sub1 a0 z with q | q
        · exact nd1 q
        · rw [h2] at q; cases q
      have aIn : a ∈ a0 :: fI := List.mem_cons_of_mem _ (g5 a List.mem_cons_self)
      obtain ⟨fp', b1, b2, b3⟩ := (a6 F1 (upd H1 a (.lst vs')) [a] [] st fun b hb z => a4 b (by rw [List.mem_singleton.mp z]; exact aIn) hb).2 (.ref a0) (.l (os.set j (.l os'))) (a0 :: f1) (.l hf0 ((upd_ne (Ne.symm ne)).trans (x.hh _ _ h2)) k1) (List.nodup_cons.mpr ⟨n0, k2⟩) fun b hb z => by
        rcases List.mem_cons.mp hb with q | q
        · subst q; exact a4 b List.mem_cons_self z
        · rcases sub1 b q with q | q
          · exact a4 b (List.mem_cons_of_mem _ q) z
          · exact fresh b q z
      rw [set_self e1] at b3
      refine ⟨fp', (st.mono (fun b hb => by rw [List.mem_singleton.mp hb]; exact a2 a aIn)) |> fun s => ⟨s.ff, s.fr, s.fn, fun b hb => ?_⟩, mut_same x.fh hf1, b3, b1⟩
      rcases b2 b hb with q | q
      · rcases List.mem_cons.mp q with q | q
        · rw [q]; exact .inl (a2 a0 List.mem_cons_self)
        · exact (sub1 b q).imp (fun z => a2 b (List.mem_cons_of_mem _ z)) id
      · exact .inl (a1 b q)
end
section
variable {X : Cx} {W : WX} {S : Nat → Bool} {e k : Expr} {pos cpos apos npos tpos : Pos} {x : Str}
/-- x[k].m(args) at an own list of own lists: the item's place, and how it is changed -/
def own1 (i : Nat) (g : Ev → R D) (env : Ev) (c : List Ow → Nat → List Ow → SR) : SR := ownL i env fun os => (g env).st env fun d => match d with
  | .int k => match ixN os.length k with
    | some j => match os[j]? with
      | some (.l os1) => c os j os1
      | _ => .no
    | none => .no
  | _ => .no
def sApp1 (i : Nat) (g : Ev → R D) (f : Ev → R Ow) (env : Ev) : SR := own1 i g env fun os j os1 => (f env).st env fun r => if os1.length < sizeLine then .nx (env.set i (some (.l (os.set j (.l (os1 ++ [r])))))) else .no
/-- the base x[k] read: the rest is asked of the inner list -/
theorem own1_go {σ : L2.St} {F H : Hp} {fp : List Addr} {DD : Ends} {i : Nat} {env : Ev} {g : Ev → R D} {t : TE} {c : List Ow → Nat → List Ow → SR} {T : VK} (s : Sm X W (PVw X.KK) t g) (sat : Sat X.KK F H σ env fp) (h : PostS X W S σ F H fp DD (own1 i g env c))
    (q : ∀ os j os1 a F1 H1, env[i]? = some (some (.l os)) → os[j]? = some (.l os1) → Sat X.KK F1 H1 σ env fp → (∃ a0 vs0, σ[i]? = some (some (.ref a0)) ∧ H1 a0 = some (.lst vs0) ∧ vs0[j]? = some (.ref a)) → PostS X W S σ F1 H1 fp DD (c os j os1) → T (.ref a) H1) : tOp (rIxL X.KK) (tVar i) t σ H T := by
  obtain ⟨os, eo, h1⟩ := ownL_post h
  obtain ⟨v, fo, e1, e2, _⟩ := sat.en.get eo
  refine ⟨v, e1, ?_⟩
  cases e2 with
  | @l a0 vs0 _ f0 m1 m2 m3 =>
  refine s.st sat h1 fun d u F1 H1 sat1 q1 x1 h2 => ?_
  cases d with
  | int k =>
    cases dp_int q1
    cases hj : ixN os.length k with
    | none => simp only [hj] at h2; exact h2.elim
    | some j =>
      simp only [hj] at h2
      cases ho : os[j]? with
      | none => simp only [ho] at h2; exact h2.elim
      | some o =>
        cases o with
        | d _ => simp only [ho] at h2; exact h2.elim
        | m _ | t _ | k _ _ | n _ _ | o _ _ _ => simp only [ho] at h2; exact h2.elim
        | l os1 =>
          simp only [ho] at h2
          obtain ⟨a0', vs0', a, vs, fo', b1, b2, b3, b4, _⟩ := sat1.mut1 eo ho
          rw [e1] at b1
          cases b1
          have b2' := (x1.hh _ _ m2).symm.trans b2
          cases b2'
          refine ⟨_, _, _, _, rfl, rfl, SqL.of b2, ?_, q os j os1 a F1 H1 eo ho sat1 ⟨_, _, e1, b2, b4⟩ h2⟩
          unfold atI
          rw [b3, hj]
          exact b4
  | _ => exact h2.elim
theorem ds_app1 {g : Ev → R D} {f : Ev → R Ow} (i : Nat) (hk : DV X W k g) (he : DE X W e f) (hN : X.N[i]? = some x := by rfl) (hv : Vis X.env.scope x := by first | exact Or.inl rfl | exact Or.inr (Or.inl rfl) | exact Or.inr (Or.inr rfl)) (hd : (x == ("__debug__" : Str)) = false := by decide) (hcd : (x == ("__classdict__" : Str)) = false := by decide)
    (hs : PlainIx k := by exact fun _ _ => rfl)
    (hbase : attributeBase (.Subscript (.Name x npos) k tpos) "append" X.env (eval (.Subscript (.Name x npos) k tpos) X.env) = eval (.Subscript (.Name x npos) k tpos) X.env := by rfl)
    (hfew : ((backTo cpos (starEach [e] X.env)).all (fun x => !x.1) && (backToKw cpos (keywordEach [] X.env)).all (fun x => x.1.isSome) && decide ([e].length + ([] : List Keyword).length + (if ([] : List Keyword).isEmpty then 0 else 1) < 30)) = true := by rfl)
    (hline : (apos.endLine == cpos.line) = true := by rfl) (hst : starEach [e] X.env = (false, eval e X.env) :: starEach [] X.env := by rfl) (hplain : (backTo cpos (starEach [] X.env)).any (·.1) = false := by rfl)
    (hsw : swapsWith (.Call (.Attribute (.Subscript (.Name x npos) k tpos) "append" apos) [e] [] cpos) none pos.line X.env = pure false := by rfl) : DS X W S (.Expr (.Call (.Attribute (.Subscript (.Name x npos) k tpos) "append" apos) [e] [] cpos) pos) (sApp1 i g f) := by
  obtain ⟨t, p, s⟩ := he
  obtain ⟨t', p', s'⟩ := hk
  refine ⟨_, ps_expr (pe_bm PySem.F.plainAttrs_list PySem.F.slot_list_append PySem.F.type_list_append mt_append (pe_ix ix_list (pe_var hN hv hd hcd) p' hs) (pa_cons p pa_nil hst) hbase hfew hline hst hplain) hsw, fun F H σ env fp D sat h => ?_⟩
  refine own1_go s' sat h fun os j os1 a F1 H1 eo ho sat1 ⟨z0, zs, w1, w2, w3⟩ h2 => ?_
  obtain ⟨a0, vs0, a', vs, fo, c1, c2, c3, c4, c5, c6, c7, c8, c9, c10⟩ := sat1.mut1 eo ho
  rw [w1] at c1; cases c1
  rw [w2] at c2; cases c2
  rw [w3] at c4; cases c4
  refine ⟨.inl ⟨rfl, vs, SqL.of c6⟩, ?_⟩
  refine s F1 H1 σ env fp _ sat1 ?_
  cases ef : f env with
  | no => rw [ef] at h2; exact h2
  | ex c => rw [ef] at h2; exact fun C F' H' m x => h2 C σ F' H' fp m (.refl _ _) (StepS.of_ext x fp) (sat1.ext x)
  | ok r =>
    rw [ef] at h2
    intro v F2 H2 x2 ⟨fx, ow, nx, fr⟩
    simp only [R.st_ok] at h2
    split at h2
    · have hb := x2.hh _ _ c6
      have la := OwnAll.len c7
      obtain ⟨fo', g1, g2, g3⟩ := OwnAll.snoc (own_mut (vs' := vs ++ [v]) x2 c6 c7 c9) (own_mut1 x2.fh (mut_free x2 c5 c6) hb ow fun z => by rw [fr a z] at c6; cases c6) c8 nx fun b hb z => by
        obtain ⟨_, w, e⟩ := OwnAll.there _ _ _ c7 b z
        rw [fr b hb] at e; cases e
      obtain ⟨fp', st, sat'⟩ := c10 F2 H2 _ _ fo' x2 g1 g2 fun b hb => (g3 b hb).imp id (fr b)
      exact ⟨a, vs, v, rfl, rfl, hb, by omega, h2 σ F2 _ fp' (.refl _ _) st sat'⟩
    · exact h2.elim

theorem ds_setLc {elt tg iter : Expr} {ifs : List Expr} {scope : Scope} {own : List (Str × Nat)} {g : D → Ev → Option Ev} {fi : Ev → R (List D)} {fc : Ev → R Bool} {fe : Ev → R Ow} {ix : List Nat} {y : Str} {py spos : Pos} (i : Nat) (hc : X.calm = true) (hN : X.N.Nodup) (hi : DI X W tg iter fi) (ok : BlkOk X.N X.env.scope scope own)
    (hg : ∀ (s : Shared) (H : Hp) (C : Addr) (cl : List (Str × Addr)) (fp : List Addr), DG (X.blk s H scope (compEnvC scope cl C X.env) fp) tg ix g) (ht : ∀ (s : Shared) (H : Hp) (C : Addr) (cl : List (Str × Addr)) (fp : List Addr), DTs (X.blk s H scope (compEnvC scope cl C X.env) fp) W0 ifs fc)
    (he : ∀ (s : Shared) (H : Hp) (C : Addr) (cl : List (Str × Addr)) (fp : List Addr), DE (X.blk s H scope (compEnvC scope cl C X.env) fp) W0 elt fe) (hix : ∀ i ∈ ix, i ∈ own.map (·.2) := by decide) (hs : ∀ x, foldedSetIterable iter X.env x = pure x := by intro _; rfl)
    (hy : X.N[i]? = some y := by rfl) (hyl : X.env.scope.names.lookup y = some .local := by rfl) (hsw : swapsWith (.ListComp elt [⟨tg, iter, ifs, 0⟩] scope pos) (some (.Name y py)) spos.line X.env = pure true := by exact sw_true rfl rfl rfl (by decide +kernel)) (hS : S i = true := by rfl) :
    DS X W S (.Assign [.Name y py] (.ListComp elt [⟨tg, iter, ifs, 0⟩] scope pos) spos) (sSet i (eLc fi g fc fe (own.map (·.2)))) := by
  obtain ⟨wi, pi, si⟩ := hi
  refine ⟨_, ps_setLc (g := tgOf X.KK ix g) (tt := tOf X.KK (Post X W0 PTb) fc) (te := tOf X.KK (Post X W0 (POw X.KK)) fe) hc hN hy hyl hsw pi ok (fun s H C cl fp => hg s H C cl fp) (fun s H C cl fp => (ht s H C cl fp).can) (fun s H C cl fp => (he s H C cl fp).can) hs, fun F H σ env fp D sat h => ?_⟩
  refine de_lc_core si hix F H σ env fp _ sat ?_
  unfold sSet at h
  cases e : eLc fi g fc fe (own.map (·.2)) env with
  | no => rw [e] at h; exact h
  | ex c => rw [e] at h; exact fun C F' H' m x => h C σ F' H' fp m (.refl _ _) (StepS.of_ext x fp) (sat.ext x)
  | ok r =>
    rw [e] at h
    intro v F' H' x ⟨fx, q, nd, n⟩
    have h' : PostS X W S σ F H fp D (if i < env.length then .nx (env.set i (some r)) else .no) := h
    split at h'
    · obtain ⟨fp', s1, s2⟩ := put_step sat x q nd n ‹_›
      exact h' _ F' H' fp' (.set hS _) s1 s2
    · exact h'.elim
end
end Mir
end
set_option Elab.async false
set_option linter.all false
set_option maxRecDepth 100000
set_option maxHeartbeats 4000000
noncomputable section
namespace Mir
open PySem PySem.Spec PySem.W PySem.Calls PyProof.Rows PySem.SeqAt

section
variable {prog : Program} {w : World} {A : Around} {E : Value → Shared → Prop} {s : Shared}
end
section
variable {prog : Program} {w : World} {A : Around} {s : Shared}
end
end Mir
namespace Mir
open PySem PySem.Spec L2
section
variable {X : Cx} {W : WX}
end
end Mir
end
set_option Elab.async false
set_option linter.all false
set_option maxRecDepth 100000
set_option maxHeartbeats 4000000
noncomputable section
namespace Mir
open PySem PySem.Spec L2

open Classical in
section
variable {X : Cx} {W : WX} {S : Nat → Bool} {pos npos : Pos} {x : Str} {fs : Ev → SR}
end
end Mir
end
set_option Elab.async false
set_option linter.all false
set_option maxRecDepth 100000
set_option maxHeartbeats 4000000
noncomputable section
namespace Mir
open PySem PySem.Spec L2

def spL (K : Kw) (m : List D → R Ow) : Sp := fun vs H Q _ => ∃ F ds r, Same F H ∧ DpAll K F vs ds ∧ ds.length = 1 ∧ m ds = .ok r ∧ ∀ v F' H', Ext F H F' H' → POw K H r v F' H' → Q v H'
theorem fnOk_spL {P : Program} {w : World} {K : PySem.W.Frag} {mg : Str → Option Value} {base : Heap} {CX : CXT} {k : Nat} {f : Addr} {fd : FuncData} {ps : List Str} {m : List D → R Ow} (h : FnOk P w K mg base CX k f fd ps (spM ⟨K, w⟩ mg 1 m)) : FnOk P w K mg base CX k f fd ps (spL ⟨K, w⟩ m) :=
  h.imp fun vs H Q E ⟨F, ds, r, h1, h2, h3, h4, h5⟩ => ⟨F, ds, h1, h2, h3, by rw [h4]; exact h5⟩
theorem law_end {l : PySem.W.OpenLaw} {q : Program} {loose : List Str} {XP : (Str → Option Value) → Heap → Prop} {YP : World → Heap → Prop} {d : DefRec} {K : Params → PySem.W.Frag} {m : List D → R Ow} (k : Nat) (x : Str) (hn : l.most = some 63) (hdf : d.params.defaults = []) (hr : Room k callerA)
    (hY : ∀ (w : World) (h : Heap), YP w h → (K w.params).In h)
    (hm : ∀ ns : List Int, ns.length ≤ 63 → (∀ z ∈ ns, Builtin.Int.intBits z ≤ 1048576) → m [.list (ns.map .int)] = .ok (.d (.bool true)))
    (F : ∀ (w : World) (mg : Str → Option Value) (fa : Addr) (h : Heap), (K w.params).In h → h.Ns PySem.mainGlobals mg → mg d.name = some (.ref fa) →
      ∃ fd : FuncData, (∀ (s : Shared) (u : Value), BindsTo s fd ⟨[u], []⟩ [(x, u)]) ∧ ∀ base : Heap, (K w.params).In base → base.Ns PySem.mainGlobals mg → FnOk l.prog w (K w.params) mg base (L2.CX l.prog w) k fa fd [x] (spM ⟨K w.params, w⟩ mg 1 m)) :
    PySem.W.WalkO q loose XP YP l.row.toRowW d [] (fun f vs => PySem.call f vs) := by
  refine L2.walk_ofB (n := 63) (k := k) (x := x) (CX := fun w => L2.CX l.prog w) (sp := fun w => spL ⟨K w.params, w⟩ m) hn (by decide) hdf hr hY (fun w mg fa h a b c => ?_) (fun w H a ns hl hb _ hS => ?_) fun w H s e s' z => ?_
  · obtain ⟨fd, h1, h2⟩ := F w mg fa h a b c
    exact ⟨fd, h1, fun base p q => fnOk_spL (h2 base p q)⟩
  · refine ⟨H, [.list (ns.map .int)], _, Same.refl _, .cons (.lst hS (DpAll.of_ints ns)) .nil, rfl, hm ns hl hb, fun v F' H' _ ⟨fp, ow, _⟩ => ?_⟩
    cases ow with
    | d h => cases h; rfl
  · obtain ⟨_, _, _, _, _, _, _, _, _, _, _, _, z⟩ := z
    exact z
theorem room_eq {k : Nat} {A : Around} (r : Room k A) : A.units + 140 < cLine := by have := r.un; omega
end Mir
end
set_option Elab.async false
set_option linter.all false
set_option maxRecDepth 100000
set_option maxHeartbeats 4000000
noncomputable section
namespace Mir
open PySem PySem.Spec L2
section
variable {X : Cx} {W : WX} {S : Nat → Bool}
def gAddA : D → D → Option D
  | .int i, .int j => some (.int (i + j))
  | .str x, .str y => if x.length + y.length ≤ sizeLine then some (.str (x ++ y)) else none
  | _, _ => none
theorem iop_addA : OpR X (inplaceOp .Add) (fun x y H Q => rI0 (fun i j => .int (i + j)) x y H Q ∨ ∃ i j, x = .str i ∧ y = .str j ∧ i.length + j.length ≤ sizeLine ∧ Q (.str (i ++ j)) H) := OpR.or iop_add iop_add_str
theorem opS_addA {K : Kw} : OpS K (fun x y H Q => rI0 (fun i j => .int (i + j)) x y H Q ∨ ∃ i j, x = .str i ∧ y = .str j ∧ i.length + j.length ≤ sizeLine ∧ Q (.str (i ++ j)) H) gAddA := by
  intro H x y dx dy d Q hx hy e q
  unfold gAddA at e
  split at e
  · cases e
    cases dp_int hx
    cases dp_int hy
    exact .inl ⟨_, _, rfl, rfl, q _ fun F => .int _⟩
  · split at e
    · cases e
      cases dp_str hx
      cases dp_str hy
      exact .inr ⟨_, _, rfl, rfl, ‹_›, q _ fun F => .str _⟩
    · cases e
  · cases e
/-- name = [..], the list made data -/
theorem ds_setLcF {elt tg iter : Expr} {ifs : List Expr} {scope : Scope} {own : List (Str × Nat)} {g : D → Ev → Option Ev} {fi : Ev → R (List D)} {fc : Ev → R Bool} {fe : Ev → R Ow} {ix : List Nat} {y : Str} {py spos pos : Pos} (i : Nat) (hc : X.calm = true) (hN : X.N.Nodup) (hi : DI X W tg iter fi) (ok : BlkOk X.N X.env.scope scope own)
    (hg : ∀ (s : Shared) (H : Hp) (C : Addr) (cl : List (Str × Addr)) (fp : List Addr), DG (X.blk s H scope (compEnvC scope cl C X.env) fp) tg ix g) (ht : ∀ (s : Shared) (H : Hp) (C : Addr) (cl : List (Str × Addr)) (fp : List Addr), DTs (X.blk s H scope (compEnvC scope cl C X.env) fp) W0 ifs fc)
    (he : ∀ (s : Shared) (H : Hp) (C : Addr) (cl : List (Str × Addr)) (fp : List Addr), DE (X.blk s H scope (compEnvC scope cl C X.env) fp) W0 elt fe) (hix : ∀ i ∈ ix, i ∈ own.map (·.2) := by decide) (hs : ∀ x, foldedSetIterable iter X.env x = pure x := by intro _; rfl)
    (hy : X.N[i]? = some y := by rfl) (hyl : X.env.scope.names.lookup y = some .local := by rfl) (hsw : swapsWith (.ListComp elt [⟨tg, iter, ifs, 0⟩] scope pos) (some (.Name y py)) spos.line X.env = pure true := by exact sw_true rfl rfl rfl (by decide +kernel)) (hS : S i = true := by rfl) :
    DS X W S (.Assign [.Name y py] (.ListComp elt [⟨tg, iter, ifs, 0⟩] scope pos) spos) (sSet i (eM (eM (eLc fi g fc fe (own.map (·.2))) viewD) Ow.d)) := by
  obtain ⟨wi, pi, si⟩ := hi
  refine ⟨_, ps_setLc (g := tgOf X.KK ix g) (tt := tOf X.KK (Post X W0 PTb) fc) (te := tOf X.KK (Post X W0 (POw X.KK)) fe) hc hN hy hyl hsw pi ok (fun s H C cl fp => hg s H C cl fp) (fun s H C cl fp => (ht s H C cl fp).can) (fun s H C cl fp => (he s H C cl fp).can) hs, fun F H σ env fp D sat h => ?_⟩
  refine de_lc_core si hix F H σ env fp _ sat ?_
  unfold sSet eM at h
  cases e : eLc fi g fc fe (own.map (·.2)) env with
  | no => rw [e] at h; exact h
  | ex c => rw [e] at h; exact fun C F' H' m x => h C σ F' H' fp m (.refl _ _) (StepS.of_ext x fp) (sat.ext x)
  | ok r =>
    rw [e] at h
    intro v F' H' x ⟨fx, q, nd, n⟩
    have h' : PostS X W S σ F H fp D (if i < env.length then .nx (env.set i (some (.d (viewD r)))) else .no) := h
    split at h'
    · obtain ⟨F2, x2, q2⟩ := x.freeze q n
      obtain ⟨fp', s1, s2⟩ := put_step sat x2 (.d q2) List.nodup_nil (fun _ z => nomatch z) ‹_›
      exact h' _ F2 H' fp' (.set hS _) s1 s2
    · exact h'.elim
end
end Mir
end
set_option Elab.async false
set_option linter.all false
set_option maxRecDepth 100000
set_option maxHeartbeats 4000000
noncomputable section
namespace Mir
open PySem PySem.Spec L2

section
variable {α β γ : Type} (env : Ev)
@[simp] theorem eB_eq (f : Ev → R α) (g : α → R β) : eB f g env = (f env).bind g := rfl
@[simp] theorem eM_eq (f : Ev → R α) (g : α → β) : eM f g env = (f env).map g := rfl
@[simp] theorem eC_eq (d : D) : eC d env = .ok d := rfl
@[simp] theorem aNil_eq : aNil env = .ok [] := rfl
@[simp] theorem aCons_eq (f : Ev → R D) (g : Ev → R (List D)) : aCons f g env = (f env).bind fun d => (g env).map fun ds => d :: ds := rfl
@[simp] theorem eTup_eq (f : Ev → R (List D)) : eTup f env = (f env).bind fun ds => guard (ds.length ≤ sizeLine) (.ok (.tuple ds)) := rfl
@[simp] theorem eLst_eq (f : Ev → R (List D)) : eLst f env = (f env).bind fun ds => guard (ds.length ≤ sizeLine) (.ok (.l (ds.map Ow.d))) := rfl
@[simp] theorem eBin_eq (g : D → D → Option D) (f h : Ev → R D) : eBin g f h env = (f env).bind fun x => (h env).bind fun y => R.of (g x y) := rfl
@[simp] theorem eBinO_eq (g : D → D → Option Ow) (f h : Ev → R D) : eBinO g f h env = (f env).bind fun x => (h env).bind fun y => R.of (g x y) := rfl
@[simp] theorem eCa_eq (g : List D → Option Ow) (f : Ev → R (List D)) : eCa g f env = (f env).bind fun ds => R.of (g ds) := rfl
@[simp] theorem eNot_eq (f : Ev → R D) : eNot f env = ((f env).bind asB).bind fun b => .ok (.bool !b) := rfl
@[simp] theorem eAnd_eq (f g : Ev → R D) : eAnd f g env = ((f env).bind asB).bind fun b => if b = true then g env else .ok (.bool false) := rfl
@[simp] theorem eOr_eq (f g : Ev → R D) : eOr f g env = ((f env).bind asB).bind fun b => if b = true then .ok (.bool true) else g env := rfl
@[simp] theorem eIf_eq (c : Ev → R Bool) (f g : Ev → R D) : eIf c f g env = (c env).bind fun b => if b = true then f env else g env := rfl
@[simp] theorem tNotE_eq (f : Ev → R Bool) : tNotE f env = (f env).map (!·) := rfl
@[simp] theorem tAndE_eq (f g : Ev → R Bool) : tAndE f g env = (f env).bind fun b => if b = true then g env else .ok false := rfl
@[simp] theorem tOrE_eq (f g : Ev → R Bool) : tOrE f g env = (f env).bind fun b => if b = true then .ok true else g env := rfl
@[simp] theorem eRep_eq (f : Ev → R Ow) (g : Ev → R D) : eRep f g env = (f env).bind fun o => (g env).bind fun d => repO o d := rfl
@[simp] theorem eIxO_eq (f : Ev → R Ow) (g : Ev → R D) : eIxO f g env = (f env).bind fun o => (g env).bind fun d => ixO o d := rfl
@[simp] theorem eSl_eq (f : Ev → R D) (l h : Ev → R (Option Int)) : eSl f l h env = (f env).bind fun x => (l env).bind fun i => (h env).bind fun j => R.of (gSl x i j) := rfl
@[simp] theorem oNone_eq : oNone env = .ok none := rfl
@[simp] theorem asI_eq (i : Int) : asI (.int i) = .ok (some i) := rfl
@[simp] theorem cYes_eq : cYes env = .ok true := rfl
@[simp] theorem eVar_0 (x : D) : eVar 0 (some (.d x) :: env) = .ok x := rfl
@[simp] theorem eVarO_0 (x : Ow) : eVarO 0 (some x :: env) = .ok x := rfl
@[simp] theorem eVar_s (i : Nat) (x : Option Ow) : eVar (i + 1) (x :: env) = eVar i env := by unfold eVar; rw [List.getElem?_cons_succ]
@[simp] theorem eVarO_s (i : Nat) (x : Option Ow) : eVarO (i + 1) (x :: env) = eVarO i env := by unfold eVarO; rw [List.getElem?_cons_succ]
@[simp] theorem eVar_1 (a : Option Ow) (x : D) : eVar 1 (a :: some (.d x) :: env) = .ok x := rfl
@[simp] theorem eVar_2 (a b : Option Ow) (x : D) : eVar 2 (a :: b :: some (.d x) :: env) = .ok x := rfl
@[simp] theorem eVar_3 (a b c : Option Ow) (x : D) : eVar 3 (a :: b :: c :: some (.d x) :: env) = .ok x := rfl
@[simp] theorem eVar_4 (a b c d : Option Ow) (x : D) : eVar 4 (a :: b :: c :: d :: some (.d x) :: env) = .ok x := rfl
@[simp] theorem eVar_5 (a b c d e : Option Ow) (x : D) : eVar 5 (a :: b :: c :: d :: e :: some (.d x) :: env) = .ok x := rfl
@[simp] theorem eVar_6 (a b c d e f : Option Ow) (x : D) : eVar 6 (a :: b :: c :: d :: e :: f :: some (.d x) :: env) = .ok x := rfl
@[simp] theorem eVar_7 (a b c d e f g : Option Ow) (x : D) : eVar 7 (a :: b :: c :: d :: e :: f :: g :: some (.d x) :: env) = .ok x := rfl
@[simp] theorem eVar_8 (a b c d e f g h : Option Ow) (x : D) : eVar 8 (a :: b :: c :: d :: e :: f :: g :: h :: some (.d x) :: env) = .ok x := rfl
@[simp] theorem eVar_9 (a b c d e f g h i : Option Ow) (x : D) : eVar 9 (a :: b :: c :: d :: e :: f :: g :: h :: i :: some (.d x) :: env) = .ok x := rfl
@[simp] theorem eVarO_1 (a : Option Ow) (x : Ow) : eVarO 1 (a :: some x :: env) = .ok x := rfl
@[simp] theorem eVarO_2 (a b : Option Ow) (x : Ow) : eVarO 2 (a :: b :: some x :: env) = .ok x := rfl
@[simp] theorem eVarO_3 (a b c : Option Ow) (x : Ow) : eVarO 3 (a :: b :: c :: some x :: env) = .ok x := rfl
@[simp] theorem eVarO_4 (a b c d : Option Ow) (x : Ow) : eVarO 4 (a :: b :: c :: d :: some x :: env) = .ok x := rfl
@[simp] theorem eVarO_5 (a b c d e : Option Ow) (x : Ow) : eVarO 5 (a :: b :: c :: d :: e :: some x :: env) = .ok x := rfl
@[simp] theorem eVarO_6 (a b c d e f : Option Ow) (x : Ow) : eVarO 6 (a :: b :: c :: d :: e :: f :: some x :: env) = .ok x := rfl
@[simp] theorem eVarO_7 (a b c d e f g : Option Ow) (x : Ow) : eVarO 7 (a :: b :: c :: d :: e :: f :: g :: some x :: env) = .ok x := rfl
@[simp] theorem sSkip_eq : sSkip env = .nx env := rfl
@[simp] theorem sSeq_eq (f g : Ev → SR) : sSeq f g env = (f env).andThen g := rfl
@[simp] theorem sSet_eq (i : Nat) (f : Ev → R Ow) : sSet i f env = (f env).st env fun r => if i < env.length then .nx (env.set i (some r)) else .no := rfl
@[simp] theorem sRet_eq (f : Ev → R Ow) : sRet f env = (f env).st env fun r => .rt r env := rfl
@[simp] theorem sRetN_eq : sRetN env = .rt (.d .none) env := rfl
@[simp] theorem sIf_eq (c : Ev → R Bool) (f g : Ev → SR) : sIf c f g env = (c env).st env fun b => if b = true then f env else g env := rfl
@[simp] theorem sFor_eq (it : Ev → R (List D)) (g : D → Ev → Option Ev) (f : Ev → SR) : sFor it g f env = (it env).st env fun ds => forL g f ds env := rfl
@[simp] theorem sDrop_eq (f : Ev → R D) : sDrop f env = (f env).st env fun _ => .nx env := rfl
@[simp] theorem sAug_eq (h : D → D → Option D) (i : Nat) (f : Ev → R D) : sAug h i f env = (((eVar i env).bind fun x => (f env).bind fun y => R.of (h x y)).st env fun d => if i < env.length then .nx (env.set i (some (.d d))) else .no) := rfl
@[simp] theorem sAsg_eq (g : D → Ev → Option Ev) (f : Ev → R D) : sAsg g f env = (f env).st env fun d => match g d env with
  | some env' => .nx env'
  | none => .no := rfl
@[simp] theorem sApp_eq (i : Nat) (f : Ev → R Ow) : sApp i f env = ownL i env fun os => (f env).st env fun r => if os.length < sizeLine then .nx (env.set i (some (.l (os ++ [r])))) else .no := rfl
@[simp] theorem sExt_eq (i : Nat) (f : Ev → R D) : sExt i f env = ownL i env fun os => (f env).st env fun d => (asL d).st env fun ds => if os.length + ds.length ≤ sizeLine then .nx (env.set i (some (.l (os ++ ds.map Ow.d)))) else .no := rfl
@[simp] theorem sPut_eq (i : Nat) (f : Ev → R Ow) (g : Ev → R D) : sPut i f g env = (f env).st env fun r => ownL i env fun os => (g env).st env (putAt i env os r) := rfl
@[simp] theorem ownL_0 (os : List Ow) (k : List Ow → SR) : ownL 0 (some (.l os) :: env) k = k os := rfl
@[simp] theorem ownL_1 (a : Option Ow) (os : List Ow) (k : List Ow → SR) : ownL 1 (a :: some (.l os) :: env) k = k os := rfl
@[simp] theorem ownL_2 (a b : Option Ow) (os : List Ow) (k : List Ow → SR) : ownL 2 (a :: b :: some (.l os) :: env) k = k os := rfl
@[simp] theorem ownL_3 (a b c : Option Ow) (os : List Ow) (k : List Ow → SR) : ownL 3 (a :: b :: c :: some (.l os) :: env) k = k os := rfl
@[simp] theorem ownL_4 (a b c d : Option Ow) (os : List Ow) (k : List Ow → SR) : ownL 4 (a :: b :: c :: d :: some (.l os) :: env) k = k os := rfl
@[simp] theorem ownL_5 (a b c d e : Option Ow) (os : List Ow) (k : List Ow → SR) : ownL 5 (a :: b :: c :: d :: e :: some (.l os) :: env) k = k os := rfl
@[simp] theorem ownL_6 (a b c d e f : Option Ow) (os : List Ow) (k : List Ow → SR) : ownL 6 (a :: b :: c :: d :: e :: f :: some (.l os) :: env) k = k os := rfl
@[simp] theorem gtName_eq (i : Nat) (d : D) : gtName i d env = if i < env.length then some (env.set i (some (.d d))) else none := rfl
@[simp] theorem gtTup_eq (n : Nat) (h : List D → Ev → Option Ev) (ds : List D) : gtTup n h (.tuple ds) env = if ds.length = n then h ds env else none := rfl
@[simp] theorem gtCons_eq (g : D → Ev → Option Ev) (h : List D → Ev → Option Ev) (d : D) (ds : List D) : gtCons g h (d :: ds) env = (g d env).bind (h ds) := rfl
@[simp] theorem gtNil_eq : gtNil [] env = some env := rfl
theorem guard_ok {c : Prop} {r : R α} (h : c) : guard c r = r := guard_pos h
@[simp] theorem guard_true {r : R α} : guard True r = r := guard_pos trivial
@[simp] theorem guard_small {a : Nat} {r : R α} (h : a ≤ sizeLine) : guard (a ≤ sizeLine) r = r := guard_pos h
end
@[simp] theorem gAddA_int (i j : Int) : gAddA (.int i) (.int j) = some (.int (i + j)) := rfl
@[simp] theorem gEq_int (i j : Int) : gEq (.int i) (.int j) = some (.bool (i == j)) := rfl
@[simp] theorem gNe_int (i j : Int) : gNe (.int i) (.int j) = some (.bool (!(i == j))) := rfl
@[simp] theorem gNeg_int (i : Int) : gNeg (.int i) = .ok (.int (-i)) := rfl
@[simp] theorem gIx_lst (ds : List D) (i : Int) : gIx (.list ds) (.int i) = atI ds i := rfl
@[simp] theorem gIsi_int_int (i : Int) : gIsi "int" (.int i) = .ok (.bool true) := by rfl
@[simp] theorem gIsi_bool_int (i : Int) : gIsi "bool" (.int i) = .ok (.bool false) := by first | rfl | decide +kernel | kernel_rfl
@[simp] theorem gIsi_list_list (ds : List D) : gIsi "list" (.list ds) = .ok (.bool true) := by rfl
@[simp] theorem gIsi_tup_tup (ds : List D) : gIsi "tuple" (.tuple ds) = .ok (.bool true) := by rfl
@[simp] theorem ixO_l (os : List Ow) (k : Int) : ixO (.l os) (.int k) = match atI os k with
    | some o => .ok o
    | none => .no := rfl
@[simp] theorem R.st_no {α : Type} (env : Ev) (f : α → SR) : (R.no : R α).st env f = .no := rfl
theorem atI_natD {α : Type} {xs : List α} {k : Nat} {x : α} (h : xs[k]? = some x) : atI xs (k : Int) = some x := by
  unfold atI ixN
  have hl := (List.getElem?_eq_some_iff.mp h).1
  rw [if_pos (by omega), if_pos (by omega)]
  simpa using h
theorem ixN_nat {n k : Nat} (h : k < n) : ixN n (k : Int) = some k := by
  unfold ixN
  rw [if_pos (by omega), if_pos (by omega)]
  simp
@[simp] theorem atI_0 {α : Type} (x : α) (xs : List α) : atI (x :: xs) 0 = some x := atI_natD (k := 0) rfl
@[simp] theorem atI_1 {α : Type} (x y : α) (xs : List α) : atI (x :: y :: xs) 1 = some y := atI_natD (k := 1) rfl
@[simp] theorem atI_2 {α : Type} (x y z : α) (xs : List α) : atI (x :: y :: z :: xs) 2 = some z := atI_natD (k := 2) rfl
@[simp] theorem atI_3 {α : Type} (x y z u : α) (xs : List α) : atI (x :: y :: z :: u :: xs) 3 = some u := atI_natD (k := 3) rfl
@[simp] theorem atI_4 {α : Type} (x y z u v : α) (xs : List α) : atI (x :: y :: z :: u :: v :: xs) 4 = some v := atI_natD (k := 4) rfl
theorem forL_ind {g : D → Ev → Option Ev} {f : Ev → SR} (items : List D) (I : Nat → Ev → Prop) (step : ∀ i d env, items[i]? = some d → I i env → ∃ env1, g d env = some env1 ∧ ∃ env2, (f env1 = .nx env2 ∨ f env1 = .ct env2) ∧ I (i + 1) env2) :
    ∀ env, I 0 env → ∃ env', forL g f items env = .nx env' ∧ I items.length env' := by
  suffices h : ∀ (ds : List D) (k : Nat) (env : Ev), items.drop k = ds → k ≤ items.length → I k env → ∃ env', forL g f ds env = .nx env' ∧ I items.length env' from fun env h0 => h items 0 env rfl (Nat.zero_le _) h0
  intro ds
  induction ds with
  | nil =>
    intro k env hd hk h
    have : k = items.length := by
      have := congrArg List.length hd
      simp at this
      omega
    subst this
    exact ⟨env, rfl, h⟩
  | cons d ds ih =>
    intro k env hd hk h
    have hk' : k < items.length := by
      have := congrArg List.length hd
      simp at this
      omega
    rw [List.drop_eq_getElem_cons hk'] at hd
    obtain ⟨e1, e2⟩ := List.cons.inj hd
    obtain ⟨env1, g1, env2, g2, g3⟩ := step k d env (by rw [List.getElem?_eq_getElem hk', e1]) h
    obtain ⟨env', r1, r2⟩ := ih (k + 1) env2 e2 hk' g3
    refine ⟨env', ?_, r2⟩
    unfold forL
    rw [g1]
    rcases g2 with g2 | g2 <;> (simp only; rw [g2]; exact r1)
theorem lcR_all {g : D → Ev → Option Ev} {c : Ev → R Bool} {e : Ev → R Ow} {env : Ev} (h : D → Ow) : ∀ ds : List D, (∀ d ∈ ds, ∃ env1, g d env = some env1 ∧ c env1 = .ok true ∧ e env1 = .ok (h d)) → lcR g c e env ds = .ok (ds.map h)
  | [], _ => rfl
  | d :: ds, q => by
    obtain ⟨env1, q1, q2, q3⟩ := q d List.mem_cons_self
    unfold lcR
    rw [q1]
    simp only [q2, q3, noEx_ok, R.bind_ok, if_true]
    rw [lcR_all h ds fun d hd => q d (List.mem_cons_of_mem _ hd)]
    rfl
theorem eLc_of {fi : Ev → R (List D)} {g : D → Ev → Option Ev} {c : Ev → R Bool} {e : Ev → R Ow} {vs : List Nat} {env : Ev} {ds : List D} {rs : List Ow} (h1 : fi env = .ok ds) (hl : ds.length ≤ sizeLine) (h2 : lcR g c e (wipeE env vs) ds = .ok rs) : eLc fi g c e vs env = .ok (.l rs) := by
  unfold eLc
  rw [h1, R.bind_ok, guard_ok hl, h2]
  rfl
theorem repO_of {os : List Ow} {ds : List D} {k : Int} (h : unDs os = some ds) (c : -(2 ^ 63) ≤ k ∧ k < 2 ^ 63 ∧ os.length * k.toNat ≤ sizeLine) : repO (.l os) (.int k) = .ok (.l ((List.replicate k.toNat ds).flatten.map Ow.d)) := by
  unfold repO
  simp only [h]
  exact guard_ok c
def finR : SR → R Ow
  | .nx _ => .ok (.d .none)
  | .rt r _ => .ok r
  | .ex c _ => .ex c
  | _ => .no
theorem runB_fin (k : Nat) (f : Ev → SR) (ds : List D) : runB k f ds = finR (f (envOf k ds)) := by
  unfold runB
  cases f (envOf k ds) <;> rfl
@[simp] theorem finR_nx (env : Ev) : finR (.nx env) = .ok (.d .none) := rfl
@[simp] theorem finR_rt (r : Ow) (env : Ev) : finR (.rt r env) = .ok r := rfl
@[simp] theorem finR_ex (c : Str) (env : Ev) : finR (.ex c env) = .ex c := rfl
@[simp] theorem finR_no : finR .no = .no := rfl
@[simp] theorem envOf_nil (k : Nat) : envOf k [] = List.replicate k none := rfl
@[simp] theorem envOf_cons (k : Nat) (d : D) (ds : List D) : envOf k (d :: ds) = some (.d d) :: envOf k ds := rfl
end Mir
end
set_option Elab.async false
set_option linter.all false
set_option maxRecDepth 100000
set_option maxHeartbeats 4000000
noncomputable section
namespace Mir
open PySem PySem.Spec L2

section
variable {X : Cx} {W : WX} {S : Nat → Bool}
def sNo (_ : Ev) : SR := .no
def inD (d : D) (ds : List D) : Bool := ds.any fun e => PyData.eqv e d
def inOk (d : D) (ds : List D) : Bool := d.canLay0 && decide (d.depth ≤ 130) && ds.all fun e => e.canLay0
def gInB (neg : Bool) : D → D → Option D
  | .str x, .str z => match x.cps.toList with
    | [c] => some (.bool (xor neg (decide (c ∈ z.cps.toList))))
    | _ => none
  | d, .list ds => if inOk d ds = true then some (.bool (xor neg (inD d ds))) else none
  | d, .tuple ds => if inOk d ds = true then some (.bool (xor neg (inD d ds))) else none
  | _, _ => none
def gIn := gInB false
def rInA (K : Kw) (neg : Bool) : R2 := fun x y H Q => ∃ d ds, Dp K H x d ∧ (Dp K H y (.list ds) ∨ Dp K H y (.tuple ds)) ∧ inOk d ds = true ∧ Q (.bl (xor neg (inD d ds))) H
theorem inOk_cases {d : D} {ds : List D} (h : inOk d ds = true) : d.canLay0 = true ∧ d.depth ≤ 130 ∧ ∀ e ∈ ds, e.canLay0 = true := by
  unfold inOk at h
  simp only [Bool.and_eq_true, decide_eq_true_eq, List.all_eq_true] at h
  exact ⟨h.1.1, h.1.2, h.2⟩
open Classical in
/-- what the items answer, by the values -/
def eqW (s : Shared) (d : D) (ds : List D) (u : Value) : Bool := if ∃ e as, e ∈ ds ∧ PySem.Reads s.heap u e as ∧ PyData.eqv e d = true then true else false
theorem eqW_of {s : Shared} {d e : D} {ds : List D} {u : Value} {as : List Addr} (he : e ∈ ds) (hc : ∀ e ∈ ds, e.canLay0 = true) (r : PySem.Reads s.heap u e as) : eqW s d ds u = PyData.eqv e d := by
  unfold eqW
  cases h : PyData.eqv e d with
  | true => exact if_pos ⟨e, as, he, r, h⟩
  | false =>
    refine if_neg fun ⟨e', as', h1, h2, h3⟩ => ?_
    have := SeqAt.Reads.unique e' e u as' as (hc e' h1) h2 r
    subst this
    rw [h] at h3; cases h3
theorem any_eqW {s : Shared} {d : D} {ds0 : List D} (hc : ∀ e ∈ ds0, e.canLay0 = true) : ∀ {ds : List D} {us : List Value}, (∀ e ∈ ds, e ∈ ds0) → PySem.W.EachIs (fun v d => ∃ as, PySem.Reads s.heap v d as) us ds → us.any (eqW s d ds0) = ds.any fun e => PyData.eqv e d
  | _, _, _, .nil => rfl
  | _, _, hs, .cons ⟨as, r⟩ t => by
    rw [List.any_cons, List.any_cons, eqW_of (hs _ List.mem_cons_self) hc r, any_eqW hc (fun e he => hs e (List.mem_cons_of_mem _ he)) t]
theorem eachIs_mem {α β : Type} {T : α → β → Prop} : ∀ {as : List α} {bs : List β}, PySem.W.EachIs T as bs → ∀ a ∈ as, ∃ b ∈ bs, T a b
  | _, _, .nil, a, h => by cases h
  | _, _, .cons h t, a, hm => by
    rcases List.mem_cons.mp hm with e | e
    · subst e; exact ⟨_, List.mem_cons_self, h⟩
    · obtain ⟨b, b1, b2⟩ := eachIs_mem t a e
      exact ⟨b, List.mem_cons_of_mem _ b1, b2⟩
theorem each_reads0 {X : Cx} {pins : List (Addr × Obj)} {s : Shared} {σ : L2.St} {H : Hp} (I : Inv X pins σ H s) : ∀ {xs : List V} {vs : List Value} {ds : List D}, Vals xs vs → DpAll X.KK H xs ds → (∀ d ∈ ds, d.canLay0 = true) → PySem.W.EachIs (fun v d => ∃ as, PySem.Reads s.heap v d as) vs ds
  | _, _, _, .nil, h, _ => by cases h; exact .nil
  | _, _, _, .cons r t, h, c => by
    cases h with
    | cons h1 h2 => exact .cons (L2.Dp.reads I _ _ _ (Dp.kit _ _ h1 (c _ List.mem_cons_self)) r) (each_reads0 I t h2 fun d hd => c d (List.mem_cons_of_mem _ hd))
theorem op_inA (neg : Bool) (hu : X.A.units + 140 < cLine) : OpR X (compareOp (if neg then .NotIn else .In)) (rInA X.KK neg) := by
  intro pins s σ H x y v u Q I rx ry h
  obtain ⟨d, ds, hx, hy, ok, q⟩ := h
  obtain ⟨c1, c2, c3⟩ := inOk_cases ok
  obtain ⟨bs, rd⟩ := L2.Dp.reads I d x v (Dp.kit _ _ hx c1) rx
  have key : ∀ (its : List Value), PySem.W.EachIs (fun v d => ∃ as, PySem.Reads s.heap v d as) its ds → (∀ y, y ∈ its.toArray → SeqAt.EqAt X.A.in1 s y v (eqW s d ds y)) ∧ its.toArray.any (eqW s d ds) = inD d ds := fun its er => by
    refine ⟨fun w hw => ?_, ?_⟩
    · obtain ⟨e, he, as, re⟩ := eachIs_mem er w (by simpa using hw)
      rw [eqW_of he c3 re]
      refine SeqAt.eqAt_reads e d X.A.in1 s w v as bs re rd (c3 e he) c1 ?_
      have := Nat.min_le_right e.depth d.depth
      show X.A.units + 1 + min e.depth d.depth < cLine
      omega
    · rw [show its.toArray.any (eqW s d ds) = its.any (eqW s d ds) by simp, any_eqW c3 (fun _ h => h) er]
      rfl
  rcases hy with hy | hy
  · obtain ⟨p, xs, rfl, h1, h2⟩ := dp_lst hy
    obtain ⟨its, r, pl, hz⟩ := I.list h1
    cases ry
    obtain ⟨k1, k2⟩ := key its (each_reads0 I r h2 c3)
    cases neg with
    | false => exact SeqAt.in_listAt (eqW s d ds) pl.isList k1 ⟨.bl _, H, I, by rw [k2]; rfl, by simpa using q⟩
    | true => exact SeqAt.notIn_listAt (eqW s d ds) pl.isList k1 ⟨.bl _, H, I, by rw [k2]; rfl, by simpa using q⟩
  · obtain ⟨p, xs, rfl, h1, h2⟩ := dp_tup hy
    obtain ⟨its, r, pl, hz⟩ := I.tuple h1
    cases ry
    obtain ⟨k1, k2⟩ := key its (each_reads0 I r h2 c3)
    cases neg with
    | false => exact SeqAt.in_tupleAt (eqW s d ds) pl k1 ⟨.bl _, H, I, by rw [k2]; rfl, by simpa using q⟩
    | true => exact SeqAt.notIn_tupleAt (eqW s d ds) pl k1 ⟨.bl _, H, I, by rw [k2]; rfl, by simpa using q⟩
theorem str_one {x : Str} {c : Nat} (h : x.cps.toList = [c]) : x = ⟨#[c]⟩ := by
  cases x with
  | mk a =>
    have : a = #[c] := Array.toList_inj.mp h
    rw [this]
theorem opS_in {K : Kw} : OpS K (fun x y H Q => rInS x y H Q ∨ rInA K false x y H Q) gIn := by
  intro H x y dx dy d Q hx hy e q
  unfold gIn gInB at e
  split at e
  · rename_i a z
    split at e
    · rename_i c hc
      cases e
      cases dp_str hx
      cases dp_str hy
      exact .inl ⟨c, z, by rw [str_one hc], rfl, by simpa using q _ fun F => .bl _⟩
    · cases e
  · split at e
    · cases e
      exact .inr ⟨_, _, hx, .inl hy, ‹_›, q _ fun F => .bl _⟩
    · cases e
  · split at e
    · cases e
      exact .inr ⟨_, _, hx, .inr hy, ‹_›, q _ fun F => .bl _⟩
    · cases e
  · cases e
variable {a b : Expr} {pos : Pos} {f g : Ev → R D}
theorem op_inF (hu : X.A.units + 140 < cLine) : OpR X (compareOp .In) (rInA X.KK false) := op_inA false hu
theorem df_in (hu : X.A.units + 140 < cLine) (ha : DV X W a f) (hb : DV X W b g) (hm : behindInMarks .In b = false := by first | exact nomark _ | rfl) : DF X W (.Compare a [.In] [b] pos) (eBin gIn f g) := df_cmp (OpR.or op_inS (op_inF hu)) opS_in ha hb hm
theorem dt_in (hu : X.A.units + 140 < cLine) (ha : DV X W a f) (hb : DV X W b g) (hm : behindInMarks .In b = false := by first | exact nomark _ | rfl) : DT X W (.Compare a [.In] [b] pos) (eB (eBin gIn f g) asB) := dt_cmp (OpR.or op_inS (op_inF hu)) opS_in ha hb hm
end
theorem gIn_sign (c : Nat) (z : Str) : gIn (.str ⟨#[c]⟩) (.str z) = some (.bool (decide (c ∈ z.cps.toList))) := by
  show some (PyData.bool (xor false (decide (c ∈ z.cps.toList)))) = _
  simp
@[simp] theorem sNo_eq (env : Ev) : sNo env = .no := rfl
end Mir
end
set_option Elab.async false
set_option linter.all false
set_option maxRecDepth 100000
noncomputable section
namespace Mir
open PySem PySem.Spec L2
@[simp] theorem ownL_7 (a0 a1 a2 a3 a4 a5 a6 : Option Ow) (os : List Ow) (env : Ev) (k : List Ow → SR) : ownL 7 (a0 :: a1 :: a2 :: a3 :: a4 :: a5 :: a6 :: some (.l os) :: env) k = k os := rfl
@[simp] theorem eVarO_8 (a0 a1 a2 a3 a4 a5 a6 a7 : Option Ow) (x : Ow) (env : Ev) : eVarO 8 (a0 :: a1 :: a2 :: a3 :: a4 :: a5 :: a6 :: a7 :: some x :: env) = .ok x := rfl
@[simp] theorem ownL_8 (a0 a1 a2 a3 a4 a5 a6 a7 : Option Ow) (os : List Ow) (env : Ev) (k : List Ow → SR) : ownL 8 (a0 :: a1 :: a2 :: a3 :: a4 :: a5 :: a6 :: a7 :: some (.l os) :: env) k = k os := rfl
@[simp] theorem eVarO_9 (a0 a1 a2 a3 a4 a5 a6 a7 a8 : Option Ow) (x : Ow) (env : Ev) : eVarO 9 (a0 :: a1 :: a2 :: a3 :: a4 :: a5 :: a6 :: a7 :: a8 :: some x :: env) = .ok x := rfl
@[simp] theorem ownL_9 (a0 a1 a2 a3 a4 a5 a6 a7 a8 : Option Ow) (os : List Ow) (env : Ev) (k : List Ow → SR) : ownL 9 (a0 :: a1 :: a2 :: a3 :: a4 :: a5 :: a6 :: a7 :: a8 :: some (.l os) :: env) k = k os := rfl
@[simp] theorem eVar_10 (a0 a1 a2 a3 a4 a5 a6 a7 a8 a9 : Option Ow) (x : D) (env : Ev) : eVar 10 (a0 :: a1 :: a2 :: a3 :: a4 :: a5 :: a6 :: a7 :: a8 :: a9 :: some (.d x) :: env) = .ok x := rfl
@[simp] theorem eVarO_10 (a0 a1 a2 a3 a4 a5 a6 a7 a8 a9 : Option Ow) (x : Ow) (env : Ev) : eVarO 10 (a0 :: a1 :: a2 :: a3 :: a4 :: a5 :: a6 :: a7 :: a8 :: a9 :: some x :: env) = .ok x := rfl
@[simp] theorem ownL_10 (a0 a1 a2 a3 a4 a5 a6 a7 a8 a9 : Option Ow) (os : List Ow) (env : Ev) (k : List Ow → SR) : ownL 10 (a0 :: a1 :: a2 :: a3 :: a4 :: a5 :: a6 :: a7 :: a8 :: a9 :: some (.l os) :: env) k = k os := rfl
@[simp] theorem eVar_11 (a0 a1 a2 a3 a4 a5 a6 a7 a8 a9 a10 : Option Ow) (x : D) (env : Ev) : eVar 11 (a0 :: a1 :: a2 :: a3 :: a4 :: a5 :: a6 :: a7 :: a8 :: a9 :: a10 :: some (.d x) :: env) = .ok x := rfl
@[simp] theorem eVarO_11 (a0 a1 a2 a3 a4 a5 a6 a7 a8 a9 a10 : Option Ow) (x : Ow) (env : Ev) : eVarO 11 (a0 :: a1 :: a2 :: a3 :: a4 :: a5 :: a6 :: a7 :: a8 :: a9 :: a10 :: some x :: env) = .ok x := rfl
@[simp] theorem ownL_11 (a0 a1 a2 a3 a4 a5 a6 a7 a8 a9 a10 : Option Ow) (os : List Ow) (env : Ev) (k : List Ow → SR) : ownL 11 (a0 :: a1 :: a2 :: a3 :: a4 :: a5 :: a6 :: a7 :: a8 :: a9 :: a10 :: some (.l os) :: env) k = k os := rfl
@[simp] theorem eVar_12 (a0 a1 a2 a3 a4 a5 a6 a7 a8 a9 a10 a11 : Option Ow) (x : D) (env : Ev) : eVar 12 (a0 :: a1 :: a2 :: a3 :: a4 :: a5 :: a6 :: a7 :: a8 :: a9 :: a10 :: a11 :: some (.d x) :: env) = .ok x := rfl
@[simp] theorem eVarO_12 (a0 a1 a2 a3 a4 a5 a6 a7 a8 a9 a10 a11 : Option Ow) (x : Ow) (env : Ev) : eVarO 12 (a0 :: a1 :: a2 :: a3 :: a4 :: a5 :: a6 :: a7 :: a8 :: a9 :: a10 :: a11 :: some x :: env) = .ok x := rfl
@[simp] theorem ownL_12 (a0 a1 a2 a3 a4 a5 a6 a7 a8 a9 a10 a11 : Option Ow) (os : List Ow) (env : Ev) (k : List Ow → SR) : ownL 12 (a0 :: a1 :: a2 :: a3 :: a4 :: a5 :: a6 :: a7 :: a8 :: a9 :: a10 :: a11 :: some (.l os) :: env) k = k os := rfl
@[simp] theorem eVar_13 (a0 a1 a2 a3 a4 a5 a6 a7 a8 a9 a10 a11 a12 : Option Ow) (x : D) (env : Ev) : eVar 13 (a0 :: a1 :: a2 :: a3 :: a4 :: a5 :: a6 :: a7 :: a8 :: a9 :: a10 :: a11 :: a12 :: some (.d x) :: env) = .ok x := rfl
@[simp] theorem eVarO_13 (a0 a1 a2 a3 a4 a5 a6 a7 a8 a9 a10 a11 a12 : Option Ow) (x : Ow) (env : Ev) : eVarO 13 (a0 :: a1 :: a2 :: a3 :: a4 :: a5 :: a6 :: a7 :: a8 :: a9 :: a10 :: a11 :: a12 :: some x :: env) = .ok x := rfl
@[simp] theorem ownL_13 (a0 a1 a2 a3 a4 a5 a6 a7 a8 a9 a10 a11 a12 : Option Ow) (os : List Ow) (env : Ev) (k : List Ow → SR) : ownL 13 (a0 :: a1 :: a2 :: a3 :: a4 :: a5 :: a6 :: a7 :: a8 :: a9 :: a10 :: a11 :: a12 :: some (.l os) :: env) k = k os := rfl
@[simp] theorem eVar_14 (a0 a1 a2 a3 a4 a5 a6 a7 a8 a9 a10 a11 a12 a13 : Option Ow) (x : D) (env : Ev) : eVar 14 (a0 :: a1 :: a2 :: a3 :: a4 :: a5 :: a6 :: a7 :: a8 :: a9 :: a10 :: a11 :: a12 :: a13 :: some (.d x) :: env) = .ok x := rfl
@[simp] theorem eVarO_14 (a0 a1 a2 a3 a4 a5 a6 a7 a8 a9 a10 a11 a12 a13 : Option Ow) (x : Ow) (env : Ev) : eVarO 14 (a0 :: a1 :: a2 :: a3 :: a4 :: a5 :: a6 :: a7 :: a8 :: a9 :: a10 :: a11 :: a12 :: a13 :: some x :: env) = .ok x := rfl
@[simp] theorem ownL_14 (a0 a1 a2 a3 a4 a5 a6 a7 a8 a9 a10 a11 a12 a13 : Option Ow) (os : List Ow) (env : Ev) (k : List Ow → SR) : ownL 14 (a0 :: a1 :: a2 :: a3 :: a4 :: a5 :: a6 :: a7 :: a8 :: a9 :: a10 :: a11 :: a12 :: a13 :: some (.l os) :: env) k = k os := rfl
@[simp] theorem eVar_15 (a0 a1 a2 a3 a4 a5 a6 a7 a8 a9 a10 a11 a12 a13 a14 : Option Ow) (x : D) (env : Ev) : eVar 15 (a0 :: a1 :: a2 :: a3 :: a4 :: a5 :: a6 :: a7 :: a8 :: a9 :: a10 :: a11 :: a12 :: a13 :: a14 :: some (.d x) :: env) = .ok x := rfl
@[simp] theorem eVarO_15 (a0 a1 a2 a3 a4 a5 a6 a7 a8 a9 a10 a11 a12 a13 a14 : Option Ow) (x : Ow) (env : Ev) : eVarO 15 (a0 :: a1 :: a2 :: a3 :: a4 :: a5 :: a6 :: a7 :: a8 :: a9 :: a10 :: a11 :: a12 :: a13 :: a14 :: some x :: env) = .ok x := rfl
@[simp] theorem ownL_15 (a0 a1 a2 a3 a4 a5 a6 a7 a8 a9 a10 a11 a12 a13 a14 : Option Ow) (os : List Ow) (env : Ev) (k : List Ow → SR) : ownL 15 (a0 :: a1 :: a2 :: a3 :: a4 :: a5 :: a6 :: a7 :: a8 :: a9 :: a10 :: a11 :: a12 :: a13 :: a14 :: some (.l os) :: env) k = k os := rfl
@[simp] theorem eVar_16 (a0 a1 a2 a3 a4 a5 a6 a7 a8 a9 a10 a11 a12 a13 a14 a15 : Option Ow) (x : D) (env : Ev) : eVar 16 (a0 :: a1 :: a2 :: a3 :: a4 :: a5 :: a6 :: a7 :: a8 :: a9 :: a10 :: a11 :: a12 :: a13 :: a14 :: a15 :: some (.d x) :: env) = .ok x := rfl
@[simp] theorem eVarO_16 (a0 a1 a2 a3 a4 a5 a6 a7 a8 a9 a10 a11 a12 a13 a14 a15 : Option Ow) (x : Ow) (env : Ev) : eVarO 16 (a0 :: a1 :: a2 :: a3 :: a4 :: a5 :: a6 :: a7 :: a8 :: a9 :: a10 :: a11 :: a12 :: a13 :: a14 :: a15 :: some x :: env) = .ok x := rfl
@[simp] theorem ownL_16 (a0 a1 a2 a3 a4 a5 a6 a7 a8 a9 a10 a11 a12 a13 a14 a15 : Option Ow) (os : List Ow) (env : Ev) (k : List Ow → SR) : ownL 16 (a0 :: a1 :: a2 :: a3 :: a4 :: a5 :: a6 :: a7 :: a8 :: a9 :: a10 :: a11 :: a12 :: a13 :: a14 :: a15 :: some (.l os) :: env) k = k os := rfl
@[simp] theorem eVar_17 (a0 a1 a2 a3 a4 a5 a6 a7 a8 a9 a10 a11 a12 a13 a14 a15 a16 : Option Ow) (x : D) (env : Ev) : eVar 17 (a0 :: a1 :: a2 :: a3 :: a4 :: a5 :: a6 :: a7 :: a8 :: a9 :: a10 :: a11 :: a12 :: a13 :: a14 :: a15 :: a16 :: some (.d x) :: env) = .ok x := rfl
@[simp] theorem eVarO_17 (a0 a1 a2 a3 a4 a5 a6 a7 a8 a9 a10 a11 a12 a13 a14 a15 a16 : Option Ow) (x : Ow) (env : Ev) : eVarO 17 (a0 :: a1 :: a2 :: a3 :: a4 :: a5 :: a6 :: a7 :: a8 :: a9 :: a10 :: a11 :: a12 :: a13 :: a14 :: a15 :: a16 :: some x :: env) = .ok x := rfl
@[simp] theorem ownL_17 (a0 a1 a2 a3 a4 a5 a6 a7 a8 a9 a10 a11 a12 a13 a14 a15 a16 : Option Ow) (os : List Ow) (env : Ev) (k : List Ow → SR) : ownL 17 (a0 :: a1 :: a2 :: a3 :: a4 :: a5 :: a6 :: a7 :: a8 :: a9 :: a10 :: a11 :: a12 :: a13 :: a14 :: a15 :: a16 :: some (.l os) :: env) k = k os := rfl
@[simp] theorem eVar_18 (a0 a1 a2 a3 a4 a5 a6 a7 a8 a9 a10 a11 a12 a13 a14 a15 a16 a17 : Option Ow) (x : D) (env : Ev) : eVar 18 (a0 :: a1 :: a2 :: a3 :: a4 :: a5 :: a6 :: a7 :: a8 :: a9 :: a10 :: a11 :: a12 :: a13 :: a14 :: a15 :: a16 :: a17 :: some (.d x) :: env) = .ok x := rfl
@[simp] theorem eVarO_18 (a0 a1 a2 a3 a4 a5 a6 a7 a8 a9 a10 a11 a12 a13 a14 a15 a16 a17 : Option Ow) (x : Ow) (env : Ev) : eVarO 18 (a0 :: a1 :: a2 :: a3 :: a4 :: a5 :: a6 :: a7 :: a8 :: a9 :: a10 :: a11 :: a12 :: a13 :: a14 :: a15 :: a16 :: a17 :: some x :: env) = .ok x := rfl
@[simp] theorem ownL_18 (a0 a1 a2 a3 a4 a5 a6 a7 a8 a9 a10 a11 a12 a13 a14 a15 a16 a17 : Option Ow) (os : List Ow) (env : Ev) (k : List Ow → SR) : ownL 18 (a0 :: a1 :: a2 :: a3 :: a4 :: a5 :: a6 :: a7 :: a8 :: a9 :: a10 :: a11 :: a12 :: a13 :: a14 :: a15 :: a16 :: a17 :: some (.l os) :: env) k = k os := rfl
@[simp] theorem eVar_19 (a0 a1 a2 a3 a4 a5 a6 a7 a8 a9 a10 a11 a12 a13 a14 a15 a16 a17 a18 : Option Ow) (x : D) (env : Ev) : eVar 19 (a0 :: a1 :: a2 :: a3 :: a4 :: a5 :: a6 :: a7 :: a8 :: a9 :: a10 :: a11 :: a12 :: a13 :: a14 :: a15 :: a16 :: a17 :: a18 :: some (.d x) :: env) = .ok x := rfl
@[simp] theorem eVarO_19 (a0 a1 a2 a3 a4 a5 a6 a7 a8 a9 a10 a11 a12 a13 a14 a15 a16 a17 a18 : Option Ow) (x : Ow) (env : Ev) : eVarO 19 (a0 :: a1 :: a2 :: a3 :: a4 :: a5 :: a6 :: a7 :: a8 :: a9 :: a10 :: a11 :: a12 :: a13 :: a14 :: a15 :: a16 :: a17 :: a18 :: some x :: env) = .ok x := rfl
@[simp] theorem ownL_19 (a0 a1 a2 a3 a4 a5 a6 a7 a8 a9 a10 a11 a12 a13 a14 a15 a16 a17 a18 : Option Ow) (os : List Ow) (env : Ev) (k : List Ow → SR) : ownL 19 (a0 :: a1 :: a2 :: a3 :: a4 :: a5 :: a6 :: a7 :: a8 :: a9 :: a10 :: a11 :: a12 :: a13 :: a14 :: a15 :: a16 :: a17 :: a18 :: some (.l os) :: env) k = k os := rfl
@[simp] theorem eVar_20 (a0 a1 a2 a3 a4 a5 a6 a7 a8 a9 a10 a11 a12 a13 a14 a15 a16 a17 a18 a19 : Option Ow) (x : D) (env : Ev) : eVar 20 (a0 :: a1 :: a2 :: a3 :: a4 :: a5 :: a6 :: a7 :: a8 :: a9 :: a10 :: a11 :: a12 :: a13 :: a14 :: a15 :: a16 :: a17 :: a18 :: a19 :: some (.d x) :: env) = .ok x := rfl
@[simp] theorem eVarO_20 (a0 a1 a2 a3 a4 a5 a6 a7 a8 a9 a10 a11 a12 a13 a14 a15 a16 a17 a18 a19 : Option Ow) (x : Ow) (env : Ev) : eVarO 20 (a0 :: a1 :: a2 :: a3 :: a4 :: a5 :: a6 :: a7 :: a8 :: a9 :: a10 :: a11 :: a12 :: a13 :: a14 :: a15 :: a16 :: a17 :: a18 :: a19 :: some x :: env) = .ok x := rfl
@[simp] theorem ownL_20 (a0 a1 a2 a3 a4 a5 a6 a7 a8 a9 a10 a11 a12 a13 a14 a15 a16 a17 a18 a19 : Option Ow) (os : List Ow) (env : Ev) (k : List Ow → SR) : ownL 20 (a0 :: a1 :: a2 :: a3 :: a4 :: a5 :: a6 :: a7 :: a8 :: a9 :: a10 :: a11 :: a12 :: a13 :: a14 :: a15 :: a16 :: a17 :: a18 :: a19 :: some (.l os) :: env) k = k os := rfl
@[simp] theorem eVar_21 (a0 a1 a2 a3 a4 a5 a6 a7 a8 a9 a10 a11 a12 a13 a14 a15 a16 a17 a18 a19 a20 : Option Ow) (x : D) (env : Ev) : eVar 21 (a0 :: a1 :: a2 :: a3 :: a4 :: a5 :: a6 :: a7 :: a8 :: a9 :: a10 :: a11 :: a12 :: a13 :: a14 :: a15 :: a16 :: a17 :: a18 :: a19 :: a20 :: some (.d x) :: env) = .ok x := rfl
@[simp] theorem eVarO_21 (a0 a1 a2 a3 a4 a5 a6 a7 a8 a9 a10 a11 a12 a13 a14 a15 a16 a17 a18 a19 a20 : Option Ow) (x : Ow) (env : Ev) : eVarO 21 (a0 :: a1 :: a2 :: a3 :: a4 :: a5 :: a6 :: a7 :: a8 :: a9 :: a10 :: a11 :: a12 :: a13 :: a14 :: a15 :: a16 :: a17 :: a18 :: a19 :: a20 :: some x :: env) = .ok x := rfl
@[simp] theorem ownL_21 (a0 a1 a2 a3 a4 a5 a6 a7 a8 a9 a10 a11 a12 a13 a14 a15 a16 a17 a18 a19 a20 : Option Ow) (os : List Ow) (env : Ev) (k : List Ow → SR) : ownL 21 (a0 :: a1 :: a2 :: a3 :: a4 :: a5 :: a6 :: a7 :: a8 :: a9 :: a10 :: a11 :: a12 :: a13 :: a14 :: a15 :: a16 :: a17 :: a18 :: a19 :: a20 :: some (.l os) :: env) k = k os := rfl
@[simp] theorem eVar_22 (a0 a1 a2 a3 a4 a5 a6 a7 a8 a9 a10 a11 a12 a13 a14 a15 a16 a17 a18 a19 a20 a21 : Option Ow) (x : D) (env : Ev) : eVar 22 (a0 :: a1 :: a2 :: a3 :: a4 :: a5 :: a6 :: a7 :: a8 :: a9 :: a10 :: a11 :: a12 :: a13 :: a14 :: a15 :: a16 :: a17 :: a18 :: a19 :: a20 :: a21 :: some (.d x) :: env) = .ok x := rfl
@[simp] theorem eVarO_22 (a0 a1 a2 a3 a4 a5 a6 a7 a8 a9 a10 a11 a12 a13 a14 a15 a16 a17 a18 a19 a20 a21 : Option Ow) (x : Ow) (env : Ev) : eVarO 22 (a0 :: a1 :: a2 :: a3 :: a4 :: a5 :: a6 :: a7 :: a8 :: a9 :: a10 :: a11 :: a12 :: a13 :: a14 :: a15 :: a16 :: a17 :: a18 :: a19 :: a20 :: a21 :: some x :: env) = .ok x := rfl
@[simp] theorem ownL_22 (a0 a1 a2 a3 a4 a5 a6 a7 a8 a9 a10 a11 a12 a13 a14 a15 a16 a17 a18 a19 a20 a21 : Option Ow) (os : List Ow) (env : Ev) (k : List Ow → SR) : ownL 22 (a0 :: a1 :: a2 :: a3 :: a4 :: a5 :: a6 :: a7 :: a8 :: a9 :: a10 :: a11 :: a12 :: a13 :: a14 :: a15 :: a16 :: a17 :: a18 :: a19 :: a20 :: a21 :: some (.l os) :: env) k = k os := rfl
@[simp] theorem eVar_23 (a0 a1 a2 a3 a4 a5 a6 a7 a8 a9 a10 a11 a12 a13 a14 a15 a16 a17 a18 a19 a20 a21 a22 : Option Ow) (x : D) (env : Ev) : eVar 23 (a0 :: a1 :: a2 :: a3 :: a4 :: a5 :: a6 :: a7 :: a8 :: a9 :: a10 :: a11 :: a12 :: a13 :: a14 :: a15 :: a16 :: a17 :: a18 :: a19 :: a20 :: a21 :: a22 :: some (.d x) :: env) = .ok x := rfl
@[simp] theorem eVarO_23 (a0 a1 a2 a3 a4 a5 a6 a7 a8 a9 a10 a11 a12 a13 a14 a15 a16 a17 a18 a19 a20 a21 a22 : Option Ow) (x : Ow) (env : Ev) : eVarO 23 (a0 :: a1 :: a2 :: a3 :: a4 :: a5 :: a6 :: a7 :: a8 :: a9 :: a10 :: a11 :: a12 :: a13 :: a14 :: a15 :: a16 :: a17 :: a18 :: a19 :: a20 :: a21 :: a22 :: some x :: env) = .ok x := rfl
@[simp] theorem ownL_23 (a0 a1 a2 a3 a4 a5 a6 a7 a8 a9 a10 a11 a12 a13 a14 a15 a16 a17 a18 a19 a20 a21 a22 : Option Ow) (os : List Ow) (env : Ev) (k : List Ow → SR) : ownL 23 (a0 :: a1 :: a2 :: a3 :: a4 :: a5 :: a6 :: a7 :: a8 :: a9 :: a10 :: a11 :: a12 :: a13 :: a14 :: a15 :: a16 :: a17 :: a18 :: a19 :: a20 :: a21 :: a22 :: some (.l os) :: env) k = k os := rfl
@[simp] theorem eVar_24 (a0 a1 a2 a3 a4 a5 a6 a7 a8 a9 a10 a11 a12 a13 a14 a15 a16 a17 a18 a19 a20 a21 a22 a23 : Option Ow) (x : D) (env : Ev) : eVar 24 (a0 :: a1 :: a2 :: a3 :: a4 :: a5 :: a6 :: a7 :: a8 :: a9 :: a10 :: a11 :: a12 :: a13 :: a14 :: a15 :: a16 :: a17 :: a18 :: a19 :: a20 :: a21 :: a22 :: a23 :: some (.d x) :: env) = .ok x := rfl
@[simp] theorem eVarO_24 (a0 a1 a2 a3 a4 a5 a6 a7 a8 a9 a10 a11 a12 a13 a14 a15 a16 a17 a18 a19 a20 a21 a22 a23 : Option Ow) (x : Ow) (env : Ev) : eVarO 24 (a0 :: a1 :: a2 :: a3 :: a4 :: a5 :: a6 :: a7 :: a8 :: a9 :: a10 :: a11 :: a12 :: a13 :: a14 :: a15 :: a16 :: a17 :: a18 :: a19 :: a20 :: a21 :: a22 :: a23 :: some x :: env) = .ok x := rfl
@[simp] theorem ownL_24 (a0 a1 a2 a3 a4 a5 a6 a7 a8 a9 a10 a11 a12 a13 a14 a15 a16 a17 a18 a19 a20 a21 a22 a23 : Option Ow) (os : List Ow) (env : Ev) (k : List Ow → SR) : ownL 24 (a0 :: a1 :: a2 :: a3 :: a4 :: a5 :: a6 :: a7 :: a8 :: a9 :: a10 :: a11 :: a12 :: a13 :: a14 :: a15 :: a16 :: a17 :: a18 :: a19 :: a20 :: a21 :: a22 :: a23 :: some (.l os) :: env) k = k os := rfl
@[simp] theorem eVar_25 (a0 a1 a2 a3 a4 a5 a6 a7 a8 a9 a10 a11 a12 a13 a14 a15 a16 a17 a18 a19 a20 a21 a22 a23 a24 : Option Ow) (x : D) (env : Ev) : eVar 25 (a0 :: a1 :: a2 :: a3 :: a4 :: a5 :: a6 :: a7 :: a8 :: a9 :: a10 :: a11 :: a12 :: a13 :: a14 :: a15 :: a16 :: a17 :: a18 :: a19 :: a20 :: a21 :: a22 :: a23 :: a24 :: some (.d x) :: env) = .ok x := rfl
@[simp] theorem eVarO_25 (a0 a1 a2 a3 a4 a5 a6 a7 a8 a9 a10 a11 a12 a13 a14 a15 a16 a17 a18 a19 a20 a21 a22 a23 a24 : Option Ow) (x : Ow) (env : Ev) : eVarO 25 (a0 :: a1 :: a2 :: a3 :: a4 :: a5 :: a6 :: a7 :: a8 :: a9 :: a10 :: a11 :: a12 :: a13 :: a14 :: a15 :: a16 :: a17 :: a18 :: a19 :: a20 :: a21 :: a22 :: a23 :: a24 :: some x :: env) = .ok x := rfl
@[simp] theorem ownL_25 (a0 a1 a2 a3 a4 a5 a6 a7 a8 a9 a10 a11 a12 a13 a14 a15 a16 a17 a18 a19 a20 a21 a22 a23 a24 : Option Ow) (os : List Ow) (env : Ev) (k : List Ow → SR) : ownL 25 (a0 :: a1 :: a2 :: a3 :: a4 :: a5 :: a6 :: a7 :: a8 :: a9 :: a10 :: a11 :: a12 :: a13 :: a14 :: a15 :: a16 :: a17 :: a18 :: a19 :: a20 :: a21 :: a22 :: a23 :: a24 :: some (.l os) :: env) k = k os := rfl
theorem fin_step {f g : Ev → SR} {env env1 : Ev} {o : R Ow} (h1 : f env = .nx env1) (h2 : finR (g env1) = o) : finR (sSeq f g env) = o := by
  rw [sSeq_eq, h1]
  exact h2
end Mir
end
set_option Elab.async false
set_option linter.all false
set_option maxRecDepth 100000
set_option maxHeartbeats 4000000
noncomputable section
namespace Mir
open PySem PySem.Spec L2

def PostX (K : Kw) {α β : Type} (P : Hp → α → β → Prop) (F H : Hp) (fp : List Addr) (σ : L2.St) : R (α × Ev) → (β → Hp → Prop) → Prop
  | .ok (a, env), Q => ∀ v F' H' fp', StepS F H fp F' H' fp' → Sat K F' H' σ env fp' → P F' a v → Q v H'
  | _, _ => False
def SmX (K : Kw) {α β : Type} (P : Hp → α → β → Prop) (t : L2.St → Hp → (β → Hp → Prop) → Prop) (f : Ev → R (α × Ev)) : Prop :=
  ∀ F H σ env fp Q, Sat K F H σ env fp → PostX K P F H fp σ (f env) Q → t σ H Q
def XD (K : Kw) (F : Hp) (d : D) (v : V) : Prop := Dp K F v d
section
variable {K : Kw} {α β γ δ : Type} {P : Hp → α → β → Prop} {P2 : Hp → γ → δ → Prop} {F H F1 H1 : Hp} {fp fp1 : List Addr} {σ : L2.St}
theorem PostX.step {r : R (α × Ev)} {Q : β → Hp → Prop} (h : PostX K P F H fp σ r Q) (s : StepS F H fp F1 H1 fp1) : PostX K P F1 H1 fp1 σ r Q := by
  cases r with
  | no => exact h
  | ex c => exact h
  | ok p => exact fun v F' H' fp' s' => h v F' H' fp' (s.trans s')
theorem SmX.go {t : L2.St → Hp → (β → Hp → Prop) → Prop} {f : Ev → R (α × Ev)} (s : SmX K P t f) {g : α × Ev → R (γ × Ev)} {env : Ev} {Q : δ → Hp → Prop} {T : β → Hp → Prop} (sat : Sat K F H σ env fp) (h : PostX K P2 F H fp σ ((f env).bind g) Q)
    (k : ∀ a env1 v F1 H1 fp1, StepS F H fp F1 H1 fp1 → Sat K F1 H1 σ env1 fp1 → P F1 a v → PostX K P2 F1 H1 fp1 σ (g (a, env1)) Q → T v H1) : t σ H T := by
  refine s F H σ env fp T sat ?_
  cases e : f env with
  | no => rw [e] at h; exact h
  | ex c => rw [e] at h; exact h
  | ok p =>
    obtain ⟨a, env1⟩ := p
    rw [e] at h
    exact fun v F' H' fp' st sat' q => k a env1 v F' H' fp' st sat' q (PostX.step (show PostX K P2 F H fp σ (g (a, env1)) Q from h) st)
end
section
variable (X : Cx)
def DXF (e : Expr) (f : Ev → R (D × Ev)) : Prop := ∃ t, PE X e t ∧ SmX X.KK (XD X.KK) t f
end
section
variable {X : Cx} {W : WX} {e a b : Expr} {es : List Expr} {pos p : Pos} {x : Str}
/-- a plain expression -/
def xP (f : Ev → R D) (env : Ev) : R (D × Ev) := match f env with
  | .ok d => .ok (d, env)
  | _ => .no
def xBin (g : D → D → Option D) (f h : Ev → R (D × Ev)) (env : Ev) : R (D × Ev) := (f env).bind fun p => (h p.2).bind fun q => (R.of (g p.1 q.1)).bind fun d => .ok (d, q.2)
def xNil (env : Ev) : R (List D × Ev) := .ok ([], env)
def xCons (f : Ev → R (D × Ev)) (g : Ev → R (List D × Ev)) (env : Ev) : R (List D × Ev) := (f env).bind fun p => (g p.2).bind fun q => .ok (p.1 :: q.1, q.2)
/-- a def that changes nothing, called -/
def xCall (m : List D → R Ow) (fa : Ev → R (List D × Ev)) (env : Ev) : R (D × Ev) := (fa env).bind fun p => match m p.1 with
  | .ok r => .ok (viewD r, p.2)
  | _ => .no
/-- the own list in slot i, changed by a step within it -/
theorem Sat.chg {K : Kw} {F H : Hp} {σ : L2.St} {env : Ev} {fp : List Addr} (sat : Sat K F H σ env fp) {i : Nat} {dk : List D} (hi : env[i]? = some (some (.l (dk.map Ow.d)))) : ∃ a vs, σ[i]? = some (some (.ref a)) ∧ F a = none ∧ H a = some (.lst vs) ∧ DpAll K F vs dk ∧
    ∀ F' H' vs' dk', StepS F H [a] F' H' [a] → Same F' H' → F' a = none → H' a = some (.lst vs') → DpAll K F' vs' dk' → ∃ fp', StepS F H fp F' H' fp' ∧ Sat K F' H' σ (env.set i (some (.l (dk'.map Ow.d)))) fp' := by
  have hl : i < env.length := (List.getElem?_eq_some_iff.mp hi).1
  obtain ⟨fr, fo0, a1, a2, a3, a3', a4, a5, a6⟩ := sat.en.put hl sat.nd
  obtain ⟨v, e1, e2⟩ := a5 _ hi
  cases e2 with
  | @l a vs _ fo h1 h2 h3 =>
    obtain ⟨dp, rfl⟩ := OwnAll.dp h3
    refine ⟨a, vs, e1, h1, h2, dp, fun F' H' vs' dk' st sf fa ha dp' => ?_⟩
    have na : a ∉ fr := a4 a List.mem_cons_self
    obtain ⟨fp', b1, b2, b3⟩ := (a6 F' H' [a] [a] st fun b hb z => na (by rw [← List.mem_singleton.mp z]; exact hb)).2 (.ref a) (.l (dk'.map Ow.d)) [a] (.l fa ha (OwnAll.of_dp dp')) (by simp) fun b hb => by rw [List.mem_singleton.mp hb]; exact na
    rw [set_self e1] at b3
    refine ⟨fp', ⟨st.ff, fun b o q n => st.fr b o q fun z => n (by rw [List.mem_singleton.mp z]; exact a2 a List.mem_cons_self), fun b o q => (st.fn b o q).imp id (.imp (fun z => by rw [List.mem_singleton.mp z]; exact a2 a List.mem_cons_self) id), fun b hb => ?_⟩, sf, b3, b1⟩
    rcases b2 b hb with q | q
    · rw [List.mem_singleton.mp q]; exact .inl (a2 a List.mem_cons_self)
    · exact .inl (a1 b q)
def lstAt (i : Nat) (env : Ev) : Option (List D) := match env[i]? with
  | some (some (.l os)) => unDs os
  | _ => none
theorem lstAt_eq {i : Nat} {env : Ev} {dk : List D} (h : lstAt i env = some dk) : env[i]? = some (some (.l (dk.map Ow.d))) := by
  unfold lstAt at h
  split at h
  · rename_i os e
    rw [e, unDs_eq h]
  · cases h
/-- x.pop() -/
def xPop (i : Nat) (env : Ev) : R (D × Ev) := match lstAt i env with
  | none => .no
  | some dk => match dk.getLast? with
    | none => .no
    | some d => .ok (d, env.set i (some (.l (dk.dropLast.map Ow.d))))
theorem DpAll.dropLast {H : Hp} {K : Kw} {vs : List V} {ds : List D} (h : DpAll K H vs ds) : DpAll K H vs.dropLast ds.dropLast := by
  rw [List.dropLast_eq_take, List.dropLast_eq_take, DpAll.len h]
  exact Mir.DpAll.take _ h
theorem pop_step {F H : Hp} {a : Addr} {vs vs' : List V} (s : Same F H) (h : H a = some (.lst vs)) : StepS F H [a] F (upd H a (.lst vs')) [a] :=
  ⟨Same.refl _, fun b o e n => by rw [upd_ne (fun z => n (by simp [z]))]; exact e, fun b o e => .inl e, fun b z => .inl z⟩
theorem xf_pop {npos apos cpos : Pos} (i : Nat) (hN : X.N[i]? = some x := by rfl) (hv : Vis X.env.scope x := by first | exact Or.inl rfl | exact Or.inr (Or.inl rfl) | exact Or.inr (Or.inr rfl)) (hd : (x == ("__debug__" : Str)) = false := by decide) (hcd : (x == ("__classdict__" : Str)) = false := by decide)
    (hbase : attributeBase (.Name x npos) "pop" X.env (eval (.Name x npos) X.env) = eval (.Name x npos) X.env := by rfl) (hline : (apos.endLine == cpos.line) = true := by rfl) : DXF X (.Call (.Attribute (.Name x npos) "pop" apos) [] [] cpos) (xPop i) := by
  refine ⟨_, pe_bm0 PySem.F.plainAttrs_list PySem.F.slot_list_pop PySem.F.type_list_pop mt_pop (pe_var hN hv hd hcd) hbase hline, fun F H σ env fp Q sat hp => ?_⟩
  unfold xPop at hp
  cases e0 : lstAt i env with
  | none => rw [e0] at hp; exact hp.elim
  | some dk =>
  rw [e0] at hp
  simp only at hp
  obtain ⟨a, vs, b1, b2, b3, b4, b5⟩ := sat.chg (lstAt_eq e0)
  refine ⟨.ref a, b1, .inl ⟨rfl, vs, SqL.of b3⟩, ?_⟩
  cases el : dk.getLast? with
  | none => rw [el] at hp; exact hp.elim
  | some d =>
  rw [el] at hp
  have hl := DpAll.len b4
  rw [List.getLast?_eq_getElem?] at el
  obtain ⟨v, g1, g2⟩ := Mir.DpAll.get b4 el
  refine ⟨a, vs, v, rfl, rfl, b3, by rw [hl]; exact g1, ?_⟩
  obtain ⟨fp', d1, d2⟩ := b5 F (upd H a (.lst vs.dropLast)) vs.dropLast dk.dropLast (pop_step sat.fh b3) (mut_same sat.fh b2) b2 upd_same (Mir.DpAll.dropLast b4)
  exact hp v F _ fp' d1 d2 g2
end
end Mir
end
set_option Elab.async false
set_option linter.all false
set_option maxRecDepth 100000
set_option maxHeartbeats 4000000
noncomputable section
namespace Mir
open PySem PySem.Spec L2

def tOfX (K : Kw) (f : Ev → R (D × Ev)) : TE := fun σ H Q => ∃ F env fp, Sat K F H σ env fp ∧ PostX K (XD K) F H fp σ (f env) Q
theorem DXF.can {X : Cx} {e : Expr} {f : Ev → R (D × Ev)} (h : DXF X e f) : PE X e (tOfX X.KK f) := by
  obtain ⟨t, p, s⟩ := h
  refine PE.imp p ?_
  rintro σ H Q ⟨F, env, fp, sat, h⟩
  exact s F H σ env fp Q sat h
theorem EnvAt.re {K : Kw} {F H : Hp} {σ : L2.St} {env : Ev} {fp : List Addr} (h : EnvAt K F H σ env fp) : ∀ {σ' : L2.St}, σ'.length = σ.length → (∀ (j : Nat) (o : Ow), env[j]? = some (some o) → σ'[j]? = σ[j]?) → EnvAt K F H σ' env fp := by
  induction h with
  | nil =>
    intro σ' hl _
    cases σ' with
    | nil => exact .nil
    | cons => simp at hl
  | @non x σ env fp h ih =>
    intro σ' hl hs
    cases σ' with
    | nil => simp at hl
    | cons y σ' => exact .non (ih (by simpa using hl) fun j o e => by simpa using hs (j + 1) o (by simpa using e))
  | @som v o σ env fp fps h1 h2 ih =>
    intro σ' hl hs
    cases σ' with
    | nil => simp at hl
    | cons y σ' =>
      have := hs 0 o rfl
      simp at this
      subst this
      exact .som h1 (ih (by simpa using hl) fun j o e => by simpa using hs (j + 1) o (by simpa using e))
section
variable {X : Cx} {W : WX} {S : Nat → Bool} {pos : Pos}
def xSet (i : Nat) (r : R (D × Ev)) : SR := match r with
  | .ok (d, env1) => if i < env1.length then .nx (env1.set i (some (.d d))) else .no
  | _ => .no
def sXSet (i : Nat) (f : Ev → R (D × Ev)) (env : Ev) : SR := xSet i (f env)
theorem put_stepX {K : Kw} {F H F1 H1 : Hp} {σ : L2.St} {env env1 : Ev} {fp fp1 : List Addr} {i : Nat} {v : V} {d : D} (sat : Sat K F1 H1 σ env1 fp1) (st : StepS F H fp F1 H1 fp1) (h : Dp K F1 v d) (hi : i < env1.length) :
    ∃ fp', StepS F H fp F1 H1 fp' ∧ Sat K F1 H1 (σ.set i (some v)) (env1.set i (some (.d d))) fp' := by
  obtain ⟨fp', s1, s2⟩ := sat.put hi (OwnAt.d h) List.nodup_nil (fun _ z => nomatch z)
  exact ⟨fp', st.subset fun b hb => (s2 b hb).elim (fun z => nomatch z) id, s1⟩
theorem xset_post {F H : Hp} {σ : L2.St} {env : Ev} {fp : List Addr} {D' : Ends} {i : Nat} {f : Ev → R (D × Ev)} (hS : S i = true) (h : PostS X W S σ F H fp D' (sXSet i f env)) : PostX X.KK (XD X.KK) F H fp σ (f env) fun v H' => D'.nx (σ.set i (some v)) H' := by
  unfold sXSet xSet at h
  cases e : f env with
  | no => rw [e] at h; exact h
  | ex c => rw [e] at h; exact h
  | ok p =>
    obtain ⟨d, env1⟩ := p
    rw [e] at h
    intro v F' H' fp' st sat q
    have h' : PostS X W S σ F H fp D' (if i < env1.length then .nx (env1.set i (some (.d d))) else .no) := h
    split at h'
    · obtain ⟨fp2, s1, s2⟩ := put_stepX (env := env) sat st q ‹_›
      exact h' _ F' H' fp2 (.set hS _) s1 s2
    · exact h'.elim
theorem ds_xset {e : Expr} {f : Ev → R (D × Ev)} {x : Str} {pos' : Pos} (i : Nat) (hN : X.N.Nodup) (he : DXF X e f) (hi : X.N[i]? = some x := by rfl) (hx : Loc X.env.scope x := by first | exact Or.inl rfl | exact Or.inr rfl)
    (hs : swapsWith e (some (.Name x pos')) pos.line X.env = pure false := by rfl) (hf : X.fn x = true ∨ X.env.scope.names.lookup x = some .local := by first | exact .inl rfl | exact .inr rfl | assumption) (hS : S i = true := by rfl) : DS X W S (.Assign [.Name x pos'] e pos) (sXSet i f) := by
  obtain ⟨t, p, s⟩ := he
  exact ⟨_, ps_set hN hi hx p hs hf, fun F H σ env fp D sat h => s F H σ env fp _ sat (xset_post hS h)⟩
def sXRet (f : Ev → R (D × Ev)) (env : Ev) : SR := match f env with
  | .ok (d, env1) => .rt (.d d) env1
  | _ => .no
/-- tuple(e), list handed -/
def xCa (g : List D → Option Ow) (fa : Ev → R (List D × Ev)) (env : Ev) : R (D × Ev) := (fa env).bind fun p => match g p.1 with
  | some r => .ok (viewD r, p.2)
  | none => .no
end
section
variable {P : Program} {w : World} {K : PySem.W.Frag} {mg : Str → Option Value} {base : Heap}
end
end Mir
end
set_option Elab.async false
set_option linter.all false
set_option maxRecDepth 100000
set_option maxHeartbeats 4000000
noncomputable section
namespace RT
open PySem PySem.Spec PyProof.Rows
section
variable {prog : Program} {w : World} {A : Around} {E : Value → Shared → Prop} {s : Shared}
end
end RT
namespace Mir
open PySem PySem.Spec PyProof.Rows L2 RT
section
variable {X : Cx} {W : WX}
def gListRev : D → Option Ow
  | .list ds => some (.l (ds.reverse.map Ow.d))
  | _ => none
@[simp] theorem gListRev_list (ds : List D) : gListRev (.list ds) = some (.l (ds.reverse.map Ow.d)) := rfl
theorem DpAll.reverse {K : Kw} {H : Hp} : ∀ {ds : List D} {vs : List V}, DpAll K H vs ds → DpAll K H vs.reverse ds.reverse
  | [], _, h => by cases h; exact .nil
  | d :: ds, _, h => by
    cases h with
    | cons h1 h2 =>
      rw [List.reverse_cons, List.reverse_cons]
      exact Mir.DpAll.append (DpAll.reverse h2) (.cons h1 .nil)
def eListRev (f : Ev → R D) (env : Ev) : R Ow := (f env).bind fun d => R.of (gListRev d)
@[simp] theorem eListRev_eq (f : Ev → R D) (env : Ev) : eListRev f env = (f env).bind fun d => R.of (gListRev d) := rfl
end
end Mir
end
set_option Elab.async false
set_option linter.all false
set_option maxRecDepth 100000
set_option maxHeartbeats 4000000
noncomputable section
namespace Mir
open PySem PySem.Spec PyProof.Rows L2
def repS (z : Str) (n : Nat) : Str := ⟨(List.replicate n z.cps.toList).flatten.toArray⟩
theorem foldl_rep (a : Array Nat) : ∀ (n : Nat) (b : Array Nat), ((List.replicate n a).foldl (· ++ ·) b) = ⟨b.toList ++ (List.replicate n a.toList).flatten⟩
  | 0, b => by simp
  | n + 1, b => by
    rw [List.replicate_succ, List.foldl_cons, foldl_rep a n, List.replicate_succ, List.flatten_cons]
    simp
section
variable {X : Cx} {W : WX} {a b : Expr} {pos : Pos} {f g : Ev → R D}
theorem op_mul_strN : OpR X (binaryOp .Mult) (fun x y H Q => ∃ (z : Str) (n : Nat), x = .str z ∧ y = .int (n : Int) ∧ 1 ≤ n ∧ n ≤ 1000000 ∧ z.length * n ≤ sizeLine ∧ Q (.str (repS z n)) H) := by
  intro pins s σ H x y v u Q I rx ry h
  obtain ⟨z, n, rfl, rfl, h1, hn, hz, q⟩ := h
  obtain ⟨t, rfl⟩ := rx
  obtain ⟨t', rfl⟩ := ry
  have s0 : sizeLine = 16777216 := sizeLine_eq
  refine PySem.P.mul_str ?_ (fun _ _ => ?_) (fun _ _ => ?_) ?_
  · rw [decide_eq_false (by omega), decide_eq_false (by omega)]; rfl
  · rw [Int.not_lt]
    refine Int.le_ediv_of_mul_le (by omega) ?_
    have : ((z.length * n : Nat) : Int) ≤ 16777216 := by omega
    rw [Int.natCast_mul] at this
    omega
  · unfold Builtin.Str.tooLong
    rw [Int.toNat_natCast]
    exact decide_eq_false (by omega)
  · rw [if_neg (by omega)]
    have e1 : (⟨(List.replicate (n : Int).toNat z.cps).foldl (· ++ ·) #[]⟩ : Str) = repS z n := by
      rw [foldl_rep, Int.toNat_natCast]
      unfold repS
      simp
    split
    · rename_i c
      have ez : repS z n = z := by
        unfold repS
        simp only [Bool.or_eq_true, beq_iff_eq] at c
        rcases c with c | c
        · have : n = 1 := by omega
          subst this
          simp
        · have : z.cps.toList = [] := by
            have : z.cps.size = 0 := c
            simpa using this
          rw [this]
          cases z with
          | mk a => simp at this ⊢; subst this; simp
      rw [ez] at q
      exact ⟨.str z, H, I, ⟨_, rfl⟩, q⟩
    · rw [e1]
      refine ⟨?_, ⟨.str (repS z n), H, I.tok _, ⟨_, rfl⟩, q⟩⟩
      have : (repS z n).length = n * z.length := by
        show (repS z n).cps.size = n * z.cps.size
        unfold repS
        simp
      rw [this, Nat.mul_comm]
      exact hz
def gMulS : D → D → Option D
  | .int i, .int j => gMul (.int i) (.int j)
  | .str z, .int n => if 1 ≤ n ∧ n ≤ 1000000 ∧ z.length * n.toNat ≤ sizeLine then some (.str (repS z n.toNat)) else none
  | _, _ => none
@[simp] theorem gMulS_int (i j : Int) : gMulS (.int i) (.int j) = gMul (.int i) (.int j) := rfl
theorem op_mulSV : OpR X (binaryOp .Mult) (fun x y H Q => rI (fun i j => CMul i j ∨ CMulW i j) (fun i j => .int (i * j)) x y H Q ∨ ∃ (z : Str) (n : Nat), x = .str z ∧ y = .int (n : Int) ∧ 1 ≤ n ∧ n ≤ 1000000 ∧ z.length * n ≤ sizeLine ∧ Q (.str (repS z n)) H) := OpR.or op_mulV op_mul_strN
def gIsB : D → D → Option D
  | .bool p, .bool q => some (.bool (p == q))
  | _, _ => none
def gNotB : D → D → Option D
  | .bool p, .bool q => some (.bool (!(p == q)))
  | _, _ => none
@[simp] theorem gIsB_bool (p q : Bool) : gIsB (.bool p) (.bool q) = some (.bool (p == q)) := rfl
@[simp] theorem gNotB_bool (p q : Bool) : gNotB (.bool p) (.bool q) = some (.bool (!(p == q))) := rfl
section
variable {F G : Ev → R (D × Ev)}
end
end
end Mir
end
set_option Elab.async false
set_option linter.all false
set_option maxRecDepth 100000
set_option maxHeartbeats 4000000
noncomputable section
namespace Mir
open PySem PySem.Spec L2
section
variable {X : Cx} {W : WX} {S : Nat → Bool} {pos : Pos}
/-- a target stored from an expression that changes own lists -/
def sXAsg (g : D → Ev → Option Ev) (f : Ev → R (D × Ev)) (env : Ev) : SR := match f env with
  | .ok (d, env1) => match g d env1 with
    | some env2 => .nx env2
    | none => .no
  | _ => .no
end
def flatD : D → Bool
  | .none => true
  | .bool _ => true
  | .int _ => true
  | .str _ => true
  | _ => false
def flatR : R Ow → R D
  | .ok (.d x) => if flatD x = true then .ok x else .no
  | .ex c => .ex c
  | _ => .no
def eCallV (m : List D → R Ow) (fa : Ev → R (List D)) (env : Ev) : R D := (fa env).bind fun ds => flatR (m ds)
@[simp] theorem eCallV_eq (m : List D → R Ow) (fa : Ev → R (List D)) (env : Ev) : eCallV m fa env = (fa env).bind fun ds => flatR (m ds) := rfl
@[simp] theorem flatR_bool (b : Bool) : flatR (.ok (.d (.bool b))) = .ok (.bool b) := rfl
@[simp] theorem flatR_int (b : Int) : flatR (.ok (.d (.int b))) = .ok (.int b) := rfl
@[simp] theorem flatR_none : flatR (.ok (.d .none)) = .ok .none := rfl
section
variable {X : Cx} {W : WX} {e : Expr} {es : List Expr} {pos p : Pos}
end
section
variable (env : Ev)
theorem lstAt_of {i : Nat} {env : Ev} {dk : List D} (h : env[i]? = some (some (.l (dk.map Ow.d)))) : lstAt i env = some dk := by unfold lstAt; rw [h]; exact unDs_map dk
@[simp] theorem lstAt_0 (dk : List D) : lstAt 0 (some (.l (dk.map Ow.d)) :: env) = some dk := lstAt_of rfl
@[simp] theorem lstAt_0n : lstAt 0 (some (.l []) :: env) = some [] := rfl
@[simp] theorem lstAt_s (i : Nat) (x : Option Ow) : lstAt (i + 1) (x :: env) = lstAt i env := by unfold lstAt; rw [List.getElem?_cons_succ]
@[simp] theorem xP_eq (f : Ev → R D) : xP f env = match f env with
  | .ok d => .ok (d, env)
  | _ => .no := rfl
@[simp] theorem xBin_eq (g : D → D → Option D) (f h : Ev → R (D × Ev)) : xBin g f h env = (f env).bind fun p => (h p.2).bind fun q => (R.of (g p.1 q.1)).bind fun d => .ok (d, q.2) := rfl
@[simp] theorem xNil_eq : xNil env = .ok ([], env) := rfl
@[simp] theorem xCons_eq (f : Ev → R (D × Ev)) (g : Ev → R (List D × Ev)) : xCons f g env = (f env).bind fun p => (g p.2).bind fun q => .ok (p.1 :: q.1, q.2) := rfl
@[simp] theorem xCall_eq (m : List D → R Ow) (fa : Ev → R (List D × Ev)) : xCall m fa env = (fa env).bind fun p => match m p.1 with
  | .ok r => .ok (viewD r, p.2)
  | _ => .no := rfl
@[simp] theorem xCa_eq (g : List D → Option Ow) (fa : Ev → R (List D × Ev)) : xCa g fa env = (fa env).bind fun p => match g p.1 with
  | some r => .ok (viewD r, p.2)
  | none => .no := rfl
@[simp] theorem sXSet_eq (i : Nat) (f : Ev → R (D × Ev)) : sXSet i f env = match f env with
  | .ok (d, env1) => if i < env1.length then .nx (env1.set i (some (.d d))) else .no
  | _ => .no := by unfold sXSet xSet; rfl
@[simp] theorem sXRet_eq (f : Ev → R (D × Ev)) : sXRet f env = match f env with
  | .ok (d, env1) => .rt (.d d) env1
  | _ => .no := rfl
@[simp] theorem sXAsg_eq (g : D → Ev → Option Ev) (f : Ev → R (D × Ev)) : sXAsg g f env = match f env with
  | .ok (d, env1) => match g d env1 with
    | some env2 => .nx env2
    | none => .no
  | _ => .no := rfl
theorem xPop_of {i : Nat} {env : Ev} {dk : List D} {d : D} (h : env[i]? = some (some (.l ((dk ++ [d]).map Ow.d)))) : xPop i env = .ok (d, env.set i (some (.l (dk.map Ow.d)))) := by
  unfold xPop
  rw [lstAt_of h]
  simp
end
end Mir
end
set_option Elab.async false
set_option linter.all false
set_option maxRecDepth 100000
set_option maxHeartbeats 4000000
noncomputable section
namespace Mir
open PySem PySem.Spec PyProof.Rows L2
def strsD : List D → Option (List Str)
  | [] => some []
  | .str z :: ds => (strsD ds).map fun zs => z :: zs
  | _ :: _ => none
theorem strsD_map : ∀ zs : List Str, strsD (zs.map PyData.str) = some zs
  | [] => rfl
  | z :: zs => by rw [List.map_cons, strsD, strsD_map zs]; rfl
theorem strsD_dp {K : Kw} {F : Hp} : ∀ {ds : List D} {vs : List V} {zs : List Str}, DpAll K F vs ds → strsD ds = some zs → vs = zs.map V.str
  | [], vs, zs, h, e => by cases h; cases e; rfl
  | d :: ds, vs, zs, h, e => by
    cases h with
    | cons h1 h2 =>
      unfold strsD at e
      split at e
      · rename_i he; cases he
      · rename_i z ds' he
        cases he
        obtain ⟨ws, w1, rfl⟩ := Option.map_eq_some_iff.mp e
        rw [strsD_dp h2 w1, List.map_cons]
        cases dp_str h1
        rfl
      · cases e
def joinS (a : Str) (ys : List Str) : Option D := open Classical in if (ys.map (·.length)).sum + ys.length * a.length ≤ 16777216 then some (.str (Txt.join a ys)) else none
def gJoin : D → D → Option D
  | .str a, .list ds => (strsD ds).bind (joinS a)
  | .str a, .tuple ds => (strsD ds).bind (joinS a)
  | _, _ => none
theorem joinS_ok {a : Str} {ys : List Str} (h : (ys.map (·.length)).sum + ys.length * a.length ≤ 16777216) : joinS a ys = some (.str (Txt.join a ys)) := by
  unfold joinS
  rw [if_pos h]
theorem gJoin_list {a : Str} {ys : List Str} (h : (ys.map (·.length)).sum + ys.length * a.length ≤ 16777216) : gJoin (.str a) (.list (ys.map PyData.str)) = some (.str (Txt.join a ys)) := by
  show (strsD _).bind _ = _
  rw [strsD_map]
  exact joinS_ok h
def eJoin (f g : Ev → R D) (env : Ev) : R D := (f env).bind fun d => match d with
  | .str z => (g env).bind fun d' => R.of (gJoin (.str z) d')
  | _ => .no
theorem eJoin_eq {f g : Ev → R D} {env : Ev} {a : Str} {d : D} (h : f env = .ok (.str a)) (h2 : g env = .ok d) : eJoin f g env = R.of (gJoin (.str a) d) := by
  unfold eJoin
  rw [h, R.bind_ok]
  simp only [h2, R.bind_ok]
section
variable {X : Cx} {W : WX} {o e : Expr} {apos pos : Pos} {f g : Ev → R D}
theorem joinS_some {a : Str} {ys : List Str} {d : D} (h : joinS a ys = some d) : (ys.map (·.length)).sum + ys.length * a.length ≤ 16777216 ∧ d = .str (Txt.join a ys) := by
  unfold joinS at h
  split at h
  · rename_i c
    exact ⟨c, (Option.some.inj h).symm⟩
  · cases h
theorem df_join (ho : DV X W o f) (he : DL X W e g)
    (hs : starEach [e] X.env = [(false, eval e X.env)] := by rfl)
    (hb : attributeBase o (Str.ofString "join") X.env (eval o X.env) = eval o X.env := by rfl)
    (hp : (apos.endLine == pos.line) = true := by rfl) : DF X W (.Call (.Attribute o "join" apos) [e] [] pos) (eJoin f g) := by
  obtain ⟨ta, pa, sa⟩ := ho
  obtain ⟨tb, pb, sb⟩ := he
  refine ⟨_, pe_join pa pb hs hb hp, fun F H σ env fp Q sat hp => ?_⟩
  refine sa.go sat hp fun d v F1 H1 sat1 q _ h1 => ?_
  have key : ∀ z, d = .str z → (∃ a, v = V.str a) := fun z hz => by subst hz; cases dp_str q; exact ⟨_, rfl⟩
  cases d with
  | str z =>
    refine ⟨key z rfl, ?_⟩
    cases dp_str q
    refine sb.go sat1 h1 fun d' v' F2 H2 sat2 q' x2 h2 => ?_
    obtain ⟨r, hr, h3⟩ := post_of h2
    cases d' with
    | list ds =>
      obtain ⟨ys, y1, y2⟩ := Option.bind_eq_some_iff.mp hr
      obtain ⟨c, rfl⟩ := joinS_some y2
      obtain ⟨p, vs, rfl, p1, p2⟩ := q'
      have ev := strsD_dp p2 y1
      subst ev
      exact ⟨z, p, ys, rfl, rfl, .inl p1, c, h3 _ _ _ (.refl sat2.fh) (.str _)⟩
    | tuple ds =>
      obtain ⟨ys, y1, y2⟩ := Option.bind_eq_some_iff.mp hr
      obtain ⟨c, rfl⟩ := joinS_some y2
      obtain ⟨p, vs, rfl, p1, p2⟩ := dp_tup q'
      have ev := strsD_dp p2 y1
      subst ev
      exact ⟨z, p, ys, rfl, rfl, .inr (SqT_mono sat2.fh p1), c, h3 _ _ _ (.refl sat2.fh) (.str _)⟩
    | _ => cases hr
  | _ => exact h1.elim
end
end Mir
end
set_option Elab.async false
set_option linter.all false
set_option maxRecDepth 100000
set_option maxHeartbeats 4000000
noncomputable section
namespace Mir
open PySem PySem.Spec PyProof.Rows L2
section
variable {X : Cx} {W : WX} {S : Nat → Bool} {e a b : Expr} {es : List Expr} {pos p : Pos} {x : Str}
def xTup (f : Ev → R (List D × Ev)) (env : Ev) : R (D × Ev) := (f env).bind fun p => guard (p.1.length ≤ sizeLine) (.ok (.tuple p.1, p.2))
def xBinO (g : D → D → Option Ow) (f h : Ev → R (D × Ev)) (env : Ev) : R (D × Ev) := (f env).bind fun p => (h p.2).bind fun q => (R.of (g p.1 q.1)).bind fun o => .ok (viewD o, q.2)
def xRg1 (f : Ev → R (List D × Ev)) (env : Ev) : R (List D × Ev) := (f env).bind fun p => (rg1 p.1).bind fun ds => .ok (ds, p.2)
end
section
variable {X : Cx} {W : WX} {S : Nat → Bool} {e : Expr} {pos cpos apos npos : Pos} {x : Str}
section
variable (env : Ev)
@[simp] theorem xTup_eq (f : Ev → R (List D × Ev)) : xTup f env = (f env).bind fun p => guard (p.1.length ≤ sizeLine) (.ok (.tuple p.1, p.2)) := rfl
@[simp] theorem xBinO_eq (g : D → D → Option Ow) (f h : Ev → R (D × Ev)) : xBinO g f h env = (f env).bind fun p => (h p.2).bind fun q => (R.of (g p.1 q.1)).bind fun o => .ok (viewD o, q.2) := rfl
@[simp] theorem xRg1_eq (f : Ev → R (List D × Ev)) : xRg1 f env = (f env).bind fun p => (rg1 p.1).bind fun ds => .ok (ds, p.2) := rfl
end
end
end Mir
end
set_option Elab.async false
set_option linter.all false
set_option maxRecDepth 100000
set_option maxHeartbeats 4000000
noncomputable section
namespace Mir
open PySem PySem.Spec PyProof.Rows L2
def pairsD : List D → Option (List (Str × D))
  | [] => some []
  | .tuple [.str k, v] :: ds => (pairsD ds).map fun r => (k, v) :: r
  | _ :: _ => none
/-- the last pair of the key -/
def lastP : List (Str × D) → Str → Option D
  | [], _ => none
  | p :: ps, k => (lastP ps k).or (if p.1 = k then some p.2 else none)
def asPairs : D → Option (List (Str × D))
  | .list ds => pairsD ds
  | _ => none
def lookP (ps : List (Str × D)) : D → Option D
  | .str k => lastP ps k
  | _ => none
def eDictIx (f g : Ev → R D) (env : Ev) : R D := (f env).bind fun d => match asPairs d with
  | none => .no
  | some ps => (g env).bind fun k => R.of (lookP ps k)
def inP (ps : List (Str × D)) (no : Bool) : D → Option D
  | .str k => some (.bool ((lastP ps k).isSome != no))
  | _ => none
def eInDict (no : Bool) (g f : Ev → R D) (env : Ev) : R D := (g env).bind fun k => (f env).bind fun d => match asPairs d with
  | none => .no
  | some ps => R.of (inP ps no k)
@[simp] theorem eDictIx_eq (f g : Ev → R D) (env : Ev) : eDictIx f g env = (f env).bind fun d => match asPairs d with
  | none => .no
  | some ps => (g env).bind fun k => R.of (lookP ps k) := rfl
@[simp] theorem eInDict_eq (no : Bool) (g f : Ev → R D) (env : Ev) : eInDict no g f env = (g env).bind fun k => (f env).bind fun d => match asPairs d with
  | none => .no
  | some ps => R.of (inP ps no k) := rfl
@[simp] theorem lookP_str (ps : List (Str × D)) (k : Str) : lookP ps (.str k) = lastP ps k := rfl
@[simp] theorem inP_str (ps : List (Str × D)) (no : Bool) (k : Str) : inP ps no (.str k) = some (.bool ((lastP ps k).isSome != no)) := rfl
section
variable {X : Cx} {W : WX} {e key : Expr} {p pos cpos : Pos} {f g : Ev → R D}
end
section
variable {X : Cx} {W : WX} {a b c : Expr} {pos : Pos} {f g h : Ev → R D}
end
end Mir
end
set_option Elab.async false
set_option linter.all false
set_option maxRecDepth 100000
set_option maxHeartbeats 4000000
noncomputable section
namespace Mir
open PySem PySem.Spec PyProof.Rows L2
section
variable {X : Cx} {W : WX} {tg e e2 e3 : Expr} {p pos : Pos} {fa : Ev → R (List D)}
end
end Mir
end
set_option Elab.async false
set_option linter.all false
set_option maxRecDepth 100000
set_option maxHeartbeats 4000000
noncomputable section
namespace Mir
open PySem PySem.Spec PyProof.Rows L2
open AutoSeq1 (wpAny_loadPart')
section
variable {X : Cx} {W : WX} {S : Nat → Bool} {e : Expr} {pos cpos apos npos : Pos} {x : Str}
def asT : D → R (List D)
  | .tuple ds => .ok ds
  | _ => .no
@[simp] theorem asT_tup (ds : List D) : asT (.tuple ds) = .ok ds := rfl
def sExtT (i : Nat) (f : Ev → R D) (env : Ev) : SR := ownL i env fun os => (f env).st env fun d => (asT d).st env fun ds => if os.length + ds.length ≤ sizeLine then .nx (env.set i (some (.l (os ++ ds.map Ow.d)))) else .no
@[simp] theorem sExtT_eq (i : Nat) (f : Ev → R D) (env : Ev) : sExtT i f env = ownL i env fun os => (f env).st env fun d => (asT d).st env fun ds => if os.length + ds.length ≤ sizeLine then .nx (env.set i (some (.l (os ++ ds.map Ow.d)))) else .no := rfl
end
end Mir
end
set_option Elab.async false
set_option linter.all false
set_option maxRecDepth 100000
set_option maxHeartbeats 4000000
noncomputable section
namespace Mir
open PySem PySem.Spec PySem.Calls PyProof.Rows L2
def keyEq : D → D → Bool
  | .int i, .int j => i == j
  | .str x, .str y => x == y
  | _, _ => false
def isKey : D → Bool
  | .int _ => true
  | .str _ => true
  | _ => false
def getP (ps : List (D × D)) (k : D) : Option D := (ps.find? fun p => keyEq p.1 k).map (·.2)
def putP (ps : List (D × D)) (k v : D) : List (D × D) := if (ps.any fun p => keyEq p.1 k) = true then ps.map (fun p => if keyEq p.1 k = true then (p.1, v) else p) else ps ++ [(k, v)]
section
variable {X : Cx} {W : WX} {S : Nat → Bool} {e k : Expr} {pos tpos npos p2 : Pos} {x : Str} {f g : Ev → R D}
/-- {} -/
def eDictNew (_ : Ev) : R Ow := .ok (.m [])
@[simp] theorem eDictNew_eq (env : Ev) : eDictNew env = .ok (.m []) := rfl
/-- the own dict at a slot -/
def mAt (i : Nat) (env : Ev) : Option (List (D × D)) := match env[i]? with
  | some (some (.m ps)) => some ps
  | _ => none
/-- d[k], d any data that is a dict -/
def gGetD : D → D → Option D
  | .dict ps, k => if isKey k = true then getP ps k else none
  | _, _ => none
end
@[simp] theorem mAt_0 (ps : List (D × D)) (env : Ev) : mAt 0 (some (.m ps) :: env) = some ps := rfl
@[simp] theorem mAt_s (i : Nat) (x : Option Ow) (env : Ev) : mAt (i + 1) (x :: env) = mAt i env := by unfold mAt; rw [List.getElem?_cons_succ]
@[simp] theorem mAt_1 (a0 : Option Ow) (ps : List (D × D)) (env : Ev) : mAt 1 (a0 :: some (.m ps) :: env) = some ps := rfl
@[simp] theorem mAt_2 (a0 a1 : Option Ow) (ps : List (D × D)) (env : Ev) : mAt 2 (a0 :: a1 :: some (.m ps) :: env) = some ps := rfl
@[simp] theorem mAt_3 (a0 a1 a2 : Option Ow) (ps : List (D × D)) (env : Ev) : mAt 3 (a0 :: a1 :: a2 :: some (.m ps) :: env) = some ps := rfl
@[simp] theorem mAt_4 (a0 a1 a2 a3 : Option Ow) (ps : List (D × D)) (env : Ev) : mAt 4 (a0 :: a1 :: a2 :: a3 :: some (.m ps) :: env) = some ps := rfl
@[simp] theorem gGetD_dict (ps : List (D × D)) (k : D) : gGetD (.dict ps) k = if isKey k = true then getP ps k else none := rfl
@[simp] theorem isKey_int (i : Int) : isKey (.int i) = true := rfl
@[simp] theorem isKey_str (z : Str) : isKey (.str z) = true := rfl
end Mir
end
set_option Elab.async false
set_option linter.all false
set_option maxRecDepth 100000
set_option maxHeartbeats 4000000
noncomputable section
namespace Mir
open PySem PySem.Spec L2
section
variable {X : Cx} {W : WX} {S : Nat → Bool} {e k : Expr} {pos tpos npos p2 : Pos} {x : Str} {f g : Ev → R D}
/-- what a stateful expression tells, walked: a list -/
def xSeq (f : Ev → R (D × Ev)) (env : Ev) : R (List D × Ev) := (f env).bind fun p => match p.1 with
  | .list ds => .ok (ds, p.2)
  | _ => .no
@[simp] theorem xSeq_eq (f : Ev → R (D × Ev)) (env : Ev) : xSeq f env = (f env).bind fun p => match p.1 with
  | .list ds => .ok (ds, p.2)
  | _ => .no := rfl
end
end Mir
end
set_option Elab.async false
set_option linter.all false
set_option maxRecDepth 100000
set_option maxHeartbeats 4000000
noncomputable section
namespace Mir
open PySem PySem.Spec PyProof.Rows L2
/-- what is to be known of an own class over ValueError -/
structure ExcT (K : PySem.W.Frag) (mg : Str → Option Value) (x : Str) (C : Addr) : Prop where
  gC : mg x = some (.ref C)
  ex : PySem.W.excIn K C [.type "ValueError", .type "Exception", .type "BaseException", .type "object"] "ValueError.__new__" = true
  kC : PySem.W.keepIn K (.ref C) = true
  bP : PySem.W.subIn K (.ref C) (.type "BaseException") = some true
  tP : PySem.W.typeIn K (.ref C) = some (.type "type")
def sRaise (x : Str) (env : Ev) : SR := .ex x env
@[simp] theorem sRaise_eq (x : Str) (env : Ev) : sRaise x env = .ex x env := rfl
section
variable {X : Cx} {W : WX} {S : Nat → Bool} {pos p p2 np pos' : Pos} {x m : Str} {j : Nat} {C : Addr}
theorem ds_raise (hc : X.calm = true) (tk : Takes X W) (T : ExcT X.K X.mg x C) (hg : Gl X x) (hdb : (x == ("__debug__" : Str)) = false := by decide) : DS X W S (.Raise (some (.Call (.Name x p) [.Constant (.str m) j p2] [] pos')) none pos) (sRaise x) := by
  refine ⟨_, ps_raise hc tk (pmk_own PySem.F.excBase_ValueError T.ex T.gC T.kC (raises_own T.bP T.tP) hg hdb), fun F H σ env fp D sat h => ?_⟩
  exact h C σ F H fp T.gC (.refl _ _) (StepS.of_ext (.refl sat.fh) fp) sat
theorem PSs.imp {st : List Stmt} {t t' : TS} (h : PSs X st t) (k : ∀ D σ H, t' D σ H → t D σ H) : PSs X st t' := ⟨fun pins s σ H D I q => h.run pins s σ H D I (k D σ H q)⟩
/-- canonical: what a block's mirror asks -/
def tsOf (X : Cx) (W : WX) (S : Nat → Bool) (f : Ev → SR) : TS := fun D σ H => ∃ F env fp, Sat X.KK F H σ env fp ∧ PostS X W S σ F H fp D (f env)
theorem DSs.can {st : List Stmt} {f : Ev → SR} (h : DSs X W S st f) : PSs X st (tsOf X W S f) := by
  obtain ⟨t, p, s⟩ := h
  refine PSs.imp p ?_
  rintro D σ H ⟨F, env, fp, sat, h⟩
  exact s F H σ env fp D sat h
end
section
variable {X : Cx} {W : WX} {S : Nat → Bool} {i : Nat} {a : Addr} {pos p p2 np pos' : Pos} {x n T : Str} {e e1 e2 : Expr} {g g1 g2 : Ev → R D}
/-- a flat name -/
def eFlat (k : Nat) (env : Ev) : R D := (eVar k env).bind fun d => if flatD d = true then .ok d else .no
@[simp] theorem eFlat_eq (k : Nat) (env : Ev) : eFlat k env = (eVar k env).bind fun d => if flatD d = true then .ok d else .no := rfl
/-- int(a truth) -/
def eIntB (g : Ev → R D) (env : Ev) : R D := (g env).bind fun d => match d with
  | .bool b => .ok (.int (if b = true then 1 else 0))
  | _ => .no
@[simp] theorem eIntB_eq (g : Ev → R D) (env : Ev) : eIntB g env = (g env).bind fun d => match d with
  | .bool b => .ok (.int (if b = true then 1 else 0))
  | _ => .no := rfl
/-- + of whole numbers -/
def eAddI (g1 g2 : Ev → R D) (env : Ev) : R D := (g1 env).bind fun x => (g2 env).bind fun y => match x, y with
  | .int i, .int j => .ok (.int (i + j))
  | _, _ => .no
@[simp] theorem eAddI_eq (g1 g2 : Ev → R D) (env : Ev) : eAddI g1 g2 env = (g1 env).bind fun x => (g2 env).bind fun y => match x, y with
  | .int i, .int j => .ok (.int (i + j))
  | _, _ => .no := rfl
theorem sat_set {K : Kw} {F H : Hp} {σ : L2.St} {env : Ev} {fp : List Addr} (sat : Sat K F H σ env fp) {i : Nat} (hi : i < env.length) (x : Option V) : ∃ fr, (∀ b ∈ fr, b ∈ fp) ∧ Sat K F H (σ.set i x) (env.set i none) fr := by
  obtain ⟨fr, fo, a1, a2, a3, a3', a4, a5, a6⟩ := sat.en.put hi sat.nd
  exact ⟨fr, a1, sat.fh, (a6 F H [] [] (StepS.of_ext (.refl sat.fh) []) fun b _ z => nomatch z).1 x, a3⟩
end
end Mir
end
set_option Elab.async false
set_option linter.all false
set_option maxRecDepth 100000
set_option maxHeartbeats 4000000
noncomputable section
namespace Mir
open PySem PySem.Spec PyProof.Rows L2
section
variable {X : Cx} {W : WX} {S : Nat → Bool} {i : Nat} {a : Addr} {pos p p2 np pos' : Pos} {x n T : Str} {e e1 e2 : Expr} {g g1 g2 : Ev → R D}
end
section
variable {K : PySem.W.Frag}
theorem kit_ref {D A : Addr} {b : Bool} (hd : PySem.W.hasDictIn K A = true) (ht : PySem.W.typeIn K (.ref A) = some (.type "type")) (hs : PySem.W.subIn K (.ref D) (.ref A) = some b) (hr : PySem.W.subIn K (.ref D) (.ref D) = some true) : PySem.W.kitOne K (.ref D) (.ref A) = some b := by
  obtain ⟨cd, hc, _⟩ := PySem.W.any_some hd
  show (if ((Value.ref D == Value.ref A) = true) then some true else PySem.W.kitCls K (.ref D) (.ref A)) = some b
  by_cases e : (Value.ref D == Value.ref A) = true
  · rw [if_pos e]
    have : D = A := Value.ref.inj (beq_iff_eq.mp e)
    subst this
    exact hr.symm.trans hs
  · rw [if_neg e]
    have e2 : ((PySem.W.clsIn K A).isSome && PySem.W.typeIn K (.ref A) == some (.type "type")) = true := by rw [hc, ht] <;> rfl
    show (if ((PySem.W.clsIn K A).isSome && PySem.W.typeIn K (.ref A) == some (.type "type")) = true then PySem.W.subIn K (.ref D) (.ref A) else none) = some b
    rw [if_pos e2]
    exact hs
theorem kit_type {D : Addr} {T : String} {b : Bool} (hm : PySem.W.kitMeta T = true) (hs : PySem.W.subIn K (.ref D) (.type T) = some b) : PySem.W.kitOne K (.ref D) (.type T) = some b := by
  show (if ((Value.ref D == Value.type T) = true) then some true else if PySem.W.kitMeta T = true then PySem.W.subIn K (.ref D) (.type T) else none) = some b
  rw [if_neg (fun e => by cases (beq_iff_eq.mp e)), if_pos hm]
  exact hs
end
end Mir
end
set_option Elab.async false
set_option linter.all false
set_option maxRecDepth 100000
set_option maxHeartbeats 4000000
noncomputable section
namespace Mir
open PySem PySem.Spec PyProof.Rows L2
def gLtS : D → D → Option D
  | .str x, .str y => some (.bool (decide (x.cps.toList < y.cps.toList)))
  | _, _ => none
@[simp] theorem gLtS_str (x y : Str) : gLtS (.str x) (.str y) = some (.bool (decide (x.cps.toList < y.cps.toList))) := rfl
section
variable {X : Cx} {W : WX} {a b : Expr} {f g : Ev → R D} {pos : Pos}
end
end Mir
end
set_option Elab.async false
set_option linter.all false
set_option maxRecDepth 100000
set_option maxHeartbeats 4000000
noncomputable section
namespace Mir
open PySem PySem.Spec PyProof.Rows L2
section
variable {X : Cx} {W : WX} {S : Nat → Bool} {e k : Expr} {pos cpos apos npos tpos : Pos} {x : Str}
end
end Mir
end
set_option Elab.async false
set_option linter.all false
set_option maxRecDepth 100000
set_option maxHeartbeats 4000000
noncomputable section
namespace Mir
open PySem PySem.Spec PyProof.Rows L2
section
variable {K : Kw} {F H : Hp} {σ : L2.St} {env : Ev} {fp : List Addr}
end
section
variable {X : Cx} {W : WX} {S : Nat → Bool} {e k k2 : Expr} {pos cpos apos npos tpos tpos2 : Pos} {x : Str}
end
end Mir
end
set_option Elab.async false
set_option linter.all false
set_option maxRecDepth 100000
set_option maxHeartbeats 4000000
noncomputable section
namespace Mir
open PySem PySem.Spec PyProof.Rows L2
section
variable {X : Cx} {W : WX} {S : Nat → Bool} {e k : Expr} {es : List Expr} {pos cpos apos npos p p2 pos2 : Pos} {x : Str} {tg : Expr}
def mergeD (acc : List (D × D)) (ps : List (Str × D)) : List (D × D) := ps.foldl (fun acc p => putP acc (.str p.1) p.2) acc
def eDictOf (f : Ev → R D) (env : Ev) : R Ow := (f env).bind fun d => match asPairs d with
  | none => .no
  | some ps => .ok (.m (mergeD [] ps))
@[simp] theorem eDictOf_eq (f : Ev → R D) (env : Ev) : eDictOf f env = (f env).bind fun d => match asPairs d with
  | none => .no
  | some ps => .ok (.m (mergeD [] ps)) := rfl
def PAo (K : Kw) (H : Hp) (os : List Ow) (vs : List V) (F' H' : Hp) : Prop := ∃ fp, OwnAll K F' H' vs os fp ∧ fp.Nodup ∧ ∀ b ∈ fp, H b = none
def DAo (X : Cx) (W : WX) (es : List Expr) (f : Ev → R (List Ow)) : Prop := ∃ t, PA X es t ∧ Sm X W (PAo X.KK) t f
def oNil (_ : Ev) : R (List Ow) := .ok []
def oCons (f : Ev → R Ow) (g : Ev → R (List Ow)) (env : Ev) : R (List Ow) := (f env).bind fun o => (g env).map fun os => o :: os
@[simp] theorem oNil_eq (env : Ev) : oNil env = .ok [] := rfl
@[simp] theorem oCons_eq (f : Ev → R Ow) (g : Ev → R (List Ow)) (env : Ev) : oCons f g env = (f env).bind fun o => (g env).map fun os => o :: os := rfl
theorem dao_nil : DAo X W [] oNil := ⟨_, pa_nil, fun F H σ env fp Q sat h => h _ F H (.refl sat.fh) ⟨[], .nil, List.nodup_nil, fun b z => nomatch z⟩⟩
theorem dao_cons {f : Ev → R Ow} {g : Ev → R (List Ow)} (hf : DE X W e f) (hg : DAo X W es g) (hs : starEach (e :: es) X.env = (false, eval e X.env) :: starEach es X.env := by rfl) : DAo X W (e :: es) (oCons f g) := by
  obtain ⟨t, p, s⟩ := hf
  obtain ⟨t', p', s'⟩ := hg
  refine ⟨_, pa_cons p p' hs, fun F H σ env fp Q sat h => ?_⟩
  refine s F H σ env fp _ sat ?_
  unfold oCons at h
  cases ef : f env with
  | no => rw [ef] at h; exact h.elim
  | ex c => rw [ef] at h; exact h
  | ok o =>
    rw [ef] at h
    intro v F1 H1 x1 ⟨fx, ow, nx, fr⟩
    refine s' F1 H1 σ env fp _ (sat.ext x1) ?_
    cases eg : g env with
    | no => rw [eg] at h; exact h.elim
    | ex c => rw [eg] at h; exact fun C F' H' m x => h C F' H' m (x1.trans x)
    | ok os =>
      rw [eg] at h
      intro vs F2 H2 x2 ⟨fy, oy, ny, fry⟩
      have h' : Post X W (PAo X.KK) F H σ (.ok (o :: os)) Q := h
      refine h' (v :: vs) F2 H2 (x1.trans x2) ⟨fx ++ fy, .cons (ow.ext x2) oy, ?_, fun b hb => ?_⟩
      · rw [List.nodup_append]
        refine ⟨nx, ny, fun a ha b hb e => ?_⟩
        subst e
        obtain ⟨_, w, e⟩ := OwnAt.there _ _ _ ow a ha
        rw [fry a hb] at e; cases e
      · rcases List.mem_append.mp hb with z | z
        · exact fr b z
        · cases hz : H b with
          | none => rfl
          | some w => have := x1.hh _ _ hz; rw [fry b z] at this; cases this
def eLstO (f : Ev → R (List Ow)) (env : Ev) : R Ow := (f env).bind fun os => guard (os.length ≤ sizeLine) (.ok (.l os))
@[simp] theorem eLstO_eq (f : Ev → R (List Ow)) (env : Ev) : eLstO f env = (f env).bind fun os => guard (os.length ≤ sizeLine) (.ok (.l os)) := rfl
theorem de_lstO {f : Ev → R (List Ow)} (hf : DAo X W es f) : DE X W (.List es pos) (eLstO f) := by
  obtain ⟨t, p, s⟩ := hf
  refine ⟨_, pe_lst p, fun F H σ env fp Q sat h => ?_⟩
  refine s F H σ env fp _ sat ?_
  unfold eLstO at h
  cases ef : f env with
  | no => rw [ef] at h; exact h.elim
  | ex c => rw [ef] at h; exact h
  | ok os =>
    rw [ef] at h
    have h' : Post X W (POw X.KK) F H σ (guard (os.length ≤ sizeLine) (.ok (.l os))) Q := h
    intro vs F1 H1 x1 ⟨fy, oy, ny, fry⟩
    obtain ⟨hl, h2⟩ := guard_post h'
    refine ⟨by rw [OwnAll.len oy]; exact hl, fun p hp => ?_⟩
    have fh := x1.fh
    have x := Ext.own fh hp (.lst vs)
    have fp0 : ∀ b ∈ fy, b ≠ p := fun b hb e => by
      subst e
      obtain ⟨_, w, e⟩ := OwnAll.there _ _ _ oy b hb
      rw [hp] at e; cases e
    refine h2 _ F1 _ (x1.trans x) ⟨p :: fy, .l (free_of fh hp) upd_same (oy.ext x), List.nodup_cons.mpr ⟨fun z => fp0 p z rfl, ny⟩, fun b hb => ?_⟩
    rcases List.mem_cons.mp hb with z | z
    · subst z
      cases hz : H b with
      | none => rfl
      | some w => have := x1.hh _ _ hz; rw [hp] at this; cases this
    · exact fry b z
def eLenO (f : Ev → R Ow) (env : Ev) : R D := (f env).bind fun o => match o with
  | .l os => .ok (.int (os.length : Nat))
  | _ => .no
@[simp] theorem eLenO_eq (f : Ev → R Ow) (env : Ev) : eLenO f env = (f env).bind fun o => match o with
  | .l os => .ok (.int (os.length : Nat))
  | _ => .no := rfl
end
end Mir
end
set_option Elab.async false
set_option linter.all false
set_option maxRecDepth 100000
set_option maxHeartbeats 4000000
noncomputable section
namespace Mir
open PySem PySem.Spec PyProof.Rows L2
section
variable {K : Kw} {F H : Hp} {σ : L2.St} {env : Ev} {fp : List Addr}
end
section
variable {X : Cx} {W : WX} {S : Nat → Bool} {e k k2 : Expr} {pos npos tpos tpos2 : Pos} {x : Str}
end

section
variable {X : Cx} {W : WX} {S : Nat → Bool} {e : Expr} {st : Stmt} {fs : Ev → SR}
/-- an item of an own list, which is data -/
def asD : Ow → R D
  | .d x => .ok x
  | _ => .no
@[simp] theorem asD_d (x : D) : asD (.d x) = .ok x := rfl
end
end Mir
end
set_option Elab.async false
set_option linter.all false
set_option maxRecDepth 100000
set_option maxHeartbeats 4000000
noncomputable section
namespace Mir
open PySem PySem.Spec PyProof.Rows L2
section
variable {X : Cx} {W : WX} {S : Nat → Bool} {pos npos ypos : Pos} {x y : Str} {fs : Ev → SR}
end
end Mir
end
set_option Elab.async false
set_option linter.all false
set_option maxRecDepth 100000
set_option maxHeartbeats 4000000
noncomputable section
namespace Mir
open PySem PySem.Spec L2
section
variable {X : Cx} {es : List Expr} {pos : Pos}
def xLst (f : Ev → R (List D × Ev)) (env : Ev) : R (D × Ev) := (f env).bind fun p => guard (p.1.length ≤ sizeLine) (.ok (.list p.1, p.2))
@[simp] theorem xLst_eq (f : Ev → R (List D × Ev)) (env : Ev) : xLst f env = (f env).bind fun p => guard (p.1.length ≤ sizeLine) (.ok (.list p.1, p.2)) := rfl
end
end Mir
end
set_option Elab.async false
set_option linter.all false
set_option maxRecDepth 100000
set_option maxHeartbeats 4000000
noncomputable section
namespace Mir
open PySem PySem.Spec L2
section
variable {X : Cx} {W : WX} {S : Nat → Bool} {pos : Pos} {e a b : Expr} {x : Str} {npos : Pos}
end
end Mir
end
set_option Elab.async false
set_option linter.all false
set_option maxRecDepth 100000
set_option maxHeartbeats 4000000
noncomputable section
namespace Mir
open PySem PySem.Spec PyProof.Rows L2
section
variable {X : Cx} {W : WX} {o e : Expr} {apos cpos : Pos} {f g : Ev → R D}
end
end Mir
end
set_option Elab.async false
set_option linter.all false
set_option maxRecDepth 100000
set_option maxHeartbeats 4000000
noncomputable section
namespace Mir
open PySem PySem.Spec PyProof.Rows L2
section
variable {X : Cx} {W : WX}
end
end Mir
end
set_option Elab.async false
set_option linter.all false
set_option maxRecDepth 100000
set_option maxHeartbeats 4000000
noncomputable section
namespace Mir
open PySem PySem.Spec PyProof.Rows L2
/-- an object that stood untracked is tracked -/
theorem Inv.track {X : Cx} {pins : List (Addr × Obj)} {σ : L2.St} {H : Hp} {s : Shared} (I : Inv X pins σ H s) {a : Addr} {φ : Heap → Prop} (na : H a = none) (np : ∀ p ∈ X.pn ++ pins, p.1 ≠ a) (nL : a ≠ X.env.locals) (nC : ∀ x c, X.env.cells.lookup x = some c → c ≠ a) (n0 : X.s_0.heap.get? a = none)
    (ok : ObjOk X.prog X.w (upd H a (.ext φ)) s.heap a (.ext φ)) : Inv X pins σ (upd H a (.ext φ)) s := by
  have ne : ∀ b o, H b = some o → b ≠ a := fun b o e z => by rw [z, na] at e; cases e
  refine ⟨I.ok, I.os, I.bare, ⟨I.base.keep, I.base.slot, fun b o e n x => ?_, I.base.there, fun b xs e => ?_, fun b o u e => ?_, fun b ps e => ?_⟩, I.loc, I.cell, by rw [upd_ne (Ne.symm nL)]; exact I.free, fun x c e => by rw [upd_ne (nC x c e)]; exact I.freeC x c e, fun p hp => ?_, fun b o e => ?_, I.len⟩
  · have : b ≠ a := fun z => by rw [z, n0] at e; cases e
    rw [upd_ne this]
    exact I.base.free b o e n x
  · have := I.base.tups b xs e
    rw [upd_ne (ne _ _ this)]; exact this
  · have := I.base.frzs b o u e
    rw [upd_ne (ne _ _ this)]; exact this
  · obtain ⟨m, q⟩ := I.base.tbls b ps e
    exact ⟨m, by rw [upd_ne (ne _ _ q)]; exact q⟩
  · obtain ⟨p1, p2, p3⟩ := I.pin p hp
    exact ⟨p1, by rw [upd_ne (np p hp)]; exact p2, p3⟩
  · by_cases z : b = a
    · subst z
      rw [upd_same] at e
      cases e
      exact ok
    · rw [upd_ne z] at e
      exact (I.hok b o e).stay (fun c u _ q => q) (fun c q => by rw [upd_ne (ne _ _ q)]; exact q) (fun c xs q => by rw [upd_ne (ne _ _ q)]; exact q)
/-- what an exception at hand may be tracked as -/
structure ExH (φ : Heap → Prop) (cls : Value) (d : Option Addr) (a : Addr) : Prop where
  of : ∀ (h : Heap) (oe : Obj) (vs : Array Value), h.get? a = some oe → Zc cls d oe → oe.data = .fields vs → φ h
  st : ∀ h1 h2 : Heap, φ h1 → (∀ o, h1.get? a = some o → h2.get? a = some o) → φ h2
def wAsT (K : PySem.W.Frag) (c : Value) (i : Nat) (ts : TS) (Wout : WX) (D : Ends) : WX := fun cls d σ H =>
  ∃ b, PySem.W.exmOne K cls c = some b ∧ (b = true → ∀ a, H a = none → ∃ φ, ExH φ cls d a ∧ ts { nx := fun σ' H' => D.nx (σ'.set i none) H', rt := D.rt, bk := fun σ' H' => D.bk (σ'.set i none) H', ct := fun σ' H' => D.ct (σ'.set i none) H' } (σ.set i (some (.ref a))) (upd H a (.ext φ))) ∧
    (b = false → Wout cls d σ H)
section
variable {X : Cx} {x n : Str} {c : Value} {i : Nat} {body suite : List Stmt} {b₀ : Stmt} {np pos pos' : Pos} {tb : WX → TS} {ts : TS} {Wout : WX}
theorem ps_try_asT (hx : X.ex = []) (hs : X.stack = X.env :: X.outer) (hf : X.env.frame = some X.env.locals) (hN : X.N.Nodup) (hi : X.N[i]? = some n) (hln : X.env.kindOf n = some .local) (hc : Names X x c) (tk : Takes X Wout)
    (hb : ∀ (W : WX) (pn : List (Addr × Obj)) (xe : Value → Shared → Prop), Takes (X.tr pn xe) W → PassesOwn (model X.prog X.w) X.A X.env xe → PSs (X.tr pn xe) body (tb W))
    (hsu : ∀ (a : Addr) (pn : List (Addr × Obj)), PSs (X.suite a pn) (b₀ :: suite) ts) :
    PS X (.Try body [.ExceptHandler (some (.Name x np)) (some n) (b₀ :: suite) pos'] [] [] pos) (fun D σ H => tb (wAsT X.K c i ts Wout D) D σ H) := by
  refine ⟨fun pins s σ H D I h => ?_⟩
  have ok := I.ok
  have hfr : X.A.frames = some (X.env :: X.outer) := by rw [ok.frames, hs]
  have hloc : Loc X.env.scope n := .inl hln
  refine wpAny_Try_except ?_
  refine wpAny_mono ((hb (wAsT X.K c i ts Wout D) (X.pn ++ pins) (fun e s₁ => wpAny (model X.prog X.w) X.A (noteFrame e X.env) (fun _ s₂ => wpAny (model X.prog X.w) X.A (setFlight e none) (fun _ s₃ =>
    wpAny (model X.prog X.w) X.A (handleBy e X.env [.ExceptHandler (some (.Name x np)) (some n) (b₀ :: suite) pos']) (SP X pins D) X.xe s₃) X.xe s₂) X.xe s₁) (fun u s' xx => ?_) PassesOwn.looking).run [] s σ H D (I.toTry _) h) (fun f s1 hsp => ?_) (fun e s1 he => he)
  · -- the catch
    obtain ⟨a, B, sI, pins', σ', H', cls, d, rfl, J', nb, up, sky, na, os, ag, b, hb1, hyes, hno⟩ := xx
    have J : Inv X pins σ' H' sI := J'.ofTry ok
    have hBa : B.get? a = none := by
      rcases sky with z | z | z
      · exact z.2.1
      · exact z.2.1
      · exact z.2.1
    have sky' : Sky B (X.env :: X.outer) a (Zc cls d) X.env.locals s'.heap := by rw [← hs]; exact sky
    show wpAny (model X.prog X.w) X.A (noteFrame (.ref a) X.env) _ _ _
    refine Sky.land Zc.steady hfr hf sky' fun h3 fl3 up3 => ?_
    have J3 : Inv X pins σ' H' { s' with heap := h3 } := J.landed nb fl3.1 (up.trans up3) os ag
    obtain ⟨oe3, vs3, he3, hz3, hd3⟩ := fl3.there
    have notFr : ∀ {h : Heap} {o : Obj} {vs : Array Value}, h.FunFrames B (X.env :: X.outer) → h.get? a = some o → o.data = .fields vs → a ∉ frs (X.env :: X.outer) := fun {h o vs} ff e dd hm => by
      obtain ⟨_, o', e', hnf⟩ := ff.mem hm
      rw [e] at e'; cases e'
      exact hnf _ dd
    have nfr := notFr fl3.2.2.1 he3 hd3
    have nL : a ≠ X.env.locals := fun z => nfr (List.mem_filterMap.mpr ⟨X.env, List.mem_cons_self, by rw [hf, z]⟩)
    have nF : a ∉ X.fs := fun hm => by
      obtain ⟨e, he, q⟩ := List.mem_filterMap.mp hm
      exact nfr (List.mem_filterMap.mpr ⟨e, List.mem_cons_of_mem _ he, q⟩)
    have fresh : sI.heap.get? a = none := by
      cases q : sI.heap.get? a with
      | none => rfl
      | some o =>
        have := nb a o q (by rw [hs]; exact nfr)
        rw [hBa] at this; cases this
    have n0 : X.s_0.heap.get? a = none := by
      cases q : X.s_0.heap.get? a with
      | none => rfl
      | some o =>
        obtain ⟨o', q'⟩ := J.base.there a o q (by rw [hx]; simp)
        rw [fresh] at q'; cases q'
    have nP : ∀ p ∈ X.pn ++ pins, p.1 ≠ a := fun p hp z => by
      have := (J.pin p hp).1
      rw [z, fresh] at this; cases this
    have nCl : ∀ y k, X.env.cells.lookup y = some k → k ≠ a := fun y k e z => by
      obtain ⟨v, o, q, _⟩ := J.cell y k e
      rw [z, fresh] at q; cases q
    have S3 := J3.suite he3 hd3 na nL nF
    refine wpAny_handleBy_cons (codeAny_handlers_test ?_) (by intro q; cases q)
    have LT : PySem.W.Looks (model X.prog X.w) h3 (typeOf (.ref a)) cls := fun A Q E s k q => wpAny_typeOf_ref (k _ _ he3) (by rw [hz3.1]; exact q)
    have LM := PySem.W.exm_one (M := model X.prog X.w) (J3.kIn) LT hb1
    have test : ∀ {Q : Value → Shared → Prop} {E : Value → Shared → Prop}, Q c { s' with heap := h3 } → wpAny (model X.prog X.w) (X.A.mark (some (.ref a))) (eval (.Name x np) X.env) Q E { s' with heap := h3 } := fun {Q E} q => by
      obtain ⟨hg, hdbg, hm | ⟨hm, hv, hnn⟩⟩ := hc
      · exact ld_glob (X := X.suite a ((a, oe3) :: (X.pn ++ pins))) S3 hg hm q hdbg
      · exact ld_blt (X := X.suite a ((a, oe3) :: (X.pn ++ pins))) S3 hg hm hv q hnn hdbg
    refine test (LM.here ?_)
    cases b with
    | true =>
      refine codeAny_handlers_suite_as ?_
      refine HandSPX.lands_againZ fl3 fun h4 fl4 up4 => ?_
      have J4 : Inv X pins σ' H' { s' with heap := h4 } := J.landed nb fl4.1 ((up.trans up3).trans up4) os ag
      obtain ⟨oe4, vs4, he4, hz4, hd4⟩ := fl4.there
      obtain ⟨φ, hφ, hq⟩ := hyes rfl a na
      have J5 : Inv X pins σ' (upd H' a (.ext φ)) { s' with heap := h4 } := Inv.track J4 na nP nL nCl n0 ⟨hφ.of h4 oe4 vs4 he4 hz4 hd4, ⟨oe4, he4⟩, hφ.st⟩
      have S4 : Inv (X.suite a (X.pn ++ pins)) [] σ' (upd H' a (.ext φ)) { s' with heap := h4 } :=
        ⟨J5.ok.suite _ _, J5.os, J5.bare, J5.base, J5.loc, J5.cell, J5.free, J5.freeC, fun p hp => J5.pin p (by rw [List.append_nil] at hp; exact hp), J5.hok, J5.len⟩
      refine store_ok (X := X.suite a (X.pn ++ pins)) (v := .ref a) S4 hN hi hloc rfl (fun s5 S5 => ?_) (.inr hln)
      refine wpAny_mono ((hsu a (X.pn ++ pins)).run [] s5 _ _ _ S5 hq) (fun f s6 hsp => ?_) (fun _ _ z => False.elim z)
      have end_ : ∀ {σ6 : L2.St} {H6 : Hp} {Q : Shared → Prop}, Inv (X.suite a (X.pn ++ pins)) [] σ6 H6 s6 → (∀ s7, Inv X pins (σ6.set i none) H6 s7 → Q s7) →
          wpAny (model X.prog X.w) X.A (do bindName X.env n .none; unbindBehindTheSuite X.env n pos') (fun _ s7 => Q s7) X.xe s6 := fun {σ6 H6 Q} S6 hq => gone_ok (X := X) (pins := pins) ⟨ok, S6.os, S6.bare, S6.base, S6.loc, S6.cell, S6.free, S6.freeC, fun p hp => S6.pin p (by rw [List.append_nil]; exact hp), S6.hok, S6.len⟩ hN hi hln hq
      cases f with
      | next =>
        obtain ⟨σ6, H6, S6, q6⟩ := hsp
        exact end_ S6 fun s7 J7 => ⟨_, _, J7, q6⟩
      | brk =>
        obtain ⟨σ6, H6, S6, q6⟩ := hsp
        exact end_ S6 fun s7 J7 => ⟨_, _, J7, q6⟩
      | cont =>
        obtain ⟨σ6, H6, S6, q6⟩ := hsp
        exact end_ S6 fun s7 J7 => ⟨_, _, J7, q6⟩
      | ret u =>
        obtain ⟨v6, σ6, H6, S6, r6, q6⟩ := hsp
        exact end_ S6 fun s7 J7 => ⟨_, _, _, J7, r6, q6⟩
    | false =>
      show wpAny _ X.A (handleBy (.ref a) X.env []) _ _ _
      refine wpAny_handleBy_nil ?_
      obtain ⟨k1, k2, k3, oe, vs, T, oT, ts', he, hz, hd, h1, hr⟩ := id fl3
      unfold PySem.passOn
      refine wpAny_bind (wpAny_field he hd h1 ?_)
      rw [if_neg (show ¬ ((Value.ref T == Value.none) = true) from by simp)]
      have fin : wpAny (model X.prog X.w) X.A (setFlight (.ref a) X.env.frame) (fun _ s4 => wpAny (model X.prog X.w) X.A (throw (.ref a) : Sem Flow) (SP X pins D) X.xe s4) X.xe { s' with heap := h3 } := by
        rw [hf]
        refine HandSPX.setFlight_upZ fl3 fun h4 hh4 up4 => wpAny_throw (tk _ _ ?_)
        exact ⟨a, B, sI, pins, σ', H', cls, d, rfl, J, nb, (up.trans up3).trans up4, .inr (.inr (by rw [hs]; exact hh4)), na, os, ag, hno rfl⟩
      first
        | exact wpAny_bind (wpAny_pure (wpAny_bind fin))
        | exact wpAny_bind fin
  · cases f with
    | next =>
      obtain ⟨σ', H', J', q⟩ := hsp
      exact wpAny_execs_nil ⟨σ', H', J'.ofTry ok, q⟩
    | brk =>
      obtain ⟨σ', H', J', q⟩ := hsp
      exact ⟨σ', H', J'.ofTry ok, q⟩
    | cont =>
      obtain ⟨σ', H', J', q⟩ := hsp
      exact ⟨σ', H', J'.ofTry ok, q⟩
    | ret u =>
      obtain ⟨v, σ', H', J', r, q⟩ := hsp
      exact ⟨v, σ', H', J'.ofTry ok, r, q⟩
end
theorem excO_ext {K : Kw} {a : Addr} {c : Str} {C : Addr} (hc : PySem.W.nsIn K.K mainGlobals c = some (some (.ref C))) : ∃ φ, ExH φ (.ref C) none a ∧ excO K a c = .ext φ := by
  refine ⟨_, ⟨fun h oe vs h1 h2 h3 => ⟨C, oe, vs, hc, h1, h2, h3⟩, ?_⟩, rfl⟩
  rintro h1 h2 ⟨C', oe, vs, k1, k2, k3, k4⟩ e
  exact ⟨C', oe, vs, k1, e _ k2, k3, k4⟩
/-- what each class is, where it is caught: true, let out: false; else not mirrored -/
def lookE : List (Str × Bool) → Str → Option Bool
  | [], _ => none
  | p :: ps, c => if p.1 = c then some p.2 else lookE ps c
/-- the own classes of a program, where they stand -/
structure OwnC (K : PySem.W.Frag) (mg : Str → Option Value) (c : Str) (C : Addr) : Prop where
  ns : PySem.W.nsIn K mainGlobals c = some (some (.ref C))
  gC : mg c = some (.ref C)
inductive CatchT (K : PySem.W.Frag) (mg : Str → Option Value) (x : Addr) : List (Str × Bool) → Prop
  | nil : CatchT K mg x []
  | cons {c : Str} {C : Addr} {b : Bool} {l : List (Str × Bool)} : OwnC K mg c C → PySem.W.exmOne K (.ref C) (.ref x) = some b → CatchT K mg x l → CatchT K mg x ((c, b) :: l)
theorem CatchT.look {K : PySem.W.Frag} {mg : Str → Option Value} {x : Addr} : ∀ {l : List (Str × Bool)} {c : Str} {b : Bool}, CatchT K mg x l → lookE l c = some b → ∃ C, OwnC K mg c C ∧ PySem.W.exmOne K (.ref C) (.ref x) = some b
  | _, _, _, .nil, h => by cases h
  | _, c, b, .cons (c := c') h1 h2 h3, h => by
    unfold lookE at h
    split at h
    · rename_i e
      have e : c' = c := e
      subst e
      cases h
      exact ⟨_, h1, h2⟩
    · exact h3.look h
/-- slot i holds nothing behind the suite -/
def dropT (i : Nat) : SR → SR
  | .nx env => .nx (env.set i none)
  | .rt r env => .rt r env
  | _ => .no
def sTryT (l : List (Str × Bool)) (i : Nat) (fb fs : Ev → SR) (env : Ev) : SR := match fb env with
  | .ex c env1 => match lookE l c with
    | some true => if i < env1.length then dropT i (fs (env1.set i (some (.d (excD c))))) else .no
    | some false => .ex c env1
    | none => .no
  | r => r
theorem sTryT_nx {l : List (Str × Bool)} {i : Nat} {fb fs : Ev → SR} {env env1 : Ev} (h : fb env = .nx env1) : sTryT l i fb fs env = .nx env1 := by unfold sTryT; rw [h]
theorem sTryT_ex {l : List (Str × Bool)} {i : Nat} {fb fs : Ev → SR} {env env1 : Ev} {c : Str} (h : fb env = .ex c env1) (hl : lookE l c = some true) (hi : i < env1.length) : sTryT l i fb fs env = dropT i (fs (env1.set i (some (.d (excD c))))) := by unfold sTryT; rw [h]; simp only [hl, if_pos hi]
section
variable {X : Cx} {W : WX} {S : Nat → Bool} {x n : Str} {np pos pos' : Pos}
theorem ds_tryT {C : Addr} {body suite : List Stmt} {b₀ : Stmt} {fb fs : Ev → SR} {l : List (Str × Bool)} (i : Nat) (hx : X.ex = []) (hs : X.stack = X.env :: X.outer) (hf : X.env.frame = some X.env.locals) (hN : X.N.Nodup) (hi : X.N[i]? = some n) (hln : X.env.kindOf n = some .local) (hS : S i = true)
    (hc : Names X x (.ref C)) (ct : CatchT X.K X.mg C l) (tk : Takes X W)
    (hb : ∀ (W' : WX) (pn : List (Addr × Obj)) (xe : Value → Shared → Prop), Takes (X.tr pn xe) W' → PassesOwn (model X.prog X.w) X.A X.env xe → DSs (X.tr pn xe) W' S body fb)
    (hsu : ∀ (a : Addr) (pn : List (Addr × Obj)), DSs (X.suite a pn) W0 S (b₀ :: suite) fs) :
    DS X W S (.Try body [.ExceptHandler (some (.Name x np)) (some n) (b₀ :: suite) pos'] [] [] pos) (sTryT l i fb fs) := by
  refine ⟨_, ps_try_asT (i := i) (tb := fun W' => tsOf X W' S fb) (ts := tsOf X W0 S fs) hx hs hf hN hi hln hc tk (fun W' pn xe tk' po => (hb W' pn xe tk' po).can) (fun a pn => (hsu a pn).can), fun F H σ env fp D sat h => ?_⟩
  refine ⟨F, env, fp, sat, ?_⟩
  unfold sTryT at h
  cases e : fb env with
  | no => rw [e] at h; exact h
  | nx env1 => rw [e] at h; exact h
  | bk env1 => rw [e] at h; exact h
  | ct env1 => rw [e] at h; exact h
  | rt r env1 => rw [e] at h; exact h
  | ex c env1 =>
    rw [e] at h
    simp only at h
    intro Cc σ' F' H' fp' mc off st sat'
    cases el : lookE l c with
    | none => rw [el] at h; exact h.elim
    | some b =>
    rw [el] at h
    obtain ⟨C', oc, xm⟩ := ct.look el
    have : Cc = C' := by
      rw [oc.gC] at mc
      cases mc; rfl
    subst this
    cases b with
    | false => exact ⟨false, xm, (fun z => nomatch z), fun _ => h Cc σ' F' H' fp' mc off st sat'⟩
    | true =>
      simp only at h
      split at h
      · rename_i hil
        refine ⟨true, xm, fun _ a na => ?_, fun z => nomatch z⟩
        obtain ⟨φ, hφ, eφ⟩ := excO_ext (K := X.KK) (a := a) oc.ns
        refine ⟨φ, hφ, ?_⟩
        rw [← eφ]
        have ex : Ext F' H' (upd F' a (excO X.KK a c)) (upd H' a (excO X.KK a c)) := Ext.frz sat'.fh na _
        have hl : i < σ'.length := by rw [sat'.en.len]; exact hil
        obtain ⟨fp2, s2, sat2⟩ := put_step (v := .ref a) (r := .d (excD c)) sat' ex (.d (.exc (.inl upd_same))) List.nodup_nil (fun b z => nomatch z) hil
        refine ⟨_, env1.set i (some (.d (excD c))), fp2, sat2, ?_⟩
        have h2 := h.step (off.trans (.set hS (some (.ref a)))) (st.trans s2)
        cases ef : fs (env1.set i (some (.d (excD c)))) with
        | no => rw [ef] at h2; exact h2
        | bk env2 => rw [ef] at h2; exact h2.elim
        | ct env2 => rw [ef] at h2; exact h2.elim
        | ex c2 env2 => rw [ef] at h2; exact h2.elim
        | rt r env2 => rw [ef] at h2; exact h2
        | nx env2 =>
          rw [ef] at h2
          intro σ3 F3 H3 fp3 o3 s3 sat3
          by_cases hi2 : i < env2.length
          · obtain ⟨fr3, sub3, sat4⟩ := sat_set sat3 hi2 none
            exact h2 _ F3 H3 fr3 (o3.trans (.set hS none)) (s3.subset sub3) sat4
          · have hs3 : σ3.length ≤ i := by rw [sat3.en.len]; omega
            rw [show dropT i (.nx env2) = .nx (env2.set i none) from rfl] at h2
            show D.nx (σ3.set i none) H3
            rw [List.set_eq_of_length_le hs3]
            have e5 : env2.set i none = env2 := List.set_eq_of_length_le (by omega)
            rw [e5] at h2
            exact h2 _ F3 H3 fp3 o3 s3 sat3
      · exact h.elim
end
inductive TyE (K : Kw) (H : Hp) (x : V) (t : Value) : Prop
  | ty (h : TyX K.K H x t) : TyE K H x t
  | exc {a : Addr} {c : Str} {C : Addr} (hx : x = .ref a) (ht : t = .ref C) (ha : Rd H a (excO K a c)) (hc : PySem.W.nsIn K.K mainGlobals c = some (some (.ref C))) (ec : ExcC K.K C) : TyE K H x t
theorem kit_of2 {X : Cx} {pins : List (Addr × Obj)} {σ : L2.St} {H : Hp} {s : Shared} {x : V} {u t : Value} (I : Inv X pins σ H s) (rx : RelV x u) (ty : TyE X.KK H x t) : ∃ P : Heap → Prop, PySem.W.KitX X.K u t P ∧ P s.heap ∧ u ≠ .builtin "__main__.__loader__#opaque" := by
  cases ty with
  | ty h => exact kit_of I rx h
  | @exc a c C hx ht ha hc ec =>
    subst hx ht
    cases (show u = Value.ref a from rx)
    obtain ⟨⟨C', oe, vs, k1, k2, k3, k4⟩, _⟩ := (show ObjOk X.prog X.w H s.heap a (excO X.KK a c) from Rd.ok ha I.hok)
    rw [hc] at k1
    cases k1
    have J : PySem.W.InstAt s.heap a oe C none := by
      obtain ⟨oc, od, oda, osl⟩ := oe
      obtain ⟨h1, h2⟩ := k3
      dsimp only at h1 h2 k4
      subst h1 h2 k4
      exact ⟨k2, rfl, rfl, trivial⟩
    exact ⟨_, PySem.W.handS_kitx_exc ec.hg ec.hk ec.hs ec.hd ec.ha ec.hn ec.ht ec.hm, J, fun z => nomatch z⟩
def rIsi2 (K : Kw) : List V → Hp → VK → Prop := fun xs H Q => ∃ (x c : V) (t u : Value) (b : Bool), xs = [x, c] ∧ ClsV c u ∧ TyE K H x t ∧ PySem.W.kitOne K.K t u = some b ∧ Q (.bl b) H
section
variable {X : Cx}
theorem call_isi2 : CallR X (.builtin "isinstance") (rIsi2 X.KK) := by
  intro pins s σ H xs us Q I r h
  obtain ⟨x, c, t, u, b, rfl, k, ty, e, q⟩ := h
  obtain ⟨u1, u2, rfl, r1, r2⟩ := vals2 r
  have e2 := k.eq r2
  subst e2
  obtain ⟨P, Z, p, hx⟩ := kit_of2 I r1 ty
  exact PySem.W.kia_one Z I.kIn p e hx fun tk => ⟨.bl b, H, I.tok tk, rfl, q⟩
end
/-- a class asked of each own class, and of None -/
inductive AskT (K : PySem.W.Frag) (us : List Value) : List (Str × Bool) → Prop
  | nil : AskT K us []
  | cons {c : Str} {C : Addr} {b : Bool} {l : List (Str × Bool)} : PySem.W.nsIn K mainGlobals c = some (some (.ref C)) → ExcC K C → PySem.W.kitAny K (.ref C) us = some b → AskT K us l → AskT K us ((c, b) :: l)
theorem AskT.look {K : PySem.W.Frag} {us : List Value} : ∀ {l : List (Str × Bool)} {c : Str} {b : Bool}, AskT K us l → lookE l c = some b → ∃ C, PySem.W.nsIn K mainGlobals c = some (some (.ref C)) ∧ ExcC K C ∧ PySem.W.kitAny K (.ref C) us = some b
  | _, _, _, .nil, h => by cases h
  | _, c, b, .cons (c := c') h1 h2 h3 h4, h => by
    unfold lookE at h
    split at h
    · rename_i e
      have e : c' = c := e
      subst e
      cases h
      exact ⟨_, h1, h2, h3⟩
    · exact h4.look h
theorem kitAny_one {K : PySem.W.Frag} {t c : Value} {b : Bool} (h : PySem.W.kitAny K t [c] = some b) : PySem.W.kitOne K t c = some b := by
  unfold PySem.W.kitAny at h
  cases e : PySem.W.kitOne K t c with
  | none => rw [e] at h; cases h
  | some r =>
    rw [e] at h
    cases r with
    | true => exact h
    | false => exact h
/-- isinstance(e, X), e an exception or None -/
def gIsE (l : List (Str × Bool)) : D → R D
  | .none => .ok (.bool false)
  | .dict [(.none, .str c)] => match lookE l c with
    | some b => .ok (.bool b)
    | none => .no
  | _ => .no
@[simp] theorem gIsE_none (l : List (Str × Bool)) : gIsE l .none = .ok (.bool false) := rfl
theorem gIsE_exc {l : List (Str × Bool)} {c : Str} {b : Bool} (h : lookE l c = some b) : gIsE l (excD c) = .ok (.bool b) := by
  show (match lookE l c with
    | some b => .ok (.bool b)
    | none => .no : R D) = _
  rw [h]
/-- how an exception stands -/
theorem dp_exc {K : Kw} {H : Hp} {v : V} {c : Str} (h : Dp K H v (.dict [(.none, .str c)])) : ∃ a, v = .ref a ∧ Rd H a (excO K a c) := by
  cases h with
  | dct h1 h2 =>
    exfalso
    generalize hd : (PyData.none, PyData.str c) = p at h2
    cases h2 with
    | @cons k =>
      cases k <;> cases hd
  | dcn h1 h2 =>
    exfalso
    generalize hd : (PyData.none, PyData.str c) = p at h2
    cases h2 with
    | @cons k b v kvs d ps g1 g2 g3 g4 =>
      injection hd with e1 e2
      rw [← e1] at g1
      cases g1
  | exc h1 => exact ⟨_, rfl, h1⟩
section
variable {X : Cx} {W : WX} {a : Expr} {pos p p2 : Pos} {T : Str} {f : Ev → R D}
theorem isE_core {l : List (Str × Bool)} {us : List Value} {b : Bool} {H : Hp} {F : Hp} {v : V} {d : D} (at_ : AskT X.K us l) (hn : PySem.W.kitAny X.K (.type "NoneType") us = some false) (q : Dp X.KK H v d) (h : gIsE l d = .ok (.bool b)) : ∃ t, TyE X.KK H v t ∧ PySem.W.kitAny X.K t us = some b := by
  unfold gIsE at h
  split at h
  · cases h
    rw [dp_none q]
    exact ⟨_, .ty (.base .non), hn⟩
  · rename_i c
    split at h
    · rename_i b' e
      cases h
      obtain ⟨a, rfl, ha⟩ := dp_exc q
      obtain ⟨C, h1, h2, h3⟩ := at_.look e
      exact ⟨_, .exc rfl rfl ha h1 h2, h3⟩
    · cases h
  · cases h
theorem gIsE_bool {l : List (Str × Bool)} {d r : D} (h : gIsE l d = .ok r) : ∃ b, r = .bool b := by
  unfold gIsE at h
  split at h
  · cases h; exact ⟨_, rfl⟩
  · split at h
    · cases h; exact ⟨_, rfl⟩
    · cases h
  · cases h
theorem df_isE {l : List (Str × Bool)} {A : Addr} (ha : DV X W a f) (hg : Gl X "isinstance") (hm : X.mg "isinstance" = none) (gT : Gl X T) (mT : X.mg T = some (.ref A)) (at_ : AskT X.K [.ref A] l) (hn : PySem.W.kitOne X.K (.type "NoneType") (.ref A) = some false)
    (he : starEach [a, .Name T p2] X.env = (false, eval a X.env) :: starEach [.Name T p2] X.env := by rfl) (he2 : starEach [.Name T p2] X.env = (false, eval (.Name T p2) X.env) :: starEach [] X.env := by rfl) (hpl : (backTo pos (starEach [.Name T p2] X.env)).any (·.1) = false := by rfl)
    (hd : (T == ("__debug__" : Str)) = false := by decide) : DF X W (.Call (.Name "isinstance" p) [a, .Name T p2] [] pos) (eB f (gIsE l)) := by
  obtain ⟨t, pa, s⟩ := ha
  refine ⟨_, pe_callB call_isi2 hg hm (by decide +kernel) (pa_cons pa (pa_cons (pe_glob (v := .ref A) gT mT rfl hd) pa_nil he2) he) (he := he) (hpl := hpl), fun F H σ env fp Q sat hp => ?_⟩
  refine s.go sat hp fun d v F1 H1 sat1 q _ h1 => ?_
  cases e : gIsE l d with
  | no => rw [e] at h1; exact h1.elim
  | ex c =>
    exfalso
    unfold gIsE at e
    split at e
    · cases e
    · split at e <;> cases e
    · cases e
  | ok r =>
    obtain ⟨b, rfl⟩ := gIsE_bool e
    rw [e] at h1
    obtain ⟨t, ty, k⟩ := isE_core (F := F1) at_ (by unfold PySem.W.kitAny; rw [hn]; rfl) q e
    exact ⟨v, .ref A, t, .ref A, b, rfl, .own A, ty, kitAny_one k, h1 _ F1 H1 (.refl sat1.fh) (.bl b)⟩
theorem df_isEB {l : List (Str × Bool)} {T0 : String} (ha : DV X W a f) (hg : Gl X "isinstance") (hm : X.mg "isinstance" = none) (gT : Gl X T) (mT : X.mg T = none) (bT : bootBuiltins T = some (.type T0)) (at_ : AskT X.K [.type T0] l) (hn : PySem.W.kitOne X.K (.type "NoneType") (.type T0) = some false)
    (he : starEach [a, .Name T p2] X.env = (false, eval a X.env) :: starEach [.Name T p2] X.env := by rfl) (he2 : starEach [.Name T p2] X.env = (false, eval (.Name T p2) X.env) :: starEach [] X.env := by rfl) (hpl : (backTo pos (starEach [.Name T p2] X.env)).any (·.1) = false := by rfl)
    (hn2 : T ≠ "__name__" := by decide) (hd : (T == ("__debug__" : Str)) = false := by decide) : DF X W (.Call (.Name "isinstance" p) [a, .Name T p2] [] pos) (eB f (gIsE l)) := by
  obtain ⟨t, pa, s⟩ := ha
  refine ⟨_, pe_callB call_isi2 hg hm (by decide +kernel) (pa_cons pa (pa_cons (pe_bltn (v := .ty T0) gT mT bT rfl hn2 hd) pa_nil he2) he) (he := he) (hpl := hpl), fun F H σ env fp Q sat hp => ?_⟩
  refine s.go sat hp fun d v F1 H1 sat1 q _ h1 => ?_
  cases e : gIsE l d with
  | no => rw [e] at h1; exact h1.elim
  | ex c =>
    exfalso
    unfold gIsE at e
    split at e
    · cases e
    · split at e <;> cases e
    · cases e
  | ok r =>
    obtain ⟨b, rfl⟩ := gIsE_bool e
    rw [e] at h1
    obtain ⟨t, ty, k⟩ := isE_core (F := F1) at_ (by unfold PySem.W.kitAny; rw [hn]; rfl) q e
    exact ⟨v, .ty T0, t, .type T0, b, rfl, .ty T0, ty, kitAny_one k, h1 _ F1 H1 (.refl sat1.fh) (.bl b)⟩
theorem kitAny_of1 {K : PySem.W.Frag} {t c : Value} {b : Bool} (h : PySem.W.kitOne K t c = some b) : PySem.W.kitAny K t [c] = some b := by
  unfold PySem.W.kitAny
  rw [h]
  cases b <;> rfl
theorem kit_refN {K : PySem.W.Frag} {n : String} {A : Addr} {b : Bool} (hd : PySem.W.hasDictIn K A = true) (ht : PySem.W.typeIn K (.ref A) = some (.type "type")) (hs : PySem.W.subIn K (.type n) (.ref A) = some b) : PySem.W.kitOne K (.type n) (.ref A) = some b := by
  obtain ⟨cd, hc, _⟩ := PySem.W.any_some hd
  show (if ((Value.type n == Value.ref A) = true) then some true else PySem.W.kitCls K (.type n) (.ref A)) = some b
  rw [if_neg (fun e => by cases (beq_iff_eq.mp e))]
  have e2 : ((PySem.W.clsIn K A).isSome && PySem.W.typeIn K (.ref A) == some (.type "type")) = true := by rw [hc, ht] <;> rfl
  show (if ((PySem.W.clsIn K A).isSome && PySem.W.typeIn K (.ref A) == some (.type "type")) = true then PySem.W.subIn K (.type n) (.ref A) else none) = some b
  rw [if_pos e2]
  exact hs
end
end Mir
end
set_option Elab.async false
set_option linter.all false
set_option maxRecDepth 100000
set_option maxHeartbeats 4000000
noncomputable section
namespace Mir
open PySem PySem.Spec PyProof.Rows L2
section
variable {K : Kw} {F' F'' H' : Hp} (hT : ∀ a xs, SqT K.K F' a xs → SqT K.K F'' a xs)
include hT
variable (hn : ∀ b, F' b = none → F'' b = none)
include hn
end
/-- neither a tuple nor a thing that is held still -/
def notT (u : HO) : Prop := (∀ xs, u ≠ .tup xs) ∧ ∀ o w, u ≠ .frz o w
mutual
theorem OwnAt.kinds {K : Kw} {F H : Hp} : ∀ (o : Ow) (v : V) (fp : List Addr), OwnAt K F H v o fp → ∀ b ∈ fp, ∃ u, H b = some u ∧ notT u
  | .d x, v, fp, h, b, hb => by cases h; cases hb
  | .l os, v, fp, h, b, hb => by
    cases h with
    | l h1 h2 h3 =>
      rcases List.mem_cons.mp hb with e | e
      · subst e; exact ⟨_, h2, (fun _ z => nomatch z), fun _ _ z => nomatch z⟩
      · exact OwnAll.kinds os _ _ h3 b e
  | .m ps, v, fp, h, b, hb => by
    cases h with
    | m h1 h2 h3 =>
      rw [List.mem_singleton] at hb
      subst hb; exact ⟨_, h2, (fun _ z => nomatch z), fun _ _ z => nomatch z⟩
  | .t os, v, fp, h, b, hb => by
    cases h with
    | t h1 h2 => exact OwnAll.kinds os _ _ h2 b hb
  | .k _ os, v, fp, h, b, hb => by
    cases h with
    | k h1 h2 h3 =>
      rcases List.mem_cons.mp hb with e | e
      · subst e; exact ⟨_, h2, (fun _ z => nomatch z), fun _ _ z => nomatch z⟩
      · exact OwnAll.kinds os _ _ h3 b e
  | .n _ os, v, fp, h, b, hb => by
    cases h with
    | n h1 h2 h3 h4 =>
      rcases List.mem_cons.mp hb with e | e
      · subst e; exact ⟨_, h2, (fun _ z => nomatch z), fun _ _ z => nomatch z⟩
      · exact OwnAll.kinds os _ _ h4 b e
  | .o _ _ os, v, fp, h, b, hb => by
    cases h with
    | o h0 h1 h2 h3 h4 h5 =>
      rcases List.mem_cons.mp hb with e | e
      · subst e; exact ⟨_, h3, (fun _ z => nomatch z), fun _ _ z => nomatch z⟩
      · rcases List.mem_cons.mp e with e | e
        · subst e; exact ⟨_, h4, (fun _ z => nomatch z), fun _ _ z => nomatch z⟩
        · exact OwnAll.kinds os _ _ h5 b e
theorem OwnAll.kinds {K : Kw} {F H : Hp} : ∀ (o : List Ow) (v : List V) (fp : List Addr), OwnAll K F H v o fp → ∀ b ∈ fp, ∃ u, H b = some u ∧ notT u
  | [], v, fp, h, b, hb => by cases h; cases hb
  | o :: os, v, fp, h, b, hb => by
    cases h with
    | cons h1 h2 =>
      rcases List.mem_append.mp hb with e | e
      · exact OwnAt.kinds o _ _ h1 b e
      · exact OwnAll.kinds os _ _ h2 b e
end
section
variable {X : Cx} {W : WX} {S : Nat → Bool} {fs : Ev → SR} {st : Stmt}
end
end Mir
end
set_option Elab.async false
set_option linter.all false
set_option maxRecDepth 100000
set_option maxHeartbeats 4000000
noncomputable section
namespace Mir
open PySem PySem.Spec PyProof.Rows L2
section
variable {X : Cx} {W : WX} {S : Nat → Bool} {e a b : Expr} {es : List Expr} {pos : Pos} {f g : Ev → R Ow}
theorem OwnAll.append {K : Kw} {F H : Hp} : ∀ {os os' : List Ow} {vs ws : List V} {fp fp' : List Addr}, OwnAll K F H vs os fp → OwnAll K F H ws os' fp' → OwnAll K F H (vs ++ ws) (os ++ os') (fp ++ fp')
  | [], _, _, _, _, _, h, g => by cases h; exact g
  | o :: os, _, _, _, _, _, h, g => by
    cases h with
    | cons h1 h2 =>
      rw [List.append_assoc]
      exact .cons h1 (OwnAll.append h2 g)
/-- + of two new lists with own items -/
def eAddO (f g : Ev → R Ow) (env : Ev) : R Ow := (f env).bind fun x => (g env).bind fun y => match x, y with
  | .l xs, .l ys => guard (xs.length + ys.length ≤ sizeLine) (.ok (.l (xs ++ ys)))
  | _, _ => .no
@[simp] theorem eAddO_eq (f g : Ev → R Ow) (env : Ev) : eAddO f g env = (f env).bind fun x => (g env).bind fun y => match x, y with
  | .l xs, .l ys => guard (xs.length + ys.length ≤ sizeLine) (.ok (.l (xs ++ ys)))
  | _, _ => .no := rfl
/-- a tuple with own things in it -/
def eTupO (f : Ev → R (List Ow)) (env : Ev) : R Ow := (f env).bind fun os => guard (os.length ≤ sizeLine) (.ok (.t os))
@[simp] theorem eTupO_eq (f : Ev → R (List Ow)) (env : Ev) : eTupO f env = (f env).bind fun os => guard (os.length ≤ sizeLine) (.ok (.t os)) := rfl
end
end Mir
end
set_option Elab.async false
set_option linter.all false
set_option maxRecDepth 100000
set_option maxHeartbeats 4000000
noncomputable section
namespace Mir
open PySem PySem.Spec PyProof.Rows L2
/-- an exception that has come to the clauses -/
structure Air (X : Cx) (pins : List (Addr × Obj)) (a : Addr) (B : Heap) (sI s' : Shared) (h3 : Heap) (σ : L2.St) (H : Hp) (cls : Value) (d : Option Addr) : Prop where
  J : Inv X pins σ H sI
  nb : ∀ b o, sI.heap.get? b = some o → b ∉ frs X.stack → B.get? b = some o
  fl : HandSPX.FlyingZ B (X.env :: X.outer) a (Zc cls d) h3
  up : sI.heap.UpToSlots h3
  na : H a = none
  os : s'.os = sI.os
  ag : AllBare s'.gens
def HdsT (X : Cx) (hds : List ExceptHandler) (w : WX → Ends → WX) : Prop := ∀ (Wout : WX), Takes X Wout → ∀ pins D a B sI s' h3 σ H cls d, Air X pins a B sI s' h3 σ H cls d → w Wout D cls d σ H →
  wpAny (model X.prog X.w) X.A (handleBy (.ref a) X.env hds) (SP X pins D) X.xe { s' with heap := h3 }
section
variable {X : Cx} {x n : Str} {c : Value} {i : Nat} {suite : List Stmt} {b₀ : Stmt} {np pos pos' : Pos} {ts : TS} {hds : List ExceptHandler} {w : WX → Ends → WX}
end
abbrev Cl := List (Str × Bool) × Option Nat × (Ev → SR)
def noX : SR → SR
  | .ex _ _ => .no
  | r => r
def sHds : List Cl → Str → Ev → SR
  | [], c, env => .ex c env
  | h :: hs, c, env => match lookE h.1 c with
    | some true => match h.2.1 with
      | some i => if i < env.length then dropT i (h.2.2 (env.set i (some (.d (excD c))))) else .no
      | none => noX (h.2.2 env)
    | some false => sHds hs c env
    | none => .no
section
variable {X : Cx} {W : WX} {S : Nat → Bool} {x n : Str} {np pos pos' : Pos} {hds : List ExceptHandler} {hs : List Cl}
structure HdsD (X : Cx) (W : WX) (S : Nat → Bool) (hds : List ExceptHandler) (hs : List Cl) (w : WX → Ends → WX) : Prop where
  run : HdsT X hds w
  sem : ∀ c C σ F H fp env D, X.mg c = some (.ref C) → Sat X.KK F H σ env fp → PostS X W S σ F H fp D (sHds hs c env) → w W D (.ref C) none σ H
end
section
variable {X : Cx} {W : WX} {S : Nat → Bool} {e : Expr} {pos : Pos} {f : Ev → R (D × Ev)}
end
end Mir
end
set_option Elab.async false
set_option linter.all false
set_option maxRecDepth 100000
set_option maxHeartbeats 4000000
noncomputable section
namespace HT
open PySem PySem.Spec PyProof.Rows
section
variable {prog : Program} {w : World} {A : Around} {E : Value → Shared → Prop} {s : Shared}
end
end HT
namespace Mir
open PySem PySem.Spec PyProof.Rows L2
section
variable {X : Cx} {W : WX}
def gRevA : D → Option Ow
  | .list ds => some (.l (ds.reverse.map Ow.d))
  | .tuple ds => some (.d (.tuple ds.reverse))
  | _ => none
@[simp] theorem gRevA_list (ds : List D) : gRevA (.list ds) = some (.l (ds.reverse.map Ow.d)) := rfl
@[simp] theorem gRevA_tup (ds : List D) : gRevA (.tuple ds) = some (.d (.tuple ds.reverse)) := rfl
def eRevA (f : Ev → R D) (env : Ev) : R Ow := (f env).bind fun d => R.of (gRevA d)
@[simp] theorem eRevA_eq (f : Ev → R D) (env : Ev) : eRevA f env = (f env).bind fun d => R.of (gRevA d) := rfl
end
end Mir
end
set_option Elab.async false
set_option linter.all false
set_option maxRecDepth 100000
set_option maxHeartbeats 4000000
noncomputable section
namespace Mir
open PySem PySem.Spec PyProof.Rows L2
def noFrz (u : HO) : Prop := ∀ o v, u ≠ .frz o v
/-- what F tells F' tells, but for locks -/
structure Rl (F F' : Hp) : Prop where
  rd : ∀ a u, noFrz u → Rd F a u → Rd F' a u
  ins : ∀ a C dx fs, F a = some (.ins C dx fs) → F' a = some (.ins C dx fs)
theorem Rl.seq {K : PySem.W.Frag} {F F' : Hp} (r : Rl F F') {a : Addr} {xs : List V} (h : SqL K F a xs) : SqL K F' a xs := h.imp (r.rd a _ fun _ _ z => nomatch z) id
theorem Rl.seqT {K : PySem.W.Frag} {F F' : Hp} (r : Rl F F') {a : Addr} {xs : List V} (h : SqT K F a xs) : SqT K F' a xs := h.imp (r.rd a _ fun _ _ z => nomatch z) id
section
variable {K : Kw}
mutual
theorem Dp.rl {H H' : Hp} (e : Rl H H') : ∀ (d : D) (v : V), Dp K H v d → Dp K H' v d
  | .none, _, h => by cases h; exact .non
  | .bool b, _, h => by cases h; exact .bl b
  | .int b, _, h => by cases h; exact .int b
  | .str b, _, h => by cases h; exact .str b
  | .list ds, _, h => by
    cases h with
    | lst hs ha => exact .lst (e.seq hs) (DpAll.rl e ds _ ha)
  | .tuple ds, _, h => by
    cases h with
    | tup hs ha => exact .tup (e.seqT hs) (DpAll.rl e ds _ ha)
  | .dict ps, _, h => by
    cases h with
    | dct hs ha => exact .dct (e.rd _ _ (fun _ _ z => nomatch z) hs) (DpKv.rl e ps _ ha)
    | dcn hs ha => exact .dcn (e.rd _ _ (fun _ _ z => nomatch z) hs) (DpKn.rl e ps _ ha)
    | exc hs => exact .exc (e.rd _ _ (fun _ _ z => nomatch z) hs)
    | ins hs => exact .ins (e.ins _ _ _ _ hs)
theorem DpAll.rl {H H' : Hp} (e : Rl H H') : ∀ (ds : List D) (vs : List V), DpAll K H vs ds → DpAll K H' vs ds
  | [], _, h => by cases h; exact .nil
  | d :: ds, _, h => by
    cases h with
    | cons h1 h2 => exact .cons (Dp.rl e d _ h1) (DpAll.rl e ds _ h2)
theorem DpKv.rl {H H' : Hp} (e : Rl H H') : ∀ (ps : List (D × D)) (kvs : List (Key × V)), DpKv K H kvs ps → DpKv K H' kvs ps
  | [], _, h => by cases h; exact .nil
  | (x, d) :: ps, _, h => by
    cases h with
    | cons h1 h2 => exact .cons (Dp.rl e d _ h1) (DpKv.rl e ps _ h2)
theorem DpKn.rl {H H' : Hp} (e : Rl H H') : ∀ (ps : List (D × D)) (kvs : List (NestedKey × Addr × V)), DpKn K H kvs ps → DpKn K H' kvs ps
  | [], _, h => by cases h; exact .nil
  | (x, d) :: ps, _, h => by
    cases h with
    | cons h0 h1 h2 h3 => exact .cons (Dp.rl e _ _ h0) h1 (Dp.rl e d _ h2) (DpKn.rl e ps _ h3)
end
/-- .. and what stands beside F stays -/
structure Rlh (F H F' H' : Hp) : Prop where
  rl : Rl F F'
  fn : ∀ a, F a = none → F' a = none
  hh : ∀ a x, F a = none → H a = some x → H' a = some x
mutual
theorem OwnAt.rl {F H F' H' : Hp} (e : Rlh F H F' H') : ∀ (o : Ow) (v : V) (fp : List Addr), OwnAt K F H v o fp → OwnAt K F' H' v o fp
  | .d x, _, _, h => by cases h with | d h => exact .d (Dp.rl e.rl _ _ h)
  | .l os, _, _, h => by cases h with | l h1 h2 h3 => exact .l (e.fn _ h1) (e.hh _ _ h1 h2) (OwnAll.rl e os _ _ h3)
  | .m ps, _, _, h => by cases h with | m h1 h2 h3 => exact .m (e.fn _ h1) (e.hh _ _ h1 h2) (DpKv.rl e.rl _ _ h3)
  | .t os, _, _, h => by cases h with | t h1 h2 => exact .t (e.rl.seqT h1) (OwnAll.rl e os _ _ h2)
  | .k ks os, _, _, h => by cases h with | k h1 h2 h3 => exact .k (e.fn _ h1) (e.hh _ _ h1 h2) (OwnAll.rl e os _ _ h3)
  | .n ks os, _, _, h => by cases h with | n h1 h2 h3 h4 => exact .n (e.fn _ h1) (e.hh _ _ h1 h2) (fun p hp => ⟨Dp.rl e.rl _ _ (h3 p hp).1, (h3 p hp).2⟩) (OwnAll.rl e os _ _ h4)
  | .o c ns os, _, _, h => by cases h with | o h1 h2 h3 h4 h5 h6 => exact .o h1 (e.fn _ h2) (e.fn _ h3) (e.hh _ _ h2 h4) (e.hh _ _ h3 h5) (OwnAll.rl e os _ _ h6)
theorem OwnAll.rl {F H F' H' : Hp} (e : Rlh F H F' H') : ∀ (os : List Ow) (vs : List V) (fp : List Addr), OwnAll K F H vs os fp → OwnAll K F' H' vs os fp
  | [], _, _, h => by cases h; exact .nil
  | o :: os, _, _, h => by
    cases h with
    | cons h1 h2 => exact .cons (OwnAt.rl e o _ _ h1) (OwnAll.rl e os _ _ h2)
end
theorem EnvAt.rl {F H F' H' : Hp} (e : Rlh F H F' H') {σ : L2.St} {env : Ev} {fp : List Addr} (h : EnvAt K F H σ env fp) : EnvAt K F' H' σ env fp := by
  induction h with
  | nil => exact .nil
  | non h ih => exact .non ih
  | som h1 h2 ih => exact .som (OwnAt.rl e _ _ _ h1) ih
end
section
variable {X : Cx} {pins : List (Addr × Obj)} {σ : L2.St} {H : Hp} {s : Shared} {d : Addr} {o : Obj}
end
section
variable {X : Cx} {W : WX} {S : Nat → Bool} {tg e : Expr} {td : TE}
theorem PS.or {st : Stmt} {t t' : TS} (h : PS X st t) (h' : PS X st t') : PS X st (fun D σ H => t D σ H ∨ t' D σ H) := ⟨fun pins s σ H D I q => by
  rcases q with q | q
  · exact h.run pins s σ H D I q
  · exact h'.run pins s σ H D I q⟩
end
end Mir
end
set_option Elab.async false
set_option linter.all false
set_option maxRecDepth 100000
set_option maxHeartbeats 4000000
noncomputable section
namespace Mir
open PySem PySem.Spec PyProof.Rows L2
abbrev NKvs := List (NestedKey × Addr × V)
section
variable {X : Cx} {pins : List (Addr × Obj)} {σ : L2.St} {H : Hp} {s : Shared}
variable {A : Around} {E : Value → Shared → Prop} {d b : Addr} {kvs : NKvs} {k : NestedKey}
end
def eqD (a b : D) : Bool := @decide (a = b) (Classical.propDecidable _)
theorem eqD_iff {a b : D} : eqD a b = true ↔ a = b := @decide_eq_true_iff _ (Classical.propDecidable _)
@[simp] theorem eqD_self (a : D) : eqD a a = true := eqD_iff.mpr rfl
section
variable {X : Cx} {W : WX} {a b e k : Expr} {f g : Ev → R D} {pos : Pos}
end
def nO (ps : List (D × D)) : Ow := .n (ps.map (·.1)) (ps.map fun p => .d p.2)
theorem zip_fs : ∀ ps : List (D × D), (ps.map (·.1)).zip (ps.map (·.2)) = ps
  | [] => rfl
  | p :: ps => by rw [List.map_cons, List.map_cons, List.zip_cons_cons, zip_fs ps]
@[simp] theorem viewD_nO (ps : List (D × D)) : viewD (nO ps) = .dict ps := by
  unfold nO
  rw [viewD_n]
  have : viewAll (ps.map fun p => Ow.d p.2) = ps.map (·.2) := by
    have := viewAll_mapd (ps.map (·.2))
    rw [List.map_map] at this
    exact this
  rw [this, zip_fs]
section
variable {X : Cx} {W : WX} {S : Nat → Bool} {e k : Expr} {pos tpos npos : Pos} {x : Str} {f g : Ev → R D}
def eDictNewN (_ : Ev) : R Ow := .ok (nO [])
@[simp] theorem eDictNewN_eq (env : Ev) : eDictNewN env = .ok (nO []) := rfl
end
end Mir
end
set_option Elab.async false
set_option linter.all false
set_option maxRecDepth 100000
set_option maxHeartbeats 4000000
noncomputable section
namespace Mir
open PySem PySem.Spec PyProof.Rows L2
section
variable {K : Kw} {F H : Hp} {σ : L2.St} {env : Ev} {fp : List Addr}
end
section
variable {X : Cx} {W : WX} {S : Nat → Bool} {e k : Expr} {pos tpos npos apos cpos : Pos} {x : Str} {f : Ev → R Ow} {g : Ev → R D}
end
end Mir
end
set_option Elab.async false
set_option linter.all false
set_option maxRecDepth 100000
set_option maxHeartbeats 4000000
noncomputable section
namespace Mir
open PySem PySem.Spec PyProof.Rows L2
theorem tuple_mul1 (l : Addr) (items : Array Value) (n : Nat) (dd : Option Addr) (sl : Array (Option Value)) (u : Tok) :
    Meets (Builtin.«tuple.__mul__» ⟨[.ref l, .int 1 u], []⟩) (fun _ R s => s.heap.get? l = some { cls := .type "tuple", dict := dd, data := .seq items n, slots := sl } ∧
      R (.ok (.ret (Value.ref l))) s) :=
  .of_wp fun prog w A R s h => by
    obtain ⟨hp, g, d, tk, os⟩ := s
    obtain ⟨hl, h⟩ := h
    have f1 := AutoSeq1.idx_int
    have c0 : (decide ((1 : Int) < -(2 ^ 63)) || decide ((1 : Int) ≥ 2 ^ 63)) = false := by decide
    have c1 : (items.isEmpty || (1 : Int) == 1) = true := by simp
    wp_walk using wpAny_loadPart' hl
    repeat (first
      | (refine wpAny_ite_false (decide_eq_false (by rw [c0]; exact Bool.false_ne_true)) ?_; wp_walk using wpAny_loadPart' hl)
      | (refine wpAny_ite_true (decide_eq_true (by rw [c1])) ?_; wp_walk using wpAny_loadPart' hl))
    exact ⟨_, rfl, h⟩
theorem op_repT1 {X : Cx} : OpR X (binaryOp .Mult) (fun x y H Q => ∃ l xs, x = .ref l ∧ y = .int 1 ∧ SqT X.K H l xs ∧ Q (.ref l) H) := by
  intro pins s σ H x y v u Q I rx ry h
  obtain ⟨l, xs, rfl, rfl, hT, q⟩ := h
  cases rx
  obtain ⟨t, rfl⟩ := ry
  obtain ⟨its, r, ⟨⟨cls, dd, data, sl⟩, ho, hc, n, hd⟩, hs⟩ := I.tuple hT
  simp only at hc hd
  subst hc hd
  refine wpAny_binaryOp_repeat_ref (T := "tuple") (U := "int") (by decide) ⟨_, ho, rfl⟩ (fun s' => typeIs_int s' 1 t) noFill_tuple_mul F.fills_int_mul F.slot_int_rmul repeat_tuple F.slot_int_index.lookup
    (call_meets F.slot_int_rmul (typeIs_int s 1 t) F.entry_int_rmul (F.args_int_rmul_2 _ _) (int_rmul_tuple 1 t l its.toArray n dd sl)
      ⟨ho, rfl, ⟨_, ho, rfl⟩, call_meets F.slot_tuple_mul ⟨_, ho, rfl⟩ F.entry_tuple_mul (F.args_tuple_mul_2 _ _) (tuple_mul1 l its.toArray n dd sl t) ⟨ho, ?_⟩⟩)
  exact ⟨.ref l, H, I, rfl, q⟩
abbrev rRepN (K : Kw) : R2 := fun x y H Q => (∃ l xs, x = .ref l ∧ y = .int 1 ∧ SqT K.K H l xs ∧ Q (.ref l) H) ∨ rRepT K.K x y H Q
def gRepT : D → D → Option Ow
  | .tuple xs, .int k => if 1 ≤ k ∧ k ≤ 1000 ∧ xs ≠ [] ∧ xs.length ≤ 1000 then some (.d (.tuple (List.replicate k.toNat xs).flatten)) else none
  | _, _ => none
theorem opG_repT {K : Kw} : OpG K (rRepN K) gRepT := by
  intro F H x y dx dy o Q s hx hy e q
  unfold gRepT at e
  split at e
  · rename_i xs k
    split at e
    · rename_i c
      cases e
      obtain ⟨a, vs, rfl, h1, h2⟩ := dp_tup hx
      cases dp_int hy
      have l := DpAll.len h2
      by_cases k1 : k = 1
      · subst k1
        refine .inl ⟨a, vs, rfl, rfl, SqT_mono s h1, ?_⟩
        refine q _ _ _ (.refl s) (own_d ?_)
        show Dp K F (.ref a) (.tuple (List.replicate 1 xs).flatten)
        rw [show (List.replicate 1 xs).flatten = xs by simp]
        exact hx
      · refine .inr ⟨a, k, vs, rfl, rfl, SqT_mono s h1, fun e0 => ?_, by omega, c.2.1, by rw [l]; exact c.2.2.2, fun p hp => ?_⟩
        · rw [e0] at l
          exact c.2.2.1 (List.length_eq_zero_iff.mp l.symm)
        · have x := Ext.frz s hp (.tup (List.replicate k.toNat vs).flatten)
          exact q _ _ _ x (own_d (.tup (SqT.of upd_same) (dpaUp (DpAll.rep h2 k.toNat) x.ff)))
    · cases e
  · cases e
section
variable {X : Cx} {W : WX} {a b : Expr} {pos : Pos} {f g : Ev → R D}
end
end Mir
set_option Elab.async false
set_option linter.all false
set_option maxRecDepth 100000
set_option maxHeartbeats 4000000
noncomputable section
namespace Mir
open PySem PySem.Spec PyProof.Rows L2
section
variable {X : Cx} {W : WX}
end
end Mir
set_option Elab.async false
set_option linter.all false
set_option maxRecDepth 100000
set_option maxHeartbeats 4000000
noncomputable section
namespace Mir
open PySem PySem.Spec PyProof.Rows L2
theorem tuple_mul0 (l : Addr) (items : Array Value) (n : Nat) (dd : Option Addr) (sl : Array (Option Value)) (u : Tok) (hi : items.isEmpty = false) :
    Meets (Builtin.«tuple.__mul__» ⟨[.ref l, .int 0 u], []⟩) (fun _ R s => s.heap.get? l = some { cls := .type "tuple", dict := dd, data := .seq items n, slots := sl } ∧
      R (.ok (.ret (Value.ref s.heap.objs.size))) { s with heap := s.heap.push { cls := Value.type "tuple", data := Data.seq #[] }, toks := s.toks }) :=
  .of_wp fun prog w A R s h => by
    obtain ⟨hp, g, d, tk, os⟩ := s
    obtain ⟨hl, h⟩ := h
    have f1 := AutoSeq1.idx_int
    have c0 : (decide ((0 : Int) < -(2 ^ 63)) || decide ((0 : Int) ≥ 2 ^ 63)) = false := by decide
    have c1 : (items.isEmpty || (0 : Int) == 1) = false := by rw [hi]; rfl
    have c2 : (decide ((0 : Int) ≤ 0) || items.isEmpty) = true := by simp
    wp_walk using wpAny_loadPart' hl
    repeat (first
      | (refine wpAny_ite_false (decide_eq_false (by rw [c0]; exact Bool.false_ne_true)) ?_; wp_walk using wpAny_loadPart' hl)
      | (refine wpAny_ite_false (decide_eq_false (by rw [c1]; exact Bool.false_ne_true)) ?_; wp_walk using wpAny_loadPart' hl)
      | (refine wpAny_ite_true (decide_eq_true (by rw [c2])) ?_; wp_walk using wpAny_loadPart' hl))
    exact ⟨_, rfl, h⟩
theorem op_repT0 {X : Cx} : OpR X (binaryOp .Mult) (fun x y H Q => ∃ l xs, x = .ref l ∧ y = .int 0 ∧ SqT X.K H l xs ∧ xs ≠ [] ∧ ∀ p, H p = none → Q (.ref p) (upd H p (.tup []))) := by
  intro pins s σ H x y v u Q I rx ry h
  obtain ⟨l, xs, rfl, rfl, hT, hne, q⟩ := h
  cases rx
  obtain ⟨t, rfl⟩ := ry
  obtain ⟨its, r, ⟨⟨cls, dd, data, sl⟩, ho, hc, n, hd⟩, hs⟩ := I.tuple hT
  simp only at hc hd
  subst hc hd
  have hle : its.length = xs.length := r.length.symm
  have hi : its.toArray.isEmpty = false := by
    cases its with
    | nil => exact absurd (List.eq_nil_of_length_eq_zero hle.symm) hne
    | cons a b => rfl
  refine wpAny_binaryOp_repeat_ref (T := "tuple") (U := "int") (by decide) ⟨_, ho, rfl⟩ (fun s' => typeIs_int s' 0 t) noFill_tuple_mul F.fills_int_mul F.slot_int_rmul repeat_tuple F.slot_int_index.lookup
    (call_meets F.slot_int_rmul (typeIs_int s 0 t) F.entry_int_rmul (F.args_int_rmul_2 _ _) (int_rmul_tuple 0 t l its.toArray n dd sl)
      ⟨ho, rfl, ⟨_, ho, rfl⟩, call_meets F.slot_tuple_mul ⟨_, ho, rfl⟩ F.entry_tuple_mul (F.args_tuple_mul_2 _ _) (tuple_mul0 l its.toArray n dd sl t hi) ⟨ho, ?_⟩⟩)
  refine ⟨.ref s.heap.objs.size, _, I.laid (t' := s.toks) (o := .tup []) (fun b ob q => Heap.get?_push_of_some _ q) (Nat.le_refl _) ?_, rfl, q _ (I.hok.fresh (Nat.le_refl _))⟩
  exact ⟨by rw [sizeLine_eq]; simp, [], .nil, IsTup.new _ _⟩
abbrev rRepZ (K : Kw) : R2 := fun x y H Q => (∃ l xs, x = .ref l ∧ y = .int 0 ∧ SqT K.K H l xs ∧ xs ≠ [] ∧ ∀ p, H p = none → Q (.ref p) (upd H p (.tup []))) ∨ rRepN K x y H Q
def gRepZ : D → D → Option Ow
  | .tuple xs, .int k => if 0 ≤ k ∧ k ≤ 1000 ∧ xs ≠ [] ∧ xs.length ≤ 1000 then some (.d (.tuple (List.replicate k.toNat xs).flatten)) else none
  | _, _ => none
theorem opG_repZ {K : Kw} : OpG K (rRepZ K) gRepZ := by
  intro F H x y dx dy o Q s hx hy e q
  unfold gRepZ at e
  split at e
  · rename_i xs k
    split at e
    · rename_i c
      by_cases k0 : k = 0
      · subst k0
        cases e
        obtain ⟨a, vs, rfl, h1, h2⟩ := dp_tup hx
        cases dp_int hy
        have l := DpAll.len h2
        refine .inl ⟨a, vs, rfl, rfl, SqT_mono s h1, fun e0 => ?_, fun p hp => ?_⟩
        · rw [e0] at l
          exact c.2.2.1 (List.length_eq_zero_iff.mp l.symm)
        · have x := Ext.frz s hp (.tup [])
          exact q _ _ _ x (own_d (.tup (SqT.of upd_same) .nil))
      · refine .inr (opG_repT F H x y _ _ o Q s hx hy ?_ q)
        exact (if_pos ⟨by omega, c.2.1, c.2.2.1, c.2.2.2⟩).trans e
    · cases e
  · cases e
section
variable {X : Cx} {W : WX} {a b : Expr} {pos : Pos} {f g : Ev → R D}
theorem de_repZ (ha : DL X W a f) (hb : DL X W b g) : DE X W (.BinOp a .Mult b pos) (eBinO gRepZ f g) := de_bin (OpR.or op_repT0 (OpR.or op_repT1 op_repT)) opG_repZ ha hb
end
theorem gRepZ_of {xs : List D} {k : Nat} (h2 : k ≤ 1000) (h3 : xs ≠ []) (h4 : xs.length ≤ 1000) : gRepZ (.tuple xs) (.int (k : Nat)) = some (.d (.tuple (List.replicate k xs).flatten)) := if_pos ⟨by omega, by omega, h3, h4⟩
theorem op_mul_str0 {X : Cx} : OpR X (binaryOp .Mult) (fun x y H Q => ∃ z : Str, x = .str z ∧ y = .int 0 ∧ Q (.str (repS z 0)) H) := by
  intro pins s σ H x y v u Q I rx ry h
  obtain ⟨z, rfl, rfl, q⟩ := h
  obtain ⟨t, rfl⟩ := rx
  obtain ⟨t', rfl⟩ := ry
  exact PySem.P.mul_str_none (by decide) (by decide) ⟨.str Str.empty, H, I.tok _, ⟨_, rfl⟩, q⟩
def gMulZ : D → D → Option D
  | .int i, .int j => gMul (.int i) (.int j)
  | .str z, .int n => if 0 ≤ n ∧ n ≤ 1000000 ∧ z.length * n.toNat ≤ sizeLine then some (.str (repS z n.toNat)) else none
  | _, _ => none
@[simp] theorem gMulZ_int (i j : Int) : gMulZ (.int i) (.int j) = gMul (.int i) (.int j) := rfl
theorem gMulZ_str {z : Str} {n : Nat} (h2 : n ≤ 1000000) (h3 : z.length * n ≤ sizeLine) : gMulZ (.str z) (.int (n : Int)) = some (.str (repS z n)) := if_pos ⟨by omega, by omega, by rw [Int.toNat_natCast]; exact h3⟩
section
variable {X : Cx} {W : WX} {a b : Expr} {pos : Pos} {f g : Ev → R D}
theorem opS_mulZ {K : Kw} : OpS K (fun x y H Q => (∃ z : Str, x = .str z ∧ y = .int 0 ∧ Q (.str (repS z 0)) H) ∨ (fun x y H Q => rI (fun i j => CMul i j ∨ CMulW i j) (fun i j => .int (i * j)) x y H Q ∨ ∃ (z : Str) (n : Nat), x = .str z ∧ y = .int (n : Int) ∧ 1 ≤ n ∧ n ≤ 1000000 ∧ z.length * n ≤ sizeLine ∧ Q (.str (repS z n)) H) x y H Q) gMulZ := by
  intro H x y dx dy d Q hx hy e q
  unfold gMulZ at e
  split at e
  · exact .inr (.inl (opS_I H x y _ _ d Q hx hy e q))
  · split at e
    · rename_i z n c
      cases e
      cases dp_str hx
      cases dp_int hy
      by_cases n0 : n = 0
      · subst n0
        exact .inl ⟨z, rfl, rfl, q _ fun F => .str _⟩
      · exact .inr (.inr ⟨z, n.toNat, rfl, by rw [Int.toNat_of_nonneg (by omega)], by omega, by omega, c.2.2, q _ fun F => .str _⟩)
    · cases e
  · cases e
theorem df_mulZ (ha : DV X W a f) (hb : DV X W b g) : DF X W (.BinOp a .Mult b pos) (eBin gMulZ f g) := df_bin (OpR.or op_mul_str0 op_mulSV) opS_mulZ ha hb
end
section
variable {K : Kw} {F H : Hp} {σ : L2.St} {env : Ev} {fp : List Addr}
theorem OwnAll.snoc_inv : ∀ {os : List Ow} {o : Ow} {vs : List V} {fI : List Addr}, OwnAll K F H vs (os ++ [o]) fI → ∃ vs1 w f1 f2, vs = vs1 ++ [w] ∧ fI = f1 ++ f2 ∧ OwnAll K F H vs1 os f1 ∧ OwnAt K F H w o f2
  | [], o, vs, fI, h => by
    cases h with
    | @cons v vs _ _ fa fb h1 h2 =>
      cases h2
      exact ⟨[], v, [], fa, rfl, by simp, .nil, h1⟩
  | p :: os, o, vs, fI, h => by
    cases h with
    | @cons v vs _ _ fa fb h1 h2 =>
      obtain ⟨vs1, w, f1, f2, e1, e2, a, b⟩ := OwnAll.snoc_inv h2
      exact ⟨v :: vs1, w, fa ++ f1, f2, by rw [e1]; rfl, by rw [e2, List.append_assoc], .cons h1 a, b⟩
theorem Sat.popF (sat : Sat K F H σ env fp) {i : Nat} {os : List Ow} {o : Ow} (hi : env[i]? = some (some (.l (os ++ [o])))) : ∃ a vs1 w, σ[i]? = some (some (.ref a)) ∧ H a = some (.lst (vs1 ++ [w])) ∧ ∃ F' fp', StepS F H fp F' (upd H a (.lst vs1)) fp' ∧ Sat K F' (upd H a (.lst vs1)) σ (env.set i (some (.l os))) fp' ∧ Dp K F' w (viewD o) := by
  have hl : i < env.length := (List.getElem?_eq_some_iff.mp hi).1
  obtain ⟨fr, fo0, a1, a2, a3, a3', a4, a5, a6⟩ := sat.en.put hl sat.nd
  obtain ⟨v, e1, e2⟩ := a5 _ hi
  cases e2 with
  | @l a vs _ fI h1 h2 h3 =>
    obtain ⟨vs1, w, f1, f2, rfl, rfl, g1, g2⟩ := OwnAll.snoc_inv h3
    obtain ⟨na, nd⟩ := List.nodup_cons.mp a3'
    rw [List.nodup_append] at nd
    obtain ⟨nd1, nd2, dj⟩ := nd
    have na1 : a ∉ f1 := fun z => na (List.mem_append_left _ z)
    have na2 : a ∉ f2 := fun z => na (List.mem_append_right _ z)
    have nx : ∀ b ∈ f2, F b = none := fun b hb => (OwnAt.there _ _ _ g2 b hb).1
    have fa : frzAt F H f2 a = none := by unfold frzAt; rw [if_neg na2]; exact h1
    have fn : ∀ b u, frzAt F H f2 b = some u → F b = some u ∨ b ∈ a :: f2 ∨ H b = none := fun b u q => (frzAt_of q).imp id fun z => .inl (List.mem_cons_of_mem _ z)
    have st : StepS F H (a :: f2) (frzAt F H f2) (upd H a (.lst vs1)) [a] :=
      ⟨frzAt_same nx, fun b u q n => by rw [upd_ne (fun z => n (by rw [z]; exact List.mem_cons_self))]; exact q, fn, fun b hb => .inl (by rw [List.mem_singleton.mp hb]; exact List.mem_cons_self)⟩
    have sm : Same (frzAt F H f2) (upd H a (.lst vs1)) := fun b u q => by
      have ne : b ≠ a := fun z => by rw [z, fa] at q; cases q
      rw [upd_ne ne]
      exact frzAt_in sat.fh b u q
    have ow : OwnAll K (frzAt F H f2) (upd H a (.lst vs1)) vs1 os f1 := OwnAll.keep st os vs1 f1 g1 fun b hb z => by
      rcases List.mem_cons.mp z with z | z
      · exact na1 (z ▸ hb)
      · exact dj b hb b z rfl
    have nfr : ∀ b ∈ a :: (f1 ++ f2), b ∉ fr := fun b hb => a4 b hb
    obtain ⟨fp', b1, b2, b3⟩ := (a6 (frzAt F H f2) (upd H a (.lst vs1)) (a :: f2) [a] st fun b hb z => nfr b (by
      rcases List.mem_cons.mp z with z | z
      · rw [z]; exact List.mem_cons_self
      · exact List.mem_cons_of_mem _ (List.mem_append_right _ z)) hb).2 (.ref a) (.l os) (a :: f1) (.l fa upd_same ow) (List.nodup_cons.mpr ⟨na1, nd1⟩) fun b hb => nfr b (by
      rcases List.mem_cons.mp hb with z | z
      · rw [z]; exact List.mem_cons_self
      · exact List.mem_cons_of_mem _ (List.mem_append_left _ z))
    rw [set_self e1] at b3
    have sub : ∀ b ∈ a :: (f1 ++ f2), b ∈ fp := fun b hb => a2 b hb
    refine ⟨a, vs1, w, e1, h2, _, fp', ⟨frzAt_same nx, fun b u q n => ?_, fun b u q => ?_, fun b hb => ?_⟩, ⟨sm, b3, b1⟩, OwnAt.frz nx o w f2 g2 fun _ z => z⟩
    · rw [upd_ne (fun z => n (by rw [z]; exact sub a List.mem_cons_self))]
      exact q
    · exact (frzAt_of q).imp id fun z => .inl (sub b (List.mem_cons_of_mem _ (List.mem_append_right _ z)))
    · rcases b2 b hb with z | z
      · refine .inl (sub b ?_)
        rcases List.mem_cons.mp z with z | z
        · rw [z]; exact List.mem_cons_self
        · exact List.mem_cons_of_mem _ (List.mem_append_left _ z)
      · exact .inl (a1 b z)
end
def xPopF (i : Nat) (env : Ev) : R (D × Ev) := match env[i]? with
  | some (some (.l os)) => match os.getLast? with
    | some o => .ok (viewD o, env.set i (some (.l os.dropLast)))
    | none => .no
  | _ => .no
theorem xPopF_of {i : Nat} {env : Ev} {os : List Ow} {o : Ow} (h : env[i]? = some (some (.l (os ++ [o])))) : xPopF i env = .ok (viewD o, env.set i (some (.l os))) := by
  unfold xPopF
  rw [h]
  simp
section
variable {X : Cx} {x : Str}
theorem xf_popF {npos apos cpos : Pos} (i : Nat) (hN : X.N[i]? = some x := by rfl) (hv : Vis X.env.scope x := by first | exact Or.inl rfl | exact Or.inr (Or.inl rfl) | exact Or.inr (Or.inr rfl)) (hd : (x == ("__debug__" : Str)) = false := by decide) (hcd : (x == ("__classdict__" : Str)) = false := by decide)
    (hbase : attributeBase (.Name x npos) "pop" X.env (eval (.Name x npos) X.env) = eval (.Name x npos) X.env := by rfl) (hline : (apos.endLine == cpos.line) = true := by rfl) : DXF X (.Call (.Attribute (.Name x npos) "pop" apos) [] [] cpos) (xPopF i) := by
  refine ⟨_, pe_bm0 PySem.F.plainAttrs_list PySem.F.slot_list_pop PySem.F.type_list_pop mt_pop (pe_var hN hv hd hcd) hbase hline, fun F H σ env fp Q sat hp => ?_⟩
  unfold xPopF at hp
  split at hp
  · rename_i os he
    split at hp
    · rename_i o el
      have eo : os = os.dropLast ++ [o] := by
        have ne : os ≠ [] := fun z => by rw [z] at el; cases el
        rw [List.getLast?_eq_some_getLast ne] at el
        rw [← Option.some.inj el]
        exact (List.dropLast_concat_getLast ne).symm
      rw [eo] at he
      obtain ⟨a, vs1, w, b1, b2, F', fp', st, sat', dv⟩ := sat.popF he
      refine ⟨.ref a, b1, .inl ⟨rfl, vs1 ++ [w], SqL.of b2⟩, ?_⟩
      refine ⟨a, vs1 ++ [w], w, rfl, rfl, b2, by simp, ?_⟩
      rw [List.dropLast_append_of_ne_nil (by simp)]
      simp only [List.dropLast_singleton, List.append_nil]
      exact hp w F' _ fp' st sat' dv
    · exact hp.elim
  · exact hp.elim
end
end Mir
set_option Elab.async false
set_option linter.all false
set_option maxRecDepth 100000
set_option maxHeartbeats 4000000
namespace Mir
open PySem PySem.Spec L2

inductive Tr where
  | mk (nm : Str) (mk : Int) (bs : List Tr)
mutual
def encT : Tr → D
  | .mk nm k bs => .tuple [.str nm, .int k, .tuple (encTs bs)]
def encTs : List Tr → List D
  | [] => []
  | b :: bs => encT b :: encTs bs
end
mutual
def sizeT : Tr → Nat
  | .mk _ _ bs => 1 + sizeTs bs
def sizeTs : List Tr → Nat
  | [] => 0
  | b :: bs => sizeT b + sizeTs bs
end
mutual
def levT : Tr → Nat
  | .mk _ _ bs => levTs bs + 1
def levTs : List Tr → Nat
  | [] => 0
  | b :: bs => max (levT b) (levTs bs)
end
theorem encTs_map : ∀ bs : List Tr, encTs bs = bs.map encT
  | [] => by rw [encTs]; rfl
  | b :: bs => by rw [encTs, encTs_map bs]; rfl
theorem encT_mk (nm : Str) (k : Int) (bs : List Tr) : encT (.mk nm k bs) = .tuple [.str nm, .int k, .tuple (bs.map encT)] := by rw [encT, encTs_map]
theorem sizeTs_sum : ∀ bs : List Tr, sizeTs bs = (bs.map sizeT).sum
  | [] => by rw [sizeTs]; rfl
  | b :: bs => by rw [sizeTs, sizeTs_sum bs]; rfl
theorem levTs_le {n : Nat} : ∀ {bs : List Tr}, levTs bs ≤ n → ∀ b ∈ bs, levT b ≤ n
  | [], _, b, h => by simp at h
  | c :: bs, h, b, hb => by
    rw [levTs] at h
    rcases List.mem_cons.mp hb with e | e
    · subst e; omega
    · exact levTs_le (by omega) b e

structure TRow where
  nm : Str
  mar : Int
  up : Nat
theorem rangeCD_at {lo c : Int} {n i : Nat} {d : D} (h : (rangeCD lo c n)[i]? = some d) : i < n ∧ d = .int (lo + (i : Nat) * c) := by
  have hl : i < n := by have := (List.getElem?_eq_some_iff.mp h).1; simpa [rangeCD] using this
  refine ⟨hl, ?_⟩
  unfold rangeCD at h
  rw [List.getElem?_map, List.getElem?_range hl] at h
  exact (Option.some.inj h).symm
end Mir
set_option Elab.async false
set_option linter.all false
set_option maxRecDepth 100000
set_option maxHeartbeats 4000000
namespace Mir
open PySem PySem.Spec L2

abbrev zs (p : List Nat) : List Int := p.map fun k : Nat => (k : Int)

end Mir
set_option Elab.async false
set_option linter.all false
set_option maxRecDepth 100000
set_option maxHeartbeats 4000000
namespace Mir
open PySem PySem.Spec L2

theorem map_at {α β : Type} {f : α → β} {xs : List α} {i : Nat} {y : β} (h : (xs.map f)[i]? = some y) : ∃ x, xs[i]? = some x ∧ y = f x := by
  rw [List.getElem?_map] at h
  cases e : xs[i]? with
  | none => rw [e] at h; simp at h
  | some x => rw [e] at h; simp at h; exact ⟨x, rfl, h.symm⟩
theorem unDs_of {α : Type} (f : α → D) (xs : List α) : shD (.l (xs.map fun x => Ow.d (f x))) = .ok (.list (xs.map f)) := by
  have : (xs.map fun x => Ow.d (f x)) = (xs.map f).map Ow.d := by rw [List.map_map]; rfl
  rw [this, shD_l]
theorem viewAll_of {α : Type} (f : α → D) (xs : List α) : viewAll (xs.map fun x => Ow.d (f x)) = xs.map f := by
  rw [viewAll_map, List.map_map]
  rfl
theorem viewD_of {α : Type} (f : α → D) (xs : List α) : viewD (.l (xs.map fun x => Ow.d (f x))) = .list (xs.map f) := by
  rw [viewD_l, viewAll_of]
theorem rg3_all (n : Nat) (h : n ≤ 1000) : rg3 [.int ((n : Int) - 1), .int (-1), .int (-1)] = .ok (rangeCD ((n : Int) - 1) (-1) n) := by
  have e : ((n : Int) - 1 - -1).toNat = n := by omega
  have z : rg3 [.int ((n : Int) - 1), .int (-1), .int (-1)] = guard ((-1 : Int) = -1 ∧ -(2 ^ 62) ≤ (n : Int) - 1 ∧ (n : Int) - 1 < 2 ^ 62 ∧ -(2 ^ 62) ≤ (-1 : Int) ∧ (-1 : Int) < 2 ^ 62) (.ok (rangeCD ((n : Int) - 1) (-1) ((n : Int) - 1 - -1).toNat)) := rfl
  rw [z, guard_ok ⟨rfl, by omega, by omega, by decide, by decide⟩, e]
theorem rep_one (d : D) (n : Nat) (hl : n ≤ 1000) : repO (.l [.d d]) (.int (n : Nat)) = .ok (.l (List.replicate n (.d d))) := by
  rw [repO_of (ds := [d]) rfl ⟨by omega, by omega, by rw [Int.toNat_natCast, sizeLine_eq, List.length_singleton]; omega⟩, Int.toNat_natCast]
  have z : (List.replicate n [d]).flatten.map Ow.d = List.replicate n (.d d) := by simp
  rw [z]
theorem str_len (z : Str) : z.length = z.cps.toList.length := by first | rfl | simp [Str.length]
theorem gMul_small {i j : Int} (h1 : i.natAbs < 2 ^ 250) (h2 : j.natAbs < 2 ^ 250) : gMul (.int i) (.int j) = some (.int (i * j)) := by
  refine gMul_int ?_
  have : ∀ n : Nat, n < 2 ^ 250 → n.log2 < 250 := fun n h => by
    by_cases e : n = 0
    · subst e; decide
    · exact (Nat.log2_lt e).mpr h
  unfold CMulW
  have a := this _ h1
  have b := this _ h2
  omega
theorem gDiv_small {i j : Int} (h1 : 0 < j) (h2 : j.natAbs < 2 ^ 250) : gDiv (.int i) (.int j) = some (.int (i / j)) := by
  refine gDiv_int ⟨h1, ?_⟩
  have := (Nat.log2_lt (n := j.natAbs) (k := 250) (by omega)).mpr h2
  omega
theorem gPow10 (k : Nat) (h : k ≤ 1000) : gPow (.int 10) (.int k) = some (.int (10 ^ k)) := by
  rw [gPow_int ⟨by omega, by omega, by decide⟩]
  simp
theorem cutL_take {α : Type} (xs : List α) (k : Nat) : cutL xs none (some (k : Int)) = xs.take k := by
  unfold cutL
  rw [HT.sIx_none, HT.sIx_nat, List.drop_zero, Nat.sub_zero]
  by_cases h : k ≤ xs.length
  · rw [Nat.min_eq_left h]
  · rw [Nat.min_eq_right (by omega), List.take_of_length_le (Nat.le_refl _), List.take_of_length_le (by omega)]
theorem cutL_drop {α : Type} (xs : List α) (k : Nat) : cutL xs (some (k : Int)) none = xs.drop k := by
  unfold cutL
  rw [HT.sIx_none, HT.sIx_nat]
  by_cases h : k ≤ xs.length
  · rw [Nat.min_eq_left h, List.take_of_length_le (by rw [List.length_drop]; exact Nat.le_refl _)]
  · rw [Nat.min_eq_right (by omega), List.drop_of_length_le (by omega), List.drop_of_length_le (by omega)]
    simp
theorem canAll_of : ∀ ds : List D, (∀ d ∈ ds, d.canLay0 = true) → PyData.canLayAll0 ds = true
  | [], _ => by simp [PyData.canLayAll0]
  | d :: ds, h => by
    rw [PyData.canLayAll0, h d List.mem_cons_self, canAll_of ds fun d hd => h d (List.mem_cons_of_mem _ hd)]
    rfl
theorem depthAll_of {n : Nat} : ∀ ds : List D, (∀ d ∈ ds, d.depth ≤ n) → PyData.depthAll ds ≤ n
  | [], _ => by simp [PyData.depthAll]
  | d :: ds, h => by
    rw [PyData.depthAll]
    have := h d List.mem_cons_self
    have := depthAll_of ds fun d hd => h d (List.mem_cons_of_mem _ hd)
    omega
/-- data that == can be asked of -/
def Nice (d : D) : Prop := d.canLay0 = true ∧ d.depth ≤ 130
theorem gEq_nice {d e : D} (h : Nice d) (g : Nice e) : gEq d e = some (.bool (PyData.eqv d e)) := by
  have z : eqOk d e = true := by unfold eqOk; simp [h.1, h.2, g.1]
  unfold gEq; rw [if_pos (by rw [z, Bool.or_true])]
theorem gNe_nice {d e : D} (h : Nice d) (g : Nice e) : gNe d e = some (.bool (!PyData.eqv d e)) := by
  have z : eqOk d e = true := by unfold eqOk; simp [h.1, h.2, g.1]
  unfold gNe; rw [if_pos (by rw [z, Bool.or_true])]
theorem eqv_self {d : D} (h : Nice d) : PyData.eqv d d = true := SeqAt.eqv_refl d h.1
theorem gEq_self {d : D} (h : Nice d) : gEq d d = some (.bool true) := by rw [gEq_nice h h, eqv_self h]
theorem gNe_self {d : D} (h : Nice d) : gNe d d = some (.bool false) := by rw [gNe_nice h h, eqv_self h]; rfl
mutual
def okT : Tr → Prop
  | .mk nm _ bs => PyData.strOk nm = true ∧ bs.length ≤ 1000 ∧ okTs bs
def okTs : List Tr → Prop
  | [] => True
  | b :: bs => okT b ∧ okTs bs
end
theorem okTs_iff : ∀ bs : List Tr, okTs bs ↔ ∀ b ∈ bs, okT b
  | [] => by simp [okTs]
  | b :: bs => by rw [okTs, okTs_iff bs]; simp
mutual
theorem can_encT : ∀ t : Tr, okT t → (encT t).canLay0 = true
  | .mk nm k bs, h => by
    rw [okT] at h
    rw [encT, PyData.canLay0]
    simp [PyData.canLayAll0, PyData.canLay0, h.1, can_encTs bs h.2.2]
theorem can_encTs : ∀ bs : List Tr, okTs bs → PyData.canLayAll0 (encTs bs) = true
  | [], _ => by simp [encTs, PyData.canLayAll0]
  | b :: bs, h => by
    rw [okTs] at h
    rw [encTs, PyData.canLayAll0, can_encT b h.1, can_encTs bs h.2]
    rfl
end
mutual
theorem depth_encT : ∀ t : Tr, (encT t).depth ≤ 2 * levT t
  | .mk nm k bs => by
    rw [encT, levT]
    have := depth_encTs bs
    simp only [PyData.depth, PyData.depthAll]
    omega
theorem depth_encTs : ∀ bs : List Tr, PyData.depthAll (encTs bs) ≤ 2 * levTs bs
  | [] => by simp [encTs, PyData.depthAll]
  | b :: bs => by
    rw [encTs, PyData.depthAll, levTs]
    have := depth_encT b
    have := depth_encTs bs
    omega
end
abbrev abc : Str := "abcdefghijklmnopqrstuvwxyz"
end Mir
set_option Elab.async false
set_option linter.all false
set_option maxRecDepth 100000
set_option maxHeartbeats 4000000
namespace Mir
open PySem PySem.Spec L2

def tx (l : List Nat) : Str := ⟨l.toArray⟩
@[simp] theorem tx_cps (l : List Nat) : (tx l).cps.toList = l := by simp [tx]
@[simp] theorem tx_len (l : List Nat) : (tx l).length = l.length := by rw [str_len, tx_cps]
theorem tx_of (z : Str) : z = tx z.cps.toList := by
  cases z with
  | mk a => simp [tx]
theorem tx_app (a b : List Nat) : tx a ++ tx b = tx (a ++ b) := by
  show (⟨(tx a).cps ++ (tx b).cps⟩ : Str) = _
  simp [tx]
theorem tx_inj {a b : List Nat} (h : tx a = tx b) : a = b := by
  have := congrArg (fun z : Str => z.cps.toList) h
  simpa using this
theorem gLen_tx (l : List Nat) (h : l.length ≤ 16777216) : gLen [.str (tx l)] = some (.d (.int l.length)) := by
  show (if (tx l).length ≤ sizeLine then some (Ow.d (.int (tx l).length)) else none) = _
  rw [tx_len, if_pos (by rw [sizeLine_eq]; exact h)]
theorem gIx_tx {l : List Nat} {i c : Nat} (h : l[i]? = some c) (hl : l.length ≤ 16777216) : gIx (.str (tx l)) (.int (i : Nat)) = some (.str (tx [c])) := by
  show (if (tx l).length ≤ sizeLine then (atI (tx l).cps.toList (i : Int)).map fun c => PyData.str ⟨#[c]⟩ else none) = _
  rw [tx_len, tx_cps, if_pos (by rw [sizeLine_eq]; exact hl), atI_natD h]
  rfl
theorem atI_last {α : Type} {xs : List α} {x : α} : atI (xs ++ [x]) (-1) = some x := by
  unfold atI ixN
  rw [if_neg (by decide)]
  have : -((xs ++ [x]).length : Int) ≤ -1 := by rw [List.length_append, List.length_singleton]; omega
  rw [if_pos this]
  have e : (-1 + ((xs ++ [x]).length : Int)).toNat = xs.length := by rw [List.length_append, List.length_singleton]; omega
  show (xs ++ [x])[(-1 + ((xs ++ [x]).length : Int)).toNat]? = _
  rw [e, List.getElem?_append_right (Nat.le_refl _)]
  simp
theorem gIx_last {l : List Nat} {c : Nat} (hl : l.length < 16777216) : gIx (.str (tx (l ++ [c]))) (.int (-1)) = some (.str (tx [c])) := by
  show (if (tx (l ++ [c])).length ≤ sizeLine then (atI (tx (l ++ [c])).cps.toList (-1)).map fun c => PyData.str ⟨#[c]⟩ else none) = _
  rw [tx_len, tx_cps, if_pos (by rw [sizeLine_eq]; simp; omega), atI_last]
  rfl
def inS (c : Nat) (z : Str) : Bool := decide (c ∈ z.cps.toList)
theorem gIn_tx (c : Nat) (z : Str) : gIn (.str (tx [c])) (.str z) = some (.bool (inS c z)) := gIn_sign c z
theorem gEq_tx (a b : List Nat) : gEq (.str (tx a)) (.str (tx b)) = some (.bool (decide (a = b))) := by
  have : PyData.eqv (.str (tx a)) (.str (tx b)) = decide (a = b) := by
    show (tx a == tx b) = _
    by_cases h : a = b
    · subst h; simp
    · rw [decide_eq_false h]
      exact beq_eq_false_iff_ne.mpr fun e => h (tx_inj e)
  show some (PyData.bool (PyData.eqv (.str (tx a)) (.str (tx b)))) = _
  rw [this]
theorem gSl_tx {l : List Nat} {i j : Nat} (h : j ≤ l.length) (hi : i ≤ j) (hl : l.length ≤ 16777216) : gSl (.str (tx l)) (some (i : Int)) (some (j : Int)) = some (.d (.str (tx ((l.drop i).take (j - i))))) := by
  show (if (tx l).length ≤ sizeLine then some (Ow.d (.str (cutS (tx l) (some (i : Int)) (some (j : Int))))) else none) = _
  rw [tx_len, if_pos (by rw [sizeLine_eq]; exact hl)]
  unfold cutS
  rw [tx_len, tx_cps, HT.sIx_nat, HT.sIx_nat, Nat.min_eq_left h, Nat.min_eq_left (by omega)]
  rfl
theorem gAdd_tx {a b : List Nat} (h : a.length + b.length ≤ 16777216) : gAdd (.str (tx a)) (.str (tx b)) = some (.d (.str (tx (a ++ b)))) := by
  rw [gAdd_str (by rw [tx_len, tx_len, sizeLine_eq]; exact h), tx_app]
def isL (c : Nat) : Bool := decide (97 ≤ c) && decide (c ≤ 122)
def isF (c : Nat) : Bool := decide (48 ≤ c) && decide (c ≤ 57)
def sigs : List Nat := [40, 41, 59, 58, 61, 124, 42]
theorem abc_is : abc.cps.toList = (List.range 26).map (fun k => 97 + k) := by decide +kernel
theorem mem_abc (c : Nat) : decide (c ∈ abc.cps.toList) = isL c := by
  rw [abc_is]
  unfold isL
  by_cases h : 97 ≤ c ∧ c ≤ 122
  · rw [decide_eq_true (List.mem_map.mpr ⟨c - 97, List.mem_range.mpr (by omega), by omega⟩)]
    simp [h]
  · rw [decide_eq_false fun z => ?_]
    · by_cases h1 : 97 ≤ c
      · have : ¬ c ≤ 122 := fun q => h ⟨h1, q⟩
        simp [h1, this]
      · simp [h1]
    · obtain ⟨k, hk, e⟩ := List.mem_map.mp z
      rw [List.mem_range] at hk
      exact h ⟨by omega, by omega⟩
abbrev figs : Str := "0123456789"
theorem figs_is : figs.cps.toList = (List.range 10).map (fun k => 48 + k) := by decide +kernel
theorem mem_figs (c : Nat) : decide (c ∈ figs.cps.toList) = isF c := by
  rw [figs_is]
  unfold isF
  by_cases h : 48 ≤ c ∧ c ≤ 57
  · rw [decide_eq_true (List.mem_map.mpr ⟨c - 48, List.mem_range.mpr (by omega), by omega⟩)]
    simp [h]
  · rw [decide_eq_false fun z => ?_]
    · by_cases h1 : 48 ≤ c
      · have : ¬ c ≤ 57 := fun q => h ⟨h1, q⟩
        simp [h1, this]
      · simp [h1]
    · obtain ⟨k, hk, e⟩ := List.mem_map.mp z
      rw [List.mem_range] at hk
      exact h ⟨by omega, by omega⟩
theorem sigs_is : (Str.ofString "();:=|*").cps.toList = sigs := by decide +kernel
theorem sp_is : (Str.ofString " ") = tx [32] := by rw [tx_of (Str.ofString " ")]; congr 1
theorem minus_is : (Str.ofString "-") = tx [45] := by rw [tx_of (Str.ofString "-")]; congr 1
theorem nought_is : (Str.ofString "0") = tx [48] := by rw [tx_of (Str.ofString "0")]; congr 1
theorem numL_head : ∀ n : Nat, 1 ≤ n → ∃ c r, TL.numL n = c :: r ∧ c ≠ 48 := by
  intro n
  induction n using Nat.strongRecOn with
  | _ n ih =>
    intro h
    by_cases h1 : n < 10
    · rw [TL.numL_lt h1]
      exact ⟨48 + n, [], rfl, by omega⟩
    · rw [TL.numL_step (by omega)]
      obtain ⟨c, r, e, ne⟩ := ih (n / 10) (by omega) (by omega)
      rw [e]
      exact ⟨c, r ++ [48 + n % 10], rfl, ne⟩
theorem numL_zero : TL.numL 0 = [48] := TL.numL_lt (by decide)
theorem numL_isF (n : Nat) : ∀ c ∈ TL.numL n, isF c = true := fun c hc => by
  have := TL.numL_digits n c hc
  unfold isF
  simp [this.1, this.2]
theorem num_tx (n : Nat) : Str.ofString (toString ((n : Nat) : Int)) = tx (TL.numL n) := by
  rw [tx_of (Str.ofString (toString ((n : Nat) : Int)))]
  congr 1
  exact TL.tl_num n
theorem neg_tx (n : Nat) : Str.ofString (toString (Int.negSucc n)) = tx (45 :: TL.numL (n + 1)) := by
  have e : toString (Int.negSucc n) = "-" ++ toString ((n + 1 : Nat) : Int) := rfl
  have h : (toString ((n + 1 : Nat) : Int)).toList.map Char.toNat = TL.numL (n + 1) := by
    have := TL.tl_num (n + 1)
    rw [Str.ofString_eq_toList] at this
    simpa [TL.tl] using this
  rw [e, Str.ofString_eq_toList, String.toList_append, List.map_append, h]
  rfl
theorem inS_abc (c : Nat) : inS c abc = isL c := mem_abc c
theorem inS_figs (c : Nat) : inS c figs = isF c := mem_figs c
theorem inS_sigs (c : Nat) : inS c (Str.ofString "();:=|*") = decide (c ∈ sigs) := by unfold inS; rw [sigs_is]
end Mir
set_option Elab.async false
set_option linter.all false
set_option maxRecDepth 100000
set_option maxHeartbeats 4000000
namespace Mir
open PySem PySem.Spec L2
theorem abc_ix {k : Nat} (hk : k < 26) : gIx (.str abc) (.int (k : Int)) = some (.str (tx [97 + k])) := by
  rw [tx_of abc, abc_is]
  refine gIx_tx ?_ (by simp)
  rw [List.getElem?_map, List.getElem?_range hk]
  rfl
theorem strOk_tx {l : List Nat} (h : ∀ c ∈ l, c < 1000) : PyData.strOk (tx l) = true := by
  unfold PyData.strOk
  simp only [tx, List.all_toArray, List.all_eq_true, decide_eq_true_eq]
  intro c hc
  have := h c hc
  omega
theorem isL_small {c : Nat} (h : isL c = true) : c < 1000 := by
  unfold isL at h
  simp only [Bool.and_eq_true, decide_eq_true_eq] at h
  omega
theorem isF_small {c : Nat} (h : isF c = true) : c < 1000 := by
  unfold isF at h
  simp only [Bool.and_eq_true, decide_eq_true_eq] at h
  omega
theorem log2_lt_of {n k : Nat} (h : n < 2 ^ k) (hk : 0 < k) : n.log2 < k := by
  by_cases e : n = 0
  · subst e; rw [show Nat.log2 0 = 0 from by decide]; exact hk
  · exact (Nat.log2_lt e).mpr h
theorem gStr_nat {n : Nat} (h : n < 2 ^ 1000) : gStr [.int (n : Nat)] = some (.d (.str (tx (TL.numL n)))) := by
  have : (Int.natAbs (n : Int)).log2 < 1920 := by
    rw [Int.natAbs_natCast]
    have := log2_lt_of h (by decide)
    omega
  show (if (Int.natAbs (n : Int)).log2 < 1920 then some (Ow.d (PyData.str (Str.ofString (toString (n : Int))))) else none) = _
  rw [if_pos this, num_tx]
theorem gStr_neg {n : Nat} (h : n + 1 < 2 ^ 1000) : gStr [.int (Int.negSucc n)] = some (.d (.str (tx (45 :: TL.numL (n + 1))))) := by
  have : (Int.negSucc n).natAbs.log2 < 1920 := by
    show (n + 1).log2 < 1920
    have := log2_lt_of h (by decide)
    omega
  show (if (Int.negSucc n).natAbs.log2 < 1920 then some (Ow.d (PyData.str (Str.ofString (toString (Int.negSucc n))))) else none) = _
  rw [if_pos this, neg_tx]
end Mir
set_option Elab.async false
set_option linter.all false
set_option maxRecDepth 100000
set_option maxHeartbeats 4000000
namespace Mir
open PySem PySem.Spec L2

inductive Trm where
  | call (m b : Int)
  | put (nm : Str) (kp : Bool) (ad : Int) (ps : List Trm)
mutual
def encM : Trm → D
  | .call m b => .tuple [.str "call", .int m, .int b]
  | .put nm kp ad ps => .tuple [.str "put", .str nm, .bool kp, .int ad, .tuple (encMs ps)]
def encMs : List Trm → List D
  | [] => []
  | p :: ps => encM p :: encMs ps
end
mutual
def sizeM : Trm → Nat
  | .call _ _ => 1
  | .put _ _ _ ps => 1 + sizeMs ps
def sizeMs : List Trm → Nat
  | [] => 0
  | p :: ps => sizeM p + sizeMs ps
end
mutual
def levM : Trm → Nat
  | .call _ _ => 1
  | .put _ _ _ ps => levMs ps + 1
def levMs : List Trm → Nat
  | [] => 0
  | p :: ps => max (levM p) (levMs ps)
end
mutual
def callsM : Trm → List (Int × Int)
  | .call m b => [(m, b)]
  | .put _ _ _ ps => callsMs ps
def callsMs : List Trm → List (Int × Int)
  | [] => []
  | p :: ps => callsM p ++ callsMs ps
end
mutual
def okM : Trm → Prop
  | .call _ _ => True
  | .put nm _ _ ps => PyData.strOk nm = true ∧ ps.length ≤ 1000 ∧ okMs ps
def okMs : List Trm → Prop
  | [] => True
  | p :: ps => okM p ∧ okMs ps
end
theorem str_eqv (a b : Str) : PyData.eqv (.str a) (.str b) = (a == b) := rfl
theorem gEq_strs (a b : String) : gEq (.str (Str.ofString a)) (.str (Str.ofString b)) = some (.bool (PyData.eqv (.str (Str.ofString a)) (.str (Str.ofString b)))) := rfl
@[simp] theorem gEq_cc : gEq (.str (Str.ofString "call")) (.str (Str.ofString "call")) = some (.bool true) := by
  have h : (Str.ofString "call" == Str.ofString "call") = true := by decide +kernel
  rw [gEq_strs, str_eqv, h]
@[simp] theorem gEq_pc : gEq (.str (Str.ofString "put")) (.str (Str.ofString "call")) = some (.bool false) := by
  have h : (Str.ofString "put" == Str.ofString "call") = false := by decide +kernel
  rw [gEq_strs, str_eqv, h]
@[simp] theorem gEq_cp : gEq (.str (Str.ofString "call")) (.str (Str.ofString "put")) = some (.bool false) := by
  have h : (Str.ofString "call" == Str.ofString "put") = false := by decide +kernel
  rw [gEq_strs, str_eqv, h]
@[simp] theorem gEq_pp : gEq (.str (Str.ofString "put")) (.str (Str.ofString "put")) = some (.bool true) := by
  have h : (Str.ofString "put" == Str.ofString "put") = true := by decide +kernel
  rw [gEq_strs, str_eqv, h]
noncomputable section
def encC (c : Int × Int) : D := .tuple [.int c.1, .int c.2]
abbrev encCs (cs : List (Int × Int)) : Ow := .l (cs.map fun c => .d (encC c))
end
end Mir
set_option Elab.async false
set_option linter.all false
set_option maxRecDepth 100000
set_option maxHeartbeats 4000000
namespace Mir
open PySem PySem.Spec L2

def mar : Tr → Int
  | .mk _ k _ => k

end Mir
set_option Elab.async false
set_option linter.all false
set_option maxRecDepth 100000
set_option maxHeartbeats 4000000
namespace Mir
open PySem PySem.Spec L2
def ik : Int → List Nat
  | .ofNat n => TL.numL n
  | .negSucc n => 45 :: TL.numL (n + 1)
theorem gStr_ik {k : Int} (h : k.natAbs < 2 ^ 1000) : gStr [.int k] = some (.d (.str (tx (ik k)))) := by
  cases k with
  | ofNat n => exact gStr_nat h
  | negSucc n => exact gStr_neg h
theorem gInt_ik {k : Int} (h : (ik k).length ≤ 640) : gInt [.str (tx (ik k))] = some (.d (.int k)) := by
  show (if (tx (ik k)).length ≤ 640 then (intText? (tx (ik k))).map fun n => Ow.d (.int n) else none) = _
  rw [if_pos (by rw [tx_len]; exact h)]
  have e : intText? (tx (ik k)) = some k := by
    cases k with
    | ofNat n =>
      have := PySem.intText_digits (x := tx (ik (.ofNat n))) (by rw [tx_cps]; exact TL.numL_digits n) (by rw [tx_cps]; exact TL.numL_ne n) (by rw [tx_len]; omega)
      rw [this, tx_cps]
      show some ((NumText.digitsVal (TL.numL n) : Nat) : Int) = _
      rw [TL.numL_val]
      rfl
    | negSucc n =>
      have := PySem.intText_neg (x := tx (ik (.negSucc n))) (cs := TL.numL (n + 1)) (by rw [tx_cps]; rfl) (TL.numL_digits _) (TL.numL_ne _) (by rw [tx_len]; omega)
      rw [this, TL.numL_val]
      congr 1
  rw [e]
  rfl
theorem ik_len {k : Int} (h : k.natAbs < 10 ^ 60) : (ik k).length ≤ 61 := by
  cases k with
  | ofNat n => have := TL.numL_len (n := n) (k := 60) (by decide) h; show (TL.numL n).length ≤ 61; omega
  | negSucc n => have := TL.numL_len (n := n + 1) (k := 60) (by decide) h; show (45 :: TL.numL (n + 1)).length ≤ 61; simp; omega
theorem ik_head (k : Int) : ∃ c r, ik k = c :: r ∧ (isF c = true ∨ c = 45) := by
  cases k with
  | ofNat n =>
    cases e : TL.numL n with
    | nil => exact absurd e (TL.numL_ne n)
    | cons c r => exact ⟨c, r, e, .inl (numL_isF n c (by rw [e]; simp))⟩
  | negSucc n => exact ⟨45, TL.numL (n + 1), rfl, .inr rfl⟩
/-- a tree laid out: name, mark, blanks ahead of its mark (where it is told), ahead of (, behind it, between, ahead of ) -/
inductive LN where
  | mk (nm : List Nat) (k : Int) (mb : Option Nat) (o i g c : Nat) (bs : List LN)
mutual
def trN : LN → Tr
  | .mk nm k _ _ _ _ _ bs => .mk (tx nm) k (trNs bs)
def trNs : List LN → List Tr
  | [] => []
  | b :: bs => trN b :: trNs bs
end
def brk (o c : Nat) : List (Nat × List Nat) → List (Nat × List Nat)
  | [] => []
  | s :: ss => (o, [40]) :: (s :: ss ++ [(c, [41])])
def mkW (k : Int) : Option Nat → List (List Nat)
  | none => []
  | some _ => [ik k]
def brw : List (List Nat) → List (List Nat)
  | [] => []
  | s :: ss => [40] :: (s :: ss ++ [[41]])
mutual
def wN : LN → List (List Nat)
  | .mk nm k mb o i g c bs => nm :: (mkW k mb ++ brw (wNs bs))
def wNs : List LN → List (List Nat)
  | [] => []
  | b :: bs => wN b ++ wNs bs
end
theorem op_is : (Str.ofString "(") = tx [40] := by rw [tx_of (Str.ofString "(")]; congr 1
theorem cl_is : (Str.ofString ")") = tx [41] := by rw [tx_of (Str.ofString ")")]; congr 1
end Mir
set_option Elab.async false
set_option linter.all false
set_option maxRecDepth 100000
set_option maxHeartbeats 4000000
namespace Mir
open PySem PySem.Spec L2
abbrev Wo := List Nat
def nmW : Wo → Bool
  | c :: _ => isL c
  | [] => false
def nuW (w : Wo) : Bool := match w.getLast? with
  | some x => isF x
  | none => false
def VW (w : Wo) : Prop := w ≠ [] ∧ w.length ≤ 100 ∧ PyData.strOk (tx w) = true ∧ (nuW w = true → ∃ k : Int, gInt [.str (tx w)] = some (.d (.int k)))
open Classical in
noncomputable def valW (w : Wo) : Int := if h : ∃ k : Int, gInt [.str (tx w)] = some (.d (.int k)) then h.choose else 0
theorem valW_of {w : Wo} (h : ∃ k : Int, gInt [.str (tx w)] = some (.d (.int k))) : gInt [.str (tx w)] = some (.d (.int (valW w))) := by
  unfold valW
  rw [dif_pos h]
  exact h.choose_spec
noncomputable section
def markW : List Wo → Int × List Wo
  | n :: r => if nuW n then (valW n, r) else (0, n :: r)
  | [] => (0, [])
def pMs (g : List Wo → Option (Tr × List Wo)) : Nat → List Wo → Option (List Tr × List Wo)
  | 0, _ => none
  | n + 1, ws => if ws.head? = some [41] then some ([], ws) else match g ws with
    | none => none
    | some (t, r) => match pMs g n r with
      | none => none
      | some (bs, r2) => some (t :: bs, r2)
def pT : Nat → List Wo → Option (Tr × List Wo)
  | 0, _ => none
  | _ + 1, [] => none
  | l + 1, w :: r => if nmW w then (if (markW r).2.head? = some [40] then (match pMs (pT l) (markW r).2.length (markW r).2.tail with
      | none => none
      | some (bs, r2) => if bs.isEmpty then none else some (.mk (tx w) (markW r).1 bs, r2.tail)) else some (.mk (tx w) (markW r).1 [], (markW r).2)) else none
theorem markW_suf : ∀ r : List Wo, ∃ u, r = u ++ (markW r).2
  | [] => ⟨[], rfl⟩
  | n :: r => by
    by_cases h : nuW n = true
    · exact ⟨[n], by simp [markW, h]⟩
    · exact ⟨[], by simp [markW, h]⟩
theorem pMs_suf {g : List Wo → Option (Tr × List Wo)} (hg : ∀ ws t r, g ws = some (t, r) → ∃ u, u ≠ [] ∧ ws = u ++ r) : ∀ (n : Nat) (ws : List Wo) (bs : List Tr) (r : List Wo), pMs g n ws = some (bs, r) → ∃ u, ws = u ++ r ∧ r.head? = some [41] ∧ bs.length ≤ u.length
  | 0, ws, bs, r, h => by rw [pMs] at h; cases h
  | n + 1, ws, bs, r, h => by
    rw [pMs] at h
    split at h
    · rename_i c
      cases h
      exact ⟨[], rfl, c, by simp⟩
    · split at h
      · cases h
      · rename_i t r1 e
        split at h
        · cases h
        · rename_i bs' r2 e2
          cases h
          obtain ⟨u, hu, rfl⟩ := hg ws t r1 e
          obtain ⟨u2, e3, hh, hl⟩ := pMs_suf hg n r1 bs' r e2
          refine ⟨u ++ u2, by rw [List.append_assoc, ← e3], hh, ?_⟩
          have := List.length_pos_iff.mpr hu
          rw [List.length_cons, List.length_append]
          omega
theorem pT_suf : ∀ (l : Nat) (ws : List Wo) (t : Tr) (r : List Wo), pT l ws = some (t, r) → ∃ u, u ≠ [] ∧ ws = u ++ r
  | 0, ws, t, r, h => by rw [pT] at h; cases h
  | l + 1, [], t, r, h => by rw [pT] at h; cases h
  | l + 1, w :: r0, t, r, h => by
    rw [pT] at h
    obtain ⟨um, em⟩ := markW_suf r0
    split at h
    · split at h
      · rename_i hd
        split at h
        · cases h
        · rename_i bs r2 e
          split at h
          · cases h
          · cases h
            obtain ⟨u, e2, hh, _⟩ := pMs_suf (pT_suf l) _ _ _ _ e
            obtain ⟨a, b, eb⟩ : ∃ a b, (markW r0).2 = a :: b := by
              cases hm : (markW r0).2 with
              | nil => rw [hm] at hd; cases hd
              | cons a b => exact ⟨a, b, rfl⟩
            obtain ⟨c, d, ed⟩ : ∃ c d, r2 = c :: d := by
              cases r2 with
              | nil => cases hh
              | cons c d => exact ⟨c, d, rfl⟩
            rw [eb, List.tail_cons, ed] at e2
            refine ⟨w :: (um ++ a :: (u ++ [c])), by simp, ?_⟩
            rw [ed, List.tail_cons]
            rw [em, eb, e2]
            simp
      · cases h
        exact ⟨w :: um, by simp, by rw [List.cons_append, ← em]⟩
    · cases h
mutual
/-- what is read is laid as is: names, levels, few branches -/
theorem pT_ok : ∀ (l : Nat) (ws : List Wo) (t : Tr) (r : List Wo), (∀ w ∈ ws, VW w) → ws.length ≤ 1000 → pT l ws = some (t, r) → okT t ∧ levT t ≤ l
  | 0, ws, t, r, _, _, h => by rw [pT] at h; cases h
  | l + 1, [], t, r, _, _, h => by rw [pT] at h; cases h
  | l + 1, w :: r0, t, r, hv, hl, h => by
    rw [pT] at h
    obtain ⟨um, em⟩ := markW_suf r0
    have sw := (hv w List.mem_cons_self).2.2.1
    split at h
    · split at h
      · split at h
        · cases h
        · rename_i bs r2 e
          split at h
          · cases h
          · cases h
            have tv : ∀ z ∈ (markW r0).2.tail, VW z := fun z hz => hv z (List.mem_cons_of_mem _ (by rw [em]; exact List.mem_append_right _ (List.mem_of_mem_tail hz)))
            have tl : (markW r0).2.tail.length ≤ 999 := by
              rw [List.length_tail]
              have := congrArg List.length em
              rw [List.length_append] at this
              rw [List.length_cons] at hl
              omega
            obtain ⟨a, b⟩ := pMs_ok l _ _ _ _ tv (by omega) e
            obtain ⟨u, e2, _, hb⟩ := pMs_suf (pT_suf l) _ _ _ _ e
            have := congrArg List.length e2
            rw [List.length_append] at this
            rw [okT, okTs_iff, levT]
            refine ⟨⟨sw, by omega, a⟩, ?_⟩
            omega
      · cases h
        rw [okT, okTs, levT, levTs]
        exact ⟨⟨sw, by simp, trivial⟩, by omega⟩
    · cases h
theorem pMs_ok : ∀ (l n : Nat) (ws : List Wo) (bs : List Tr) (r : List Wo), (∀ w ∈ ws, VW w) → ws.length ≤ 1000 → pMs (pT l) n ws = some (bs, r) → (∀ b ∈ bs, okT b) ∧ levTs bs ≤ l
  | l, 0, ws, bs, r, _, _, h => by rw [pMs] at h; cases h
  | l, n + 1, ws, bs, r, hv, hl, h => by
    rw [pMs] at h
    split at h
    · cases h
      exact ⟨(fun b hb => by cases hb), by rw [levTs]; omega⟩
    · split at h
      · cases h
      · rename_i t r1 e
        split at h
        · cases h
        · rename_i bs' r2 e2
          cases h
          obtain ⟨u, hu, eu⟩ := pT_suf l ws t r1 e
          obtain ⟨a, b⟩ := pT_ok l ws t r1 hv hl e
          obtain ⟨c, d⟩ := pMs_ok l n r1 bs' r (fun z hz => hv z (by rw [eu]; exact List.mem_append_right _ hz)) (by have := congrArg List.length eu; rw [List.length_append] at this; omega) e2
          refine ⟨fun z hz => ?_, by rw [levTs]; omega⟩
          rcases List.mem_cons.mp hz with rfl | hz
          · exact a
          · exact c z hz
end
end
end Mir
set_option Elab.async false
set_option linter.all false
set_option maxRecDepth 100000
set_option maxHeartbeats 4000000
namespace Mir
open PySem PySem.Spec L2

abbrev dkD (dk : List Int) : D := .list (dk.map PyData.int)
/-- what a deck's def tells: r, and the deck behind it -/
abbrev tells (r : D) (dk : List Int) : R Ow := .ok (.d (.tuple [r, dkD dk]))
noncomputable section
/-- a def that draws a number below most -/
def Draws (fd : List D → R Ow) : Prop := ∀ (dk : List Int) (most : Int), 0 < most → ∃ r dk', 0 ≤ r ∧ r < most ∧ fd (dkD dk :: [.int most]) = tells (.int r) dk'
end
end Mir
set_option Elab.async false
set_option linter.all false
set_option maxRecDepth 100000
set_option maxHeartbeats 4000000
namespace Mir
open PySem PySem.Spec L2
noncomputable section
def Names (fn : List D → R Ow) (code : Int) (most : Int) : Prop := ∀ k : Int, 0 ≤ k → k < most → ∃ w : List Nat, fn [.int code, .int k] = .ok (.d (.str (tx w))) ∧ ∀ c ∈ w, isL c = true
end
end Mir
set_option Elab.async false
set_option linter.all false
set_option maxRecDepth 100000
set_option maxHeartbeats 4000000
namespace Mir
open PySem PySem.Spec L2

inductive Stp where
  | op
  | put (nm : Str) (k : Int) (ps : List Stp)
mutual
def encS : Stp → D
  | .op => .tuple [.str "open"]
  | .put nm k ps => .tuple [.str "put", .str nm, .int k, .tuple (encSs ps)]
def encSs : List Stp → List D
  | [] => []
  | p :: ps => encS p :: encSs ps
end

@[simp] theorem gNe_str (a b : Str) : gNe (.str a) (.str b) = some (.bool (!(a == b))) := rfl
@[simp] theorem gEq_oo : gEq (.str (Str.ofString "open")) (.str (Str.ofString "open")) = some (.bool true) := by
  have h : (Str.ofString "open" == Str.ofString "open") = true := by decide +kernel
  rw [gEq_strs, str_eqv, h]
@[simp] theorem gEq_po : gEq (.str (Str.ofString "put")) (.str (Str.ofString "open")) = some (.bool false) := by
  have h : (Str.ofString "put" == Str.ofString "open") = false := by decide +kernel
  rw [gEq_strs, str_eqv, h]
@[simp] theorem gIsi_str_str (z : Str) : gIsi "str" (.str z) = .ok (.bool true) := rfl
@[simp] theorem gIsi_bool_bool (b : Bool) : gIsi "bool" (.bool b) = .ok (.bool true) := rfl
section
variable (nm : Str) (k : Int) (ps : List Stp) (bs : List Tr)
end
noncomputable section
end
end Mir
set_option Elab.async false
set_option linter.all false
set_option maxRecDepth 100000
set_option maxHeartbeats 4000000
namespace Mir
open PySem PySem.Spec L2
noncomputable section
end
end Mir
set_option Elab.async false
set_option linter.all false
set_option maxRecDepth 100000
set_option maxHeartbeats 4000000
namespace Mir
open PySem PySem.Spec L2
mutual
def met : Stp → Stp → Stp
  | .op, _ => .op
  | .put nm k ps, o => match o with
    | .op => .op
    | .put nm' k' qs => bif (nm == nm') && ((k == k') && (ps.length == qs.length)) then .put nm k (mets ps qs) else .op
def mets : List Stp → List Stp → List Stp
  | [], _ => []
  | p :: ps, qs => match qs with
    | [] => []
    | q :: qs => met p q :: mets ps qs
end
noncomputable section
end
end Mir
set_option Elab.async false
set_option linter.all false
set_option maxRecDepth 100000
set_option maxHeartbeats 4000000
namespace Mir
open PySem PySem.Spec L2
mutual
def stIn (ss : List Stp) : Trm → Stp
  | .call m _ => ss.getD m.toNat .op
  | .put nm kp ad ps => bif kp then .op else .put nm ad (stIns ss ps)
def stIns (ss : List Stp) : List Trm → List Stp
  | [] => []
  | p :: ps => stIn ss p :: stIns ss ps
end
def metOf : List Stp → Stp
  | [] => .op
  | s :: ss => ss.foldl met s
/-- a mode: its rules, and which of them are those of rows without branches -/
structure Md where
  kd : Str
  rls : List (Bool × Trm)
def bares (m : Md) : List Trm := (m.rls.filter (·.1)).map (·.2)
def rulesM (m : Md) : List Trm := m.rls.map (·.2)
def MdOk (m : Md) : Prop := bares m ≠ [] ∧ ∀ t ∈ bares m, callsM t = []
def tab0 (ms : List Md) : List Stp := ms.map fun m => metOf ((bares m).map (stIn []))
def tabN (ms : List Md) (ss : List Stp) : List Stp := ms.map fun m => metOf ((rulesM m).map (stIn ss))
def tab (ms : List Md) : Nat → List Stp
  | 0 => tab0 ms
  | n + 1 => tabN ms (tab ms n)
end Mir
set_option Elab.async false
set_option linter.all false
set_option maxRecDepth 100000
set_option maxHeartbeats 4000000
namespace Mir
open PySem PySem.Spec L2
structure Rw where
  nm : Str
  br : List Str
abbrev Wood := List (Str × List Rw)
def encRw (r : Rw) : D := .tuple [.str r.nm, .tuple (r.br.map PyData.str)]
def encKd (p : Str × List Rw) : D := .tuple [.str p.1, .list (p.2.map encRw)]
def encWd (w : Wood) : D := .list (w.map encKd)
structure Trn where
  wood : Wood
  start : Trm
  modes : List (Str × List Trm)
def rowsOf : Wood → Str → List Rw
  | [], _ => []
  | p :: w, k => bif p.1 == k then p.2 else rowsOf w k
def mdOf (w : Wood) (p : Str × List Trm) : Md := ⟨p.1, List.zipWith (fun (r : Rw) t => (r.br.isEmpty, t)) (rowsOf w p.1) p.2⟩
def mds (t : Trn) : List Md := t.modes.map (mdOf t.wood)
/-- a turning that the drawing makes -/
structure TnOk (t : Trn) : Prop where
  few : t.modes.length ≤ 100
  few1 : 1 ≤ t.modes.length
  rows : ∀ p ∈ t.modes, p.2.length = (rowsOf t.wood p.1).length ∧ p.2.length ≤ 100
  bare : ∀ p ∈ t.modes, MdOk (mdOf t.wood p)
  term : ∀ p ∈ t.modes, ∀ r ∈ p.2, okM r ∧ levM r ≤ 10 ∧ sizeM r ≤ 1000 ∧ ∀ c ∈ callsM r, 0 ≤ c.1 ∧ c.1 < t.modes.length
  names : (∀ p ∈ t.wood, PyData.strOk p.1 = true ∧ p.2.length ≤ 100 ∧ ∀ r ∈ p.2, PyData.strOk r.nm = true ∧ r.br.length ≤ 100 ∧ ∀ b ∈ r.br, PyData.strOk b = true)
  kinds : t.wood.length ≤ 100
  start : okM t.start ∧ levM t.start ≤ 10
noncomputable section
section
variable (nm : Str) (kp : Bool) (ad : Int) (ps : List Trm) (m b : Int)
end
def stD (ss : List Stp) : D := .list (ss.map encS)
end
end Mir
set_option Elab.async false
set_option linter.all false
set_option maxRecDepth 100000
set_option maxHeartbeats 4000000
namespace Mir
open PySem PySem.Spec L2
theorem seq_nx {f g : Ev → SR} {env env1 : Ev} {r : SR} (h1 : f env = .nx env1) (h2 : g env1 = r) : sSeq f g env = r := by
  rw [sSeq_eq, h1]
  exact h2
noncomputable section
theorem bares_zip (w : Wood) (p : Str × List Trm) : bares (mdOf w p) = (((rowsOf w p.1).zip p.2).filter fun q => q.1.br.isEmpty).map (·.2) := by
  unfold bares mdOf
  show ((List.zipWith (fun (r : Rw) t => (r.br.isEmpty, t)) (rowsOf w p.1) p.2).filter (·.1)).map (·.2) = _
  generalize rowsOf w p.1 = rs
  generalize p.2 = ts
  induction rs generalizing ts with
  | nil => rfl
  | cons r rs ih =>
    cases ts with
    | nil => rfl
    | cons t ts =>
      rw [List.zipWith_cons_cons, List.zip_cons_cons]
      cases c : r.br.isEmpty with
      | true =>
        rw [List.filter_cons_of_pos (by simp [c]), List.filter_cons_of_pos (by simp [c]), List.map_cons, List.map_cons, ih ts]
      | false =>
        rw [List.filter_cons_of_neg (by simp [c]), List.filter_cons_of_neg (by simp [c]), ih ts]
/-- what the parts promise -/
structure Parts (t : Trn) (f1 f2 f3 : List D → R Ow) : Prop where
  rows : ∀ p ∈ t.modes, ∃ o, f1 [encWd t.wood, .str p.1] = .ok o ∧ viewD o = .list ((rowsOf t.wood p.1).map encRw)
  bare : ∀ p ∈ t.modes, ∀ r ∈ p.2, callsM r = [] → f2 [encM r, .list []] = .ok (.d (encS (stIn [] r)))
  stump : ∀ p ∈ t.modes, ∀ r ∈ p.2, ∀ ss : List Stp, ss.length = t.modes.length → f2 [encM r, stD ss] = .ok (.d (encS (stIn ss r)))
  met0 : ∀ p ∈ t.modes, f3 [stD ((bares (mdOf t.wood p)).map (stIn []))] = .ok (.d (encS (metOf ((bares (mdOf t.wood p)).map (stIn [])))))
  metN : ∀ p ∈ t.modes, ∀ n : Nat, f3 [stD (p.2.map (stIn (tab (mds t) n)))] = .ok (.d (encS (metOf (p.2.map (stIn (tab (mds t) n))))))
end
end Mir
set_option Elab.async false
set_option linter.all false
set_option maxRecDepth 100000
set_option maxHeartbeats 4000000
namespace Mir
open PySem PySem.Spec L2
noncomputable section
end
end Mir
set_option Elab.async false
set_option linter.all false
set_option maxRecDepth 100000
set_option maxHeartbeats 4000000
namespace Mir
open PySem PySem.Spec L2
noncomputable section
def encCl (c : Int × Int) : D := .tuple [.int c.1, .int c.2]
def caD (cs : List (Int × Int)) : D := .list (cs.map encCl)
mutual
def thinM : Trm → Prop
  | .call _ _ => True
  | .put _ _ _ ps => ps.length ≤ 3 ∧ thinMs ps
def thinMs : List Trm → Prop
  | [] => True
  | p :: ps => thinM p ∧ thinMs ps
end
/-- two parts of one level less, or three of two levels less -/
def fitS : Nat → Trm → Prop
  | _, .call _ _ => True
  | 0, .put _ _ _ ps => ps = []
  | 1, .put _ _ _ ps => ps.length ≤ 3 ∧ ∀ p ∈ ps, fitS 0 p
  | n + 2, .put _ _ _ ps => (ps.length ≤ 2 ∧ ∀ p ∈ ps, fitS (n + 1) p) ∨ (ps.length ≤ 3 ∧ ∀ p ∈ ps, fitS n p)
theorem sizeMs_le' {n m : Nat} : ∀ {bs : List Trm}, bs.length ≤ n → (∀ b ∈ bs, sizeM b ≤ m) → sizeMs bs ≤ n * m
  | [], _, _ => by rw [sizeMs]; omega
  | b :: bs, hl, h => by
    rw [sizeMs]
    obtain ⟨k, rfl⟩ : ∃ k, n = k + 1 := ⟨n - 1, by simp at hl; omega⟩
    have := sizeMs_le' (n := k) (m := m) (bs := bs) (by simp at hl; omega) fun c hc => h c (List.mem_cons_of_mem _ hc)
    have := h b List.mem_cons_self
    rw [Nat.add_mul]
    omega
theorem fitS_0 {t : Trm} (h : fitS 0 t) : sizeM t ≤ 1 := by
  cases t with
  | call m b => rw [sizeM]; omega
  | put nm kp ad ps => rw [fitS] at h; rw [h, sizeM, sizeMs]; omega
theorem fitS_1 {t : Trm} (h : fitS 1 t) : sizeM t ≤ 4 := by
  cases t with
  | call m b => rw [sizeM]; omega
  | put nm kp ad ps =>
    rw [fitS] at h
    have := sizeMs_le' h.1 fun p hp => fitS_0 (h.2 p hp)
    rw [sizeM]
    omega
theorem fitS_2 {t : Trm} (h : fitS 2 t) : sizeM t ≤ 9 := by
  cases t with
  | call m b => rw [sizeM]; omega
  | put nm kp ad ps =>
    rw [fitS] at h
    rw [sizeM]
    rcases h with h | h
    · have := sizeMs_le' h.1 fun p hp => fitS_1 (h.2 p hp)
      omega
    · have := sizeMs_le' h.1 fun p hp => fitS_0 (h.2 p hp)
      omega
def TermIn (cs : List (Int × Int)) (n : Nat) (t : Trm) : Prop := okM t ∧ levM t ≤ n + 1 ∧ fitS n t ∧ (∀ c ∈ callsM t, c ∈ cs) ∧ thinM t
end
end Mir
set_option Elab.async false
set_option linter.all false
set_option maxRecDepth 100000
set_option maxHeartbeats 4000000
namespace Mir
open PySem PySem.Spec L2
noncomputable section
def CallOk (ks bs : List Str) (c : Int × Int) : Prop := ∃ i j : Nat, c = ((i : Int), (j : Int)) ∧ ∃ z, ks[i]? = some z ∧ bs[j]? = some z
def caO (cs : List (Int × Int)) : Ow := .l (cs.map fun c => .d (encCl c))
mutual
def bareM : Trm → Trm
  | .call m b => .call m b
  | .put nm _ ad ps => .put nm false ad (bareMs ps)
def bareMs : List Trm → List Trm
  | [] => []
  | p :: ps => bareM p :: bareMs ps
end
end
end Mir
set_option Elab.async false
set_option linter.all false
set_option maxRecDepth 100000
set_option maxHeartbeats 4000000
namespace Mir
open PySem PySem.Spec L2
def RwOk (w : Nat) (kn : Nat → Str) (r : Rw) : Prop := PyData.strOk r.nm = true ∧ r.br.length ≤ 4 ∧ ∀ z ∈ r.br, ∃ j, j < w ∧ z = kn j
/-- the rows' names, in some order -/
def RwNm (kn : Nat → Str) (rs : List Rw) : Prop := ∃ b, b ≤ 12 ∧ (rs.map (·.nm)).Perm ((List.range rs.length).map fun j => kn (b + j))
structure WdOk (w : Wood) (kn : Nat → Str) : Prop where
  few : w.length ≤ 3
  one : 1 ≤ w.length
  nok : ∀ k, k < 900 → PyData.strOk (kn k) = true
  at_ : ∀ (k : Nat) p, w[k]? = some p → p.1 = kn k
  rows : ∀ p ∈ w, p.2.length ≤ 3 ∧ (∃ r ∈ p.2, r.br = []) ∧ ∀ r ∈ p.2, RwOk w.length kn r
  rnm : ∀ p ∈ w, RwNm kn p.2
noncomputable section
section
variable {fd fn : List D → R Ow} {code : Int} {kn : Nat → Str}
end
end
end Mir
set_option Elab.async false
set_option linter.all false
set_option maxRecDepth 100000
set_option maxHeartbeats 4000000
namespace Mir
open PySem PySem.Spec L2
noncomputable section
theorem rowsOf_first : ∀ (w : Wood) (k : Str), (∃ p ∈ w, p.1 = k) → ∃ p, (w.filter fun p => p.1 == k)[0]? = some p ∧ p.2 = rowsOf w k ∧ p ∈ w
  | [], k, h => by obtain ⟨p, hp, _⟩ := h; cases hp
  | p :: w, k, h => by
    cases c : p.1 == k with
    | true =>
      refine ⟨p, by rw [List.filter_cons_of_pos (by simpa using c)]; rfl, by rw [rowsOf, c]; rfl, List.mem_cons_self⟩
    | false =>
      obtain ⟨q, hq, e⟩ := h
      have hq' : q ∈ w := by
        rcases List.mem_cons.mp hq with rfl | h
        · rw [e] at c; simp at c
        · exact h
      obtain ⟨r, h1, h2, h3⟩ := rowsOf_first w k ⟨q, hq', e⟩
      exact ⟨r, by rw [List.filter_cons_of_neg (by simp [c])]; exact h1, by rw [rowsOf, c]; exact h2, List.mem_cons_of_mem _ h3⟩
def RuleOk (ks bs : List Str) (t : Trm) : Prop := okM t ∧ levM t ≤ 3 ∧ sizeM t ≤ 9 ∧ ∀ c ∈ callsM t, CallOk ks bs c
structure TnMade (t : Trn) : Prop where
  few : t.modes.length ≤ 4
  one : 1 ≤ t.modes.length
  kind : ∀ p ∈ t.modes, ∃ q ∈ t.wood, q.1 = p.1
  rules : ∀ p ∈ t.modes, p.2.length = (rowsOf t.wood p.1).length ∧ ∀ (i : Nat) r u, (rowsOf t.wood p.1)[i]? = some r → p.2[i]? = some u → RuleOk (t.modes.map (·.1)) r.br u
  start : okM t.start ∧ levM t.start ≤ 3
/-- what the parts of the drawing promise -/
structure Gens (fd ft fl fru fca fb : List D → R Ow) (code : Int) (w : Wood) : Prop where
  dr : Draws fd
  term : ∀ (cs : List (Int × Int)) (n : Nat), n ≤ 2 → ∀ dk, ∃ t dk', TermIn cs n t ∧ ft (dkD dk :: [.int code, caD cs, .int (n : Nat)]) = tells (encM t) dk'
  rows : ∀ k, (∃ p ∈ w, p.1 = k) → fl [encWd w, .str k] = .ok (.d (.list ((rowsOf w k).map encRw)))
  rule : ∀ (cs : List (Int × Int)) (base : Trm), TermIn [] 2 base → ∀ dk, ∃ t dk', TermIn cs 2 t ∧ fru (dkD dk :: [.int code, encM base, caD cs]) = tells (encM t) dk'
  callsT : ∀ ks bs : List Str, ks.length ≤ 100 → bs.length ≤ 100 → ∃ cs, fca [.list (ks.map PyData.str), .tuple (bs.map PyData.str)] = .ok (caO cs) ∧ ∀ c ∈ cs, CallOk ks bs c
  callsL : ∀ ks bs : List Str, ks.length ≤ 100 → bs.length ≤ 100 → ∃ cs, fca [.list (ks.map PyData.str), .list (bs.map PyData.str)] = .ok (caO cs) ∧ ∀ c ∈ cs, CallOk ks bs c
  bare : ∀ t, okM t → levM t ≤ 10 → fb [encM t] = .ok (.d (encM (bareM t)))
section
variable {fd ft fl fru fca fb : List D → R Ow} {code : Int} {w : Wood}
theorem TermIn.rule {ks bs : List Str} {cs : List (Int × Int)} {t : Trm} (h : TermIn cs 2 t) (hc : ∀ c ∈ cs, CallOk ks bs c) : RuleOk ks bs t := ⟨h.1, by have := h.2.1; omega, fitS_2 h.2.2.1, fun c hcc => hc c (h.2.2.2.1 c hcc)⟩
theorem rowsOf_mem {w : Wood} {k : Str} (hk : ∃ p ∈ w, p.1 = k) : ∃ p ∈ w, p.2 = rowsOf w k := by
  obtain ⟨p, _, h2, h3⟩ := rowsOf_first w k hk
  exact ⟨p, h3, h2⟩
end
end
end Mir
set_option Elab.async false
set_option linter.all false
set_option maxRecDepth 100000
set_option maxHeartbeats 4000000
namespace Mir
open PySem PySem.Spec L2
theorem TnMade.ok {t : Trn} {kn : Nat → Str} (m : TnMade t) (hw : WdOk t.wood kn) : TnOk t := by
  have kl : (t.modes.map (·.1)).length = t.modes.length := List.length_map _
  have each : ∀ p ∈ t.modes, ∀ u ∈ p.2, ∃ r ∈ rowsOf t.wood p.1, RuleOk (t.modes.map (·.1)) r.br u := fun p hp u hu => by
    obtain ⟨i, hi, e⟩ := List.mem_iff_getElem.mp hu
    obtain ⟨h1, h2⟩ := m.rules p hp
    have hi' : i < (rowsOf t.wood p.1).length := by omega
    exact ⟨_, List.getElem_mem hi', h2 i _ u (List.getElem?_eq_getElem hi') (by rw [List.getElem?_eq_getElem hi, e])⟩
  have rl : ∀ p ∈ t.modes, (rowsOf t.wood p.1).length ≤ 3 ∧ ∃ r ∈ rowsOf t.wood p.1, r.br = [] := fun p hp => by
    obtain ⟨q, q1, q2⟩ := rowsOf_mem (m.kind p hp)
    obtain ⟨a, b, _⟩ := hw.rows q q1
    rw [q2] at a b
    exact ⟨a, b⟩
  have wl := hw.few
  refine ⟨by have := m.few; omega, m.one, fun p hp => ⟨(m.rules p hp).1, by have := (m.rules p hp).1; have := (rl p hp).1; omega⟩, fun p hp => ?_, fun p hp u hu => ?_, fun p hp => ?_, by omega, m.start.1, by have := m.start.2; omega⟩
  · -- bare rows
    obtain ⟨h1, h2⟩ := m.rules p hp
    constructor
    · rw [bares_zip]
      obtain ⟨_, r, hr, hb⟩ := rl p hp
      obtain ⟨i, hi, e⟩ := List.mem_iff_getElem.mp hr
      intro z
      have z2 : ((rowsOf t.wood p.1).zip p.2).filter (fun q => q.1.br.isEmpty) = [] := by simpa using z
      have hm : (r, p.2[i]'(by omega)) ∈ ((rowsOf t.wood p.1).zip p.2).filter (fun q => q.1.br.isEmpty) := by
        refine List.mem_filter.mpr ⟨?_, by show r.br.isEmpty = true; rw [hb]; rfl⟩
        refine List.mem_iff_getElem.mpr ⟨i, by rw [List.length_zip]; omega, ?_⟩
        rw [List.getElem_zip, e]
      rw [z2] at hm
      cases hm
    · intro u hu
      rw [bares_zip] at hu
      obtain ⟨q, hq, rfl⟩ := List.mem_map.mp hu
      obtain ⟨q1, q2⟩ := List.mem_filter.mp hq
      obtain ⟨i, hi, e⟩ := List.mem_iff_getElem.mp q1
      rw [List.length_zip] at hi
      rw [List.getElem_zip] at e
      have ok := h2 i q.1 q.2 (by rw [List.getElem?_eq_getElem (by omega), ← e]) (by rw [List.getElem?_eq_getElem (by omega), ← e])
      have bn : q.1.br = [] := by simpa using q2
      cases hc : callsM q.2 with
      | nil => rfl
      | cons c cs =>
        obtain ⟨i, j, _, z, _, hz⟩ := ok.2.2.2 c (by rw [hc]; exact List.mem_cons_self)
        rw [bn] at hz
        simp at hz
  · obtain ⟨r, _, o1, o2, o3, o4⟩ := each p hp u hu
    refine ⟨o1, by omega, by omega, fun c hc => ?_⟩
    obtain ⟨i, j, e, z, hz, _⟩ := o4 c hc
    have := (List.getElem?_eq_some_iff.mp hz).1
    rw [e]
    constructor
    · show (0 : Int) ≤ (i : Int)
      omega
    · show (i : Int) < _
      omega
  · obtain ⟨i, hi, e⟩ := List.mem_iff_getElem.mp hp
    have en := hw.at_ i p (by rw [List.getElem?_eq_getElem hi, e])
    obtain ⟨a, _, c⟩ := hw.rows p hp
    refine ⟨by rw [en]; exact hw.nok i (by omega), by omega, fun r hr => ?_⟩
    obtain ⟨d1, d2, d3⟩ := c r hr
    refine ⟨d1, by omega, fun z hz => ?_⟩
    obtain ⟨j, hj, ez⟩ := d3 z hz
    rw [ez]
    exact hw.nok j (by omega)
noncomputable section
end
end Mir
set_option Elab.async false
set_option linter.all false
set_option maxRecDepth 100000
set_option maxHeartbeats 4000000
namespace Mir
open PySem PySem.Spec L2
noncomputable section
def pick (t : Trn) (wants : Rw → Bool) (g : Trm → Stp) (p : Str × List Trm) : List Stp := (((rowsOf t.wood p.1).zip p.2).filter fun q => wants q.1).map fun q => g q.2
end
end Mir
set_option Elab.async false
set_option linter.all false
set_option maxRecDepth 100000
set_option maxHeartbeats 4000000
namespace Mir
open PySem PySem.Spec L2
noncomputable section
theorem nice_list {ds : List D} {n : Nat} (h : ∀ d ∈ ds, d.canLay0 = true ∧ d.depth ≤ n) (hn : n ≤ 129) : Nice (.list ds) := by
  refine ⟨?_, ?_⟩
  · rw [PyData.canLay0]
    exact canAll_of _ fun d hd => (h d hd).1
  · rw [PyData.depth]
    have := depthAll_of (n := n) ds fun d hd => (h d hd).2
    omega
theorem ne_nil {ds : List D} (h : Nice (.list ds)) : gNe (.list ds) (.list []) = some (.bool (!ds.isEmpty)) := by
  have n0 : Nice (.list []) := nice_list (n := 0) (fun d hd => by cases hd) (by omega)
  rw [gNe_nice h n0]
  cases ds with
  | nil => rfl
  | cons d ds => simp [PyData.eqv, PyData.eqvAll]
theorem eq_nil {ds : List D} (h : Nice (.list ds)) : gEq (.list ds) (.list []) = some (.bool ds.isEmpty) := by
  have n0 : Nice (.list []) := nice_list (n := 0) (fun d hd => by cases hd) (by omega)
  rw [gEq_nice h n0]
  cases ds with
  | nil => rfl
  | cons d ds => simp [PyData.eqv, PyData.eqvAll]
end
end Mir
set_option Elab.async false
set_option linter.all false
set_option maxRecDepth 100000
set_option maxHeartbeats 4000000
namespace Mir
open PySem PySem.Spec L2
noncomputable section
structure SndOk (w : Wood) (s : Trm) (ms : List (Str × List Trm)) : Prop where
  kinds : ∀ p ∈ w, PyData.strOk p.1 = true
  few : w.length ≤ 100
  dist : (w.map (·.1)).Nodup
  mkinds : ∀ p ∈ ms, PyData.strOk p.1 = true
def optD : Option Nat → D
  | none => .none
  | some k => .int (k : Nat)
end
end Mir
set_option Elab.async false
set_option linter.all false
set_option maxRecDepth 100000
set_option maxHeartbeats 4000000
namespace Mir
open PySem PySem.Spec L2
section
variable (S : Trm) (R : Nat → List Trm) (n : Nat)
/-- to the mode lead calls -/
inductive Reach : Int → Prop
  | start {c : Int × Int} : c ∈ callsM S → Reach c.1
  | step {m : Nat} {t : Trm} {c : Int × Int} : Reach (m : Int) → t ∈ R m → c ∈ callsM t → Reach c.1
/-- calls by modes that there are -/
structure Calls : Prop where
  start : ∀ c ∈ callsM S, 0 ≤ c.1 ∧ c.1 < n
  step : ∀ (m : Nat), m < n → ∀ t ∈ R m, ∀ c ∈ callsM t, 0 ≤ c.1 ∧ c.1 < n
/-- found so far; calls still to look at: those of the terms on the stack, and cs -/
structure RInv (l : List Int) (st : List Trm) (cs : List (Int × Int)) : Prop where
  nd : l.Nodup
  rch : ∀ i ∈ l, Reach S R i
  src : ∀ t ∈ st, ∀ c ∈ callsM t, Reach S R c.1
  csr : ∀ c ∈ cs, Reach S R c.1
  s0 : S ∈ st ∨ ∀ c ∈ callsM S, c.1 ∈ l ∨ c ∈ cs
  sm : ∀ m : Nat, (m : Int) ∈ l → ∀ t ∈ R m, t ∈ st ∨ ∀ c ∈ callsM t, c.1 ∈ l ∨ c ∈ cs
variable {S R n}
theorem RInv.pop {l : List Int} {st : List Trm} {t : Trm} (h : RInv S R l (st ++ [t]) []) : RInv S R l st (callsM t) := by
  have hc : ∀ u : Trm, (u ∈ st ++ [t] ∨ ∀ c ∈ callsM u, c.1 ∈ l ∨ c ∈ ([] : List (Int × Int))) → u ∈ st ∨ ∀ c ∈ callsM u, c.1 ∈ l ∨ c ∈ callsM t := fun u hu => by
    rcases hu with hu | hu
    · rcases List.mem_append.mp hu with hu | hu
      · exact .inl hu
      · rw [List.mem_singleton.mp hu]
        exact .inr fun c hc => .inr hc
    · refine .inr fun c hc => ?_
      rcases hu c hc with h | h
      · exact .inl h
      · cases h
  exact ⟨h.nd, h.rch, fun u hu => h.src u (List.mem_append_left _ hu), h.src t (List.mem_append_right _ (List.mem_singleton.mpr rfl)), hc S h.s0, fun m hm u hu => hc u (h.sm m hm u hu)⟩
theorem RInv.done {l : List Int} (h : RInv S R l [] []) (hn : Calls S R n) (i : Int) : i ∈ l ↔ Reach S R i := by
  refine ⟨h.rch i, fun r => ?_⟩
  induction r with
  | @start c hc =>
    rcases h.s0 with q | q
    · cases q
    · rcases q c hc with q | q
      · exact q
      · cases q
  | @step m t c hm ht hc ih =>
    rcases h.sm m ih t ht with q | q
    · cases q
    · rcases q c hc with q | q
      · exact q
      · cases q
end
noncomputable section
def rulesAt (ms : List (Str × List Trm)) (k : Nat) : List Trm := match ms[k]? with
  | some p => p.2
  | none => []
section
variable {t : Trn} {B : Nat} (hB : ∀ p ∈ t.modes, p.2.length ≤ B) (hc : Calls t.start (rulesAt t.modes) t.modes.length) (hm : t.modes.length + (B * t.modes.length + 1) ≤ 10000)
include hB hc hm
variable {f0 : List D → R Ow} (hf : ∀ u, (u = t.start ∨ ∃ p ∈ t.modes, u ∈ p.2) → f0 [encM u] = .ok (encCs (callsM u)) ∧ Nice (encM u) ∧ (encM u).depth ≤ 100)
include hf
end
end
end Mir
set_option Elab.async false
set_option linter.all false
set_option maxRecDepth 100000
set_option maxHeartbeats 4000000
namespace Mir
open PySem PySem.Spec L2
def scD (ns : List Int) : PyData := .list (ns.map PyData.int)
theorem sc_len (ns : List Int) : gLen [scD ns] = some (.d (.int (ns.length : Nat))) := by
  have : gLen [scD ns] = some (Ow.d (.int (ns.map PyData.int).length)) := rfl
  rw [this, List.length_map]
theorem sc_ix {ns : List Int} {k : Nat} {z : Int} (h : ns[k]? = some z) : gIx (scD ns) (.int (k : Nat)) = some (.int z) := by
  show atI (ns.map PyData.int) _ = _
  exact atI_natD (by rw [List.getElem?_map, h]; rfl)
noncomputable section
abbrev bCell : Ev → SR := (sSeq (sIf (eB (eBin gLt (eVar 1) (eM (eCa gLen (aCons (eVar 0) aNil)) viewD)) asB)
    (sRet (eM (eBin gIx (eVar 0) (eVar 1)) Ow.d))
    sSkip)
    (sRet (eM (eC (.int 0)) Ow.d)))
def scCell (ns : List Int) (k : Nat) : Int := ns.getD k 0
theorem cell_fin (ns : List Int) (k : Nat) : finR (bCell (envOf 0 [scD ns, .int (k : Nat)])) = .ok (.d (.int (scCell ns k))) := by
  have hl := sc_len ns
  unfold scCell
  rw [List.getD_eq_getElem?_getD]
  by_cases h : k < ns.length
  · have ix := sc_ix (List.getElem?_eq_getElem h)
    have h' : (k : Int) < (ns.length : Nat) := by omega
    rw [List.getElem?_eq_getElem h]
    generalize scD ns = S at hl ix
    have he : envOf 0 [S, .int (k : Nat)] = [some (.d S), some (.d (.int (k : Nat)))] := rfl
    rw [he]
    simp [hl, ix, h, h']
  · have h' : ¬ (k : Int) < (ns.length : Nat) := by omega
    rw [List.getElem?_eq_none (by omega)]
    generalize scD ns = S at hl
    have he : envOf 0 [S, .int (k : Nat)] = [some (.d S), some (.d (.int (k : Nat)))] := rfl
    rw [he]
    simp [hl, h, h']
end
end Mir
set_option Elab.async false
set_option linter.all false
set_option maxRecDepth 100000
set_option maxHeartbeats 4000000
namespace Mir
open PySem PySem.Spec L2
noncomputable section
end
end Mir
set_option Elab.async false
set_option linter.all false
set_option maxRecDepth 100000
set_option maxHeartbeats 4000000
namespace Mir
open PySem PySem.Spec L2
noncomputable section
def finM (hs : List (Wo × Int)) (cur : List Tr) : Option Tr := match hs, cur with
  | [], [t] => some t
  | _, _ => none
def popM (hs : List (Wo × Int)) (cur : List Tr) (outs : List (List Tr)) : Option (List (Wo × Int) × List Tr × List (List Tr)) := match hs, outs with
  | h :: hs', o :: outs' => some (hs', o ++ [.mk (tx h.1) h.2 cur], outs')
  | _, _ => none
def lawM : Nat → List Wo → List (Wo × Int) → List Tr → List (List Tr) → Option Tr
  | 0, _, _, _, _ => none
  | _ + 1, [], hs, cur, _ => finM hs cur
  | n + 1, w :: r, hs, cur, outs => if nmW w then (if (markW r).2.head? = some [40] then lawM n (markW r).2.tail ((w, (markW r).1) :: hs) [] (cur :: outs) else lawM n (markW r).2 hs (cur ++ [.mk (tx w) (markW r).1 []]) outs)
    else if w = [41] ∧ cur ≠ [] then (match popM hs cur outs with
      | some q => lawM n r q.1 q.2.1 q.2.2
      | none => none) else none
theorem markW_len (r : List Wo) : (markW r).2.length ≤ r.length := by
  obtain ⟨u, e⟩ := markW_suf r
  have := congrArg List.length e
  rw [List.length_append] at this
  omega
theorem lawM_fuel : ∀ (n m : Nat) (ws : List Wo) (hs : List (Wo × Int)) (cur : List Tr) (outs : List (List Tr)), ws.length < n → ws.length < m → lawM n ws hs cur outs = lawM m ws hs cur outs
  | 0, _, _, _, _, _, h, _ => by omega
  | _, 0, _, _, _, _, _, h => by omega
  | n + 1, m + 1, [], hs, cur, outs, _, _ => by rw [lawM, lawM]
  | n + 1, m + 1, w :: r, hs, cur, outs, h1, h2 => by
    rw [List.length_cons] at h1 h2
    have ml := markW_len r
    have tl : (markW r).2.tail.length ≤ r.length := by rw [List.length_tail]; omega
    have e1 : r.length < n := by omega
    have e2 : r.length < m := by omega
    rw [lawM, lawM]
    by_cases hw : nmW w = true
    · rw [if_pos hw, if_pos hw]
      by_cases hd : (markW r).2.head? = some [40]
      · rw [if_pos hd, if_pos hd]
        exact lawM_fuel n m _ _ _ _ (by omega) (by omega)
      · rw [if_neg hd, if_neg hd]
        exact lawM_fuel n m _ _ _ _ (by omega) (by omega)
    · rw [if_neg hw, if_neg hw]
      by_cases c : w = [41] ∧ cur ≠ []
      · rw [if_pos c, if_pos c]
        cases popM hs cur outs with
        | none => rfl
        | some q => exact lawM_fuel n m r _ _ _ e1 e2
      · rw [if_neg c, if_neg c]
def lawF (ws : List Wo) (hs : List (Wo × Int)) (cur : List Tr) (outs : List (List Tr)) : Option Tr := lawM (ws.length + 1) ws hs cur outs
theorem lawF_nil (hs : List (Wo × Int)) (cur : List Tr) (outs : List (List Tr)) : lawF [] hs cur outs = finM hs cur := rfl
theorem lawF_open {w : Wo} {r : List Wo} (hs : List (Wo × Int)) (cur : List Tr) (outs : List (List Tr)) (hn : nmW w = true) (h : (markW r).2.head? = some [40]) : lawF (w :: r) hs cur outs = lawF (markW r).2.tail ((w, (markW r).1) :: hs) [] (cur :: outs) := by
  unfold lawF
  rw [List.length_cons, lawM, if_pos hn, if_pos h]
  have ml := markW_len r
  have tl : (markW r).2.tail.length = (markW r).2.length - 1 := List.length_tail
  exact lawM_fuel _ _ _ _ _ _ (by omega) (by omega)
theorem lawF_leaf {w : Wo} {r : List Wo} (hs : List (Wo × Int)) (cur : List Tr) (outs : List (List Tr)) (hn : nmW w = true) (h : (markW r).2.head? ≠ some [40]) : lawF (w :: r) hs cur outs = lawF (markW r).2 hs (cur ++ [.mk (tx w) (markW r).1 []]) outs := by
  unfold lawF
  rw [List.length_cons, lawM, if_pos hn, if_neg h]
  exact lawM_fuel _ _ _ _ _ _ (by have := markW_len r; omega) (by omega)
theorem lawF_close {r : List Wo} (h : Wo × Int) (hs : List (Wo × Int)) (cur : List Tr) (o : List Tr) (outs : List (List Tr)) (hc : cur ≠ []) : lawF ([41] :: r) (h :: hs) cur (o :: outs) = lawF r hs (o ++ [.mk (tx h.1) h.2 cur]) outs := by
  unfold lawF
  rw [List.length_cons, lawM, if_neg (by decide), if_pos ⟨rfl, hc⟩]
  rfl
theorem lawF_no {w : Wo} {r : List Wo} (hs : List (Wo × Int)) (cur : List Tr) (outs : List (List Tr)) (hn : nmW w = false) (h : ¬ (w = [41] ∧ cur ≠ [])) : lawF (w :: r) hs cur outs = none := by
  unfold lawF
  rw [List.length_cons, lawM, if_neg (by rw [hn]; decide), if_neg h]
theorem lawF_top {w : Wo} {r : List Wo} (cur : List Tr) (outs : List (List Tr)) (hn : nmW w = false) : lawF (w :: r) [] cur outs = none := by
  unfold lawF
  rw [List.length_cons, lawM, if_neg (by rw [hn]; decide)]
  split <;> rfl
mutual
theorem runT : ∀ (l : Nat) (ws : List Wo) (t : Tr) (r : List Wo), pT l ws = some (t, r) → ∀ hs cur outs, lawF ws hs cur outs = lawF r hs (cur ++ [t]) outs
  | 0, ws, t, r, h, _, _, _ => by rw [pT] at h; cases h
  | l + 1, [], t, r, h, _, _, _ => by rw [pT] at h; cases h
  | l + 1, w :: r0, t, r, h, hs, cur, outs => by
    rw [pT] at h
    split at h
    · rename_i hn
      split at h
      · rename_i hd
        rw [lawF_open hs cur outs hn hd]
        split at h
        · cases h
        · rename_i bs r2 e
          split at h
          · cases h
          · rename_i hb
            cases h
            obtain ⟨u, e2, hh, _⟩ := pMs_suf (pT_suf l) _ _ _ _ e
            obtain ⟨d, ed⟩ : ∃ d, r2 = [41] :: d := by
              cases r2 with
              | nil => cases hh
              | cons c d => exact ⟨d, by rw [Option.some.inj hh]⟩
            rw [runMs l _ _ _ _ e, List.nil_append, ed, List.tail_cons]
            exact lawF_close _ hs bs cur outs (fun z => hb (by rw [z]; rfl))
      · rename_i hd
        cases h
        exact lawF_leaf hs cur outs hn hd
    · cases h
theorem runMs : ∀ (l n : Nat) (ws : List Wo) (bs : List Tr) (r : List Wo), pMs (pT l) n ws = some (bs, r) → ∀ hs cur outs, lawF ws hs cur outs = lawF r hs (cur ++ bs) outs
  | l, 0, ws, bs, r, h, _, _, _ => by rw [pMs] at h; cases h
  | l, n + 1, ws, bs, r, h, hs, cur, outs => by
    rw [pMs] at h
    split at h
    · cases h
      rw [List.append_nil]
    · split at h
      · cases h
      · rename_i t r1 e
        split at h
        · cases h
        · rename_i bs' r2 e2
          cases h
          rw [runT l ws t r1 e, runMs l n r1 bs' r e2, List.append_assoc]
          rfl
end
def cntN (ws : List Wo) : Nat := (ws.filter nmW).length
theorem cntN_app (a b : List Wo) : cntN (a ++ b) = cntN a + cntN b := by unfold cntN; rw [List.filter_append, List.length_append]
theorem cntN_mark (r : List Wo) : cntN (markW r).2 ≤ cntN r := by
  obtain ⟨u, e⟩ := markW_suf r
  have : cntN r = cntN u + cntN (markW r).2 := by rw [← cntN_app, ← e]
  omega
theorem cntN_tail (r : List Wo) : cntN r.tail ≤ cntN r := by
  cases r with
  | nil => exact Nat.le_refl _
  | cons a b =>
    have := cntN_app [a] b
    rw [List.singleton_append] at this
    rw [List.tail_cons]
    omega
theorem cntN_cons {w : Wo} (h : nmW w = true) (r : List Wo) : cntN (w :: r) = cntN r + 1 := by
  unfold cntN
  rw [List.filter_cons, if_pos h, List.length_cons]
mutual
theorem failT : ∀ (l : Nat) (ws : List Wo), pT l ws = none → cntN ws < l → ∀ hs cur outs, (hs ≠ [] → ws.head? ≠ some [41]) → (hs = [] → cur = []) → lawF ws hs cur outs = none
  | 0, ws, _, h, _, _, _, _, _ => by omega
  | l + 1, [], _, _, hs, cur, outs, _, hc => by
    rw [lawF_nil]
    cases hs with
    | nil => rw [hc rfl]; rfl
    | cons a b => rfl
  | l + 1, w :: r0, h, hl, hs, cur, outs, h41, hc => by
    cases hn : nmW w with
    | false =>
      cases hs with
      | nil => exact lawF_top cur outs hn
      | cons a b => exact lawF_no _ cur outs hn fun z => h41 (by simp) (by rw [z.1]; rfl)
    | true =>
      rw [cntN_cons hn] at hl
      rw [pT, if_pos hn] at h
      by_cases hd : (markW r0).2.head? = some [40]
      · rw [if_pos hd] at h
        rw [lawF_open hs cur outs hn hd]
        have cl : cntN (markW r0).2.tail < l := by
          have := cntN_tail (markW r0).2
          have := cntN_mark r0
          omega
        have tl : (markW r0).2.tail.length < (markW r0).2.length := by
          rw [List.length_tail]
          have : 0 < (markW r0).2.length := by
            cases hm : (markW r0).2 with
            | nil => rw [hm] at hd; cases hd
            | cons a b => simp
          omega
        cases hp : pMs (pT l) (markW r0).2.length (markW r0).2.tail with
        | none => exact failMs l _ _ hp tl cl _ _ _ (by simp)
        | some q =>
          obtain ⟨bs, r2⟩ := q
          rw [hp] at h
          simp only at h
          split at h
          · rename_i hb
            have be : bs = [] := List.isEmpty_iff.mp hb
            subst be
            obtain ⟨n', hn'⟩ : ∃ n', (markW r0).2.length = n' + 1 := ⟨(markW r0).2.length - 1, by omega⟩
            rw [hn', pMs] at hp
            split at hp
            · rename_i c
              obtain ⟨d, ed⟩ : ∃ d, (markW r0).2.tail = [41] :: d := by
                cases hm : (markW r0).2.tail with
                | nil => rw [hm] at c; cases c
                | cons a b => rw [hm] at c; exact ⟨b, by rw [Option.some.inj c]⟩
              rw [ed]
              exact lawF_no _ _ _ (by decide) fun z => z.2 rfl
            · split at hp
              · cases hp
              · split at hp
                · cases hp
                · cases hp
          · cases h
      · rw [if_neg hd] at h
        cases h
theorem failMs : ∀ (l n : Nat) (ws : List Wo), pMs (pT l) n ws = none → ws.length < n → cntN ws < l → ∀ hs cur outs, hs ≠ [] → lawF ws hs cur outs = none
  | l, 0, ws, _, h, _, _, _, _, _ => by omega
  | l, n + 1, ws, h, hn, hl, hs, cur, outs, hh => by
    rw [pMs] at h
    split at h
    · cases h
    · rename_i c
      cases hg : pT l ws with
      | none => exact failT l ws hg hl hs cur outs (fun _ => c) fun z => absurd z hh
      | some q =>
        obtain ⟨t, r1⟩ := q
        rw [hg] at h
        simp only at h
        obtain ⟨u, hu, eu⟩ := pT_suf l ws t r1 hg
        have ul := List.length_pos_iff.mpr hu
        have wl := congrArg List.length eu
        rw [List.length_append] at wl
        have ca := cntN_app u r1
        rw [← eu] at ca
        rw [runT l ws t r1 hg]
        refine failMs l n r1 ?_ (by omega) (by omega) hs _ outs hh
        split at h
        · assumption
        · cases h
end
def botM (cur : List Tr) (outs : List (List Tr)) : List Tr := outs.getLast?.getD cur
theorem botM_cons (cur o : List Tr) (outs : List (List Tr)) : botM cur (o :: outs) = botM o outs := by
  unfold botM
  rw [List.getLast?_cons]
  rfl
/-- no one tree comes of it any more -/
theorem deadM : ∀ (n : Nat) (ws : List Wo) (hs : List (Wo × Int)) (cur : List Tr) (outs : List (List Tr)), ws.length < n → outs.length = hs.length → (hs = [] → 2 ≤ cur.length) → (hs ≠ [] → 1 ≤ (botM cur outs).length) → lawF ws hs cur outs = none
  | 0, _, _, _, _, h, _, _, _ => by omega
  | n + 1, [], hs, cur, outs, _, _, h2, _ => by
    rw [lawF_nil]
    cases hs with
    | nil =>
      have := h2 rfl
      match cur, this with
      | a :: b :: c, _ => rfl
    | cons a b => rfl
  | n + 1, w :: r, hs, cur, outs, hn, ho, h2, h1 => by
    rw [List.length_cons] at hn
    have ml := markW_len r
    have b1 : 1 ≤ (botM cur outs).length := by
      cases hs with
      | nil =>
        have : outs = [] := List.length_eq_zero_iff.mp ho
        rw [this]
        have := h2 rfl
        show 1 ≤ cur.length
        omega
      | cons a b => exact h1 (by simp)
    cases hw : nmW w with
    | true =>
      by_cases hd : (markW r).2.head? = some [40]
      · rw [lawF_open hs cur outs hw hd]
        exact deadM n _ _ _ _ (by rw [List.length_tail]; omega) (by simp [ho]) (fun z => by cases z) fun _ => by rw [botM_cons]; exact b1
      · rw [lawF_leaf hs cur outs hw hd]
        refine deadM n _ _ _ _ (by omega) ho (fun z => by have := h2 z; rw [List.length_append]; omega) fun z => ?_
        cases outs with
        | nil => exact absurd (List.length_eq_zero_iff.mp ho.symm) z
        | cons o os =>
          rw [botM_cons] at b1 ⊢
          exact b1
    | false =>
      by_cases c : w = [41] ∧ cur ≠ []
      · obtain ⟨rfl, hc⟩ := c
        cases hs with
        | nil => exact lawF_top cur outs hw
        | cons h hs =>
          cases outs with
          | nil => cases ho
          | cons o outs =>
            rw [lawF_close h hs cur o outs hc]
            rw [botM_cons] at b1
            refine deadM n _ _ _ _ (by omega) (by simpa using ho) (fun z => ?_) fun z => ?_
            · subst z
              have : outs = [] := List.length_eq_zero_iff.mp (by simpa using ho)
              subst this
              have b1' : 1 ≤ o.length := b1
              rw [List.length_append, List.length_singleton]
              omega
            · cases outs with
              | nil => exact absurd (List.length_eq_zero_iff.mp (by simpa using ho.symm)) z
              | cons o2 os =>
                rw [botM_cons] at b1 ⊢
                exact b1
      · exact lawF_no hs cur outs hw c
/-- the stack's answer is the reader's -/
theorem read_agree {row : List Wo} {l : Nat} (h : cntN row < l) : lawF row [] [] [] = match pT l row with
    | some (t, []) => some t
    | _ => none := by
  cases hp : pT l row with
  | none => exact failT l row hp h [] [] [] (fun z => absurd rfl z) fun _ => rfl
  | some q =>
    obtain ⟨t, r⟩ := q
    rw [runT l row t r hp, List.nil_append]
    cases r with
    | nil => rfl
    | cons w r =>
      show _ = none
      cases hw : nmW w with
      | false => exact lawF_top [t] [] hw
      | true =>
        by_cases hd : (markW r).2.head? = some [40]
        · rw [lawF_open [] [t] [] hw hd]
          exact deadM _ _ _ _ _ (Nat.lt_succ_self _) rfl (fun z => by cases z) fun _ => Nat.le_refl _
        · rw [lawF_leaf [] [t] [] hw hd]
          exact deadM _ _ _ _ _ (Nat.lt_succ_self _) rfl (fun _ => Nat.le_refl _) fun z => absurd rfl z
mutual
theorem pT_size : ∀ (l : Nat) (ws : List Wo) (t : Tr) (r : List Wo), pT l ws = some (t, r) → sizeT t + cntN r ≤ cntN ws
  | 0, ws, t, r, h => by rw [pT] at h; cases h
  | l + 1, [], t, r, h => by rw [pT] at h; cases h
  | l + 1, w :: r0, t, r, h => by
    rw [pT] at h
    have cm := cntN_mark r0
    split at h
    · rename_i hn
      rw [cntN_cons hn]
      split at h
      · split at h
        · cases h
        · rename_i bs r2 e
          split at h
          · cases h
          · cases h
            have := pMs_size l _ _ _ _ e
            have := cntN_tail (markW r0).2
            have := cntN_tail r2
            rw [sizeT]
            omega
      · cases h
        rw [sizeT, sizeTs]
        omega
    · cases h
theorem pMs_size : ∀ (l n : Nat) (ws : List Wo) (bs : List Tr) (r : List Wo), pMs (pT l) n ws = some (bs, r) → sizeTs bs + cntN r ≤ cntN ws
  | l, 0, ws, bs, r, h => by rw [pMs] at h; cases h
  | l, n + 1, ws, bs, r, h => by
    rw [pMs] at h
    split at h
    · cases h
      rw [sizeTs]
      omega
    · split at h
      · cases h
      · rename_i t r1 e
        split at h
        · cases h
        · rename_i bs' r2 e2
          cases h
          have := pT_size l ws t r1 e
          have := pMs_size l n r1 bs' r e2
          rw [sizeTs]
          omega
end
end
end Mir
set_option Elab.async false
set_option linter.all false
set_option maxRecDepth 100000
set_option maxHeartbeats 4000000
namespace Mir
open PySem PySem.Spec L2
def glue (s : List Nat) : List (List Nat) → List Nat
  | [] => []
  | a :: r => a ++ (r.map fun b => s ++ b).flatten
theorem foldl_glue (s : List Nat) : ∀ (r : List (List Nat)) (a : Array Nat), (r.map tx).foldl (fun acc p => acc ++ (tx s).cps ++ p.cps) a = ⟨a.toList ++ (r.map fun b => s ++ b).flatten⟩
  | [], a => by simp
  | b :: r, a => by
    rw [List.map_cons, List.foldl_cons, foldl_glue s r]
    simp [tx]
theorem join_tx (s : List Nat) (l : List (List Nat)) : Txt.join (tx s) (l.map tx) = tx (glue s l) := by
  show Builtin.Str.glued _ _ = _
  rw [PySem.StrLaws.glued_eq_join]
  cases l with
  | nil => rfl
  | cons a r =>
    rw [List.map_cons, ← PySem.StrLaws.glued_cons, foldl_glue]
    simp [glue, tx]
theorem sum_len (l : List (List Nat)) : ((l.map tx).map fun x : Str => x.length).sum = (l.map List.length).sum := by
  rw [List.map_map]
  congr 1
theorem gJoin_tx (s : List Nat) (l : List (List Nat)) (h : (l.map List.length).sum + l.length * s.length ≤ 16777216) : gJoin (.str (tx s)) (.list (l.map fun w => .str (tx w))) = some (.str (tx (glue s l))) := by
  have e : (l.map fun w => PyData.str (tx w)) = (l.map tx).map PyData.str := by rw [List.map_map]; rfl
  rw [e, gJoin_list (by rw [sum_len, List.length_map, tx_len]; exact h), join_tx]
end Mir
set_option Elab.async false
set_option linter.all false
set_option maxRecDepth 100000
set_option maxHeartbeats 4000000
namespace G
open PySem PySem.Spec L2 Mir
def top (i : Nat) : Stmt := PySem.Challenge.pw_turnery_k06_texts_that_are_no_tree.main.body.getD i (.Pass ⟨0, 0, 0, 0⟩)
abbrev s_size : Stmt := top 4
abbrev s_run_end : Stmt := top 9
abbrev s_word_end : Stmt := top 10
abbrev s_words : Stmt := top 11
abbrev s_is_name : Stmt := top 12
abbrev s_is_number : Stmt := top 13
abbrev s_tree_at : Stmt := top 15
abbrev s_read_tree : Stmt := top 16
abbrev s__law_cell_at : Stmt := top 18
abbrev s__law_word_by : Stmt := top 19
abbrev s__law_tree_words : Stmt := top 20
abbrev s__law_spoilt : Stmt := top 21
abbrev s__law_tree : Stmt := top 22
abbrev s__law_told : Stmt := top 23
abbrev s__law_great : Stmt := top 24
abbrev s_law : Stmt := top 25
/-- size: 0 tree, 1 total, 2 branch -/
noncomputable def b_size (m : Nat → List PyData → R Ow) : Ev → SR :=
    (sSeq (sSet 1 (eM (eC (.int 1)) Ow.d))
    (sSeq (sFor (eB (eBin gIx (eVar 0) (eC (.int 2))) itD) (gtName 2)
    (sAug gAddA 1 (eM (eB (aCons (eVar 2) aNil) (m 0)) viewD)))
    (sRet (eM (eVar 1) Ow.d))))
/-- run_end: 0 text, 1 start, 2 signs, 3 end -/
noncomputable def b_run_end (m : Nat → List PyData → R Ow) : Ev → SR :=
    (sSeq (sSet 3 (eM (eVar 1) Ow.d))
    (sSeq (whileN (tAndE (eB (eBin gLt (eVar 3) (eM (eCa gLen (aCons (eVar 0) aNil)) viewD)) asB) (eB (eBin gIn (eBin gIx (eVar 0) (eVar 3)) (eVar 2)) asB))
    (sAug gAddA 3 (eC (.int 1))) 1000000)
    (sRet (eM (eVar 3) Ow.d))))
/-- word_end: 0 text, 1 start, 2 end, 3 first -/
noncomputable def b_word_end (m : Nat → List PyData → R Ow) : Ev → SR :=
    (sSeq (sIf (eB (eBin gIn (eBin gIx (eVar 0) (eVar 1)) (eC (.str "();:=|*"))) asB)
    (sRet (eBinO gAdd (eVar 1) (eC (.int 1))))
    sSkip)
    (sSeq (sSet 2 (eM (eM (eB (aCons (eVar 0) (aCons (eVar 1) (aCons (eC (.str "abcdefghijklmnopqrstuvwxyz")) aNil))) (m 1)) viewD) Ow.d))
    (sSeq (sIf (eB (eBin gGt (eVar 2) (eVar 1)) asB)
    (sSeq (sIf (eB (eBin gGt (eBin gSub (eVar 2) (eVar 1)) (eC (.int 8))) asB)
    (sRaise "NoText")
    sSkip)
    (sRet (eM (eVar 2) Ow.d)))
    sSkip)
    (sSeq (sSet 3 (eM (eM (eBinO gAdd (eVar 1) (eB (eCa gInt (aCons (eBin gEq (eBin gIx (eVar 0) (eVar 1)) (eC (.str "-"))) aNil)) shD)) viewD) Ow.d))
    (sSeq (sSet 2 (eM (eM (eB (aCons (eVar 0) (aCons (eVar 3) (aCons (eC (.str "0123456789")) aNil))) (m 1)) viewD) Ow.d))
    (sSeq (sIf (tOrE (eB (eBin gEq (eVar 2) (eVar 3)) asB) (eB (eBin gGt (eBin gSub (eVar 2) (eVar 3)) (eC (.int 60))) asB))
    (sRaise "NoText")
    sSkip)
    (sSeq (sIf (tAndE (eB (eBin gEq (eBin gIx (eVar 0) (eVar 3)) (eC (.str "0"))) asB) (tOrE (eB (eBin gGt (eBin gSub (eVar 2) (eVar 3)) (eC (.int 1))) asB) (eB (eBin gGt (eVar 3) (eVar 1)) asB)))
    (sRaise "NoText")
    sSkip)
    (sRet (eM (eVar 2) Ow.d)))))))))
/-- words: 0 text, 1 found, 2 here, 3 end -/
noncomputable def b_words (m : Nat → List PyData → R Ow) : Ev → SR :=
    (sSeq (sIf (tNotE (eB (eB (eVar 0) (gIsi "str")) asB))
    (sRaise "NoText")
    sSkip)
    (sSeq (sSet 1 (eLst aNil))
    (sSeq (sSet 2 (eM (eC (.int 0)) Ow.d))
    (sSeq (whileN (eB (eBin gLt (eVar 2) (eM (eCa gLen (aCons (eVar 0) aNil)) viewD)) asB)
    (sSeq (sIf (eB (eBin gEq (eBin gIx (eVar 0) (eVar 2)) (eC (.str " "))) asB)
    (sSeq (sAug gAddA 2 (eC (.int 1)))
    sCont)
    sSkip)
    (sSeq (sSet 3 (eM (eM (eB (aCons (eVar 0) (aCons (eVar 2) aNil)) (m 2)) viewD) Ow.d))
    (sSeq (sApp 1 (eSl (eVar 0) (eB (eVar 2) asI) (eB (eVar 3) asI)))
    (sSet 2 (eM (eVar 3) Ow.d))))) 1000000)
    (sRetV 1)))))
/-- is_name: 0 word -/
noncomputable def b_is_name (m : Nat → List PyData → R Ow) : Ev → SR :=
    (sRet (eM (eBin gIn (eBin gIx (eVar 0) (eC (.int 0))) (eC (.str "abcdefghijklmnopqrstuvwxyz"))) Ow.d))
/-- is_number: 0 word -/
noncomputable def b_is_number (m : Nat → List PyData → R Ow) : Ev → SR :=
    (sRet (eM (eBin gIn (eBin gIx (eVar 0) (eB (eC (.int 1)) gNeg)) (eC (.str "0123456789"))) Ow.d))
/-- tree_at: 0 row, 1 here, 2 level, 3 name, 4 mark, 5 branches, 6 branch -/
noncomputable def b_tree_at (m : Nat → List PyData → R Ow) : Ev → SR :=
    (sSeq (sIf (tOrE (eB (eBin gGt (eVar 2) (eC (.int 40))) asB) (tOrE (eB (eBin gGe (eVar 1) (eM (eCa gLen (aCons (eVar 0) aNil)) viewD)) asB) (tNotE (eB (eM (eB (aCons (eBin gIx (eVar 0) (eVar 1)) aNil) (m 4)) viewD) asB))))
    (sRaise "NoText")
    sSkip)
    (sSeq (sSet 3 (eM (eBin gIx (eVar 0) (eVar 1)) Ow.d))
    (sSeq (sAug gAddA 1 (eC (.int 1)))
    (sSeq (sSet 4 (eM (eC (.int 0)) Ow.d))
    (sSeq (sIf (tAndE (eB (eBin gLt (eVar 1) (eM (eCa gLen (aCons (eVar 0) aNil)) viewD)) asB) (eB (eM (eB (aCons (eBin gIx (eVar 0) (eVar 1)) aNil) (m 5)) viewD) asB))
    (sSeq (sSet 4 (eM (eM (eCa gInt (aCons (eBin gIx (eVar 0) (eVar 1)) aNil)) viewD) Ow.d))
    (sAug gAddA 1 (eC (.int 1))))
    sSkip)
    (sSeq (sSet 5 (eLst aNil))
    (sSeq (sIf (tAndE (eB (eBin gLt (eVar 1) (eM (eCa gLen (aCons (eVar 0) aNil)) viewD)) asB) (eB (eBin gEq (eBin gIx (eVar 0) (eVar 1)) (eC (.str "("))) asB))
    (sSeq (sAug gAddA 1 (eC (.int 1)))
    (sSeq (whileN (tOrE (eB (eBin gGe (eVar 1) (eM (eCa gLen (aCons (eVar 0) aNil)) viewD)) asB) (eB (eBin gNe (eBin gIx (eVar 0) (eVar 1)) (eC (.str ")"))) asB))
    (sSeq (sAsg (gtTup 2 (gtCons (gtName 6) (gtCons (gtName 1) gtNil))) (eM (eB (aCons (eVar 0) (aCons (eVar 1) (aCons (eM (eBinO gAdd (eVar 2) (eC (.int 1))) viewD) aNil))) (m 6)) viewD))
    (sApp 5 (eM (eVar 6) Ow.d))) 1000000)
    (sSeq (sIf (eB (eBin gEq (eM (eVarO 5) viewD) (eM (eLst aNil) viewD)) asB)
    (sRaise "NoText")
    sSkip)
    (sAug gAddA 1 (eC (.int 1))))))
    sSkip)
    (sRet (eM (eTup (aCons (eTup (aCons (eVar 3) (aCons (eVar 4) (aCons (eM (eCa gTuple (aCons (eB (eVarO 5) shD) aNil)) viewD) aNil)))) (aCons (eVar 1) aNil))) Ow.d)))))))))
/-- read_tree: 0 text, 1 row, 2 tree, 3 end -/
noncomputable def b_read_tree (m : Nat → List PyData → R Ow) : Ev → SR :=
    (sSeq (sSet 1 (eM (eM (eB (aCons (eVar 0) aNil) (m 3)) viewD) Ow.d))
    (sSeq (sAsg (gtTup 2 (gtCons (gtName 2) (gtCons (gtName 3) gtNil))) (eM (eB (aCons (eVar 1) (aCons (eC (.int 0)) (aCons (eC (.int 1)) aNil))) (m 6)) viewD))
    (sSeq (sIf (tOrE (eB (eBin gNe (eVar 3) (eM (eCa gLen (aCons (eVar 1) aNil)) viewD)) asB) (eB (eBin gGt (eM (eB (aCons (eVar 2) aNil) (m 0)) viewD) (eC (.int 200))) asB))
    (sRaise "NoText")
    sSkip)
    (sRet (eM (eVar 2) Ow.d)))))
/-- _law_cell_at: 0 _law_script, 1 _law_k -/
noncomputable def b__law_cell_at (m : Nat → List PyData → R Ow) : Ev → SR :=
    (sSeq (sIf (eB (eBin gLt (eVar 1) (eM (eCa gLen (aCons (eVar 0) aNil)) viewD)) asB)
    (sRet (eM (eBin gIx (eVar 0) (eVar 1)) Ow.d))
    sSkip)
    (sRet (eM (eC (.int 0)) Ow.d)))
/-- _law_word_by: 0 _law_cell, 1 _law_number -/
noncomputable def b__law_word_by (m : Nat → List PyData → R Ow) : Ev → SR :=
    (sSeq (sSet 1 (eM (eBin gMod (eVar 0) (eBin gPow (eC (.int 10)) (eC (.int 64)))) Ow.d))
    (sSeq (sIf (eB (eBin gEq (eBin gMod (eVar 1) (eC (.int 4))) (eC (.int 0))) asB)
    (sRet (eM (eBin gMulZ (eBin gIx (eC (.str "abcdefghijklmnopqrstuvwxyz")) (eBin gMod (eBin gDiv (eVar 1) (eC (.int 4))) (eC (.int 26)))) (eBin gIx (eB (eLst (aCons (eC (.int 1)) (aCons (eC (.int 8)) aNil))) shD) (eBin gMod (eBin gDiv (eVar 1) (eC (.int 104))) (eC (.int 2))))) Ow.d))
    sSkip)
    (sSeq (sIf (eB (eBin gEq (eBin gMod (eVar 1) (eC (.int 4))) (eC (.int 1))) asB)
    (sRet (eCa gStr (aCons (eBin gMul (eBin gMod (eBin gDiv (eVar 1) (eC (.int 4))) (eBin gPow (eC (.int 10)) (eC (.int 60)))) (eBin gIx (eB (eLst (aCons (eC (.int 1)) (aCons (eB (eC (.int 1)) gNeg) aNil))) shD) (eBin gMod (eBin gDiv (eVar 1) (eC (.int 8))) (eC (.int 2))))) aNil)))
    sSkip)
    (sRet (eM (eBin gIx (eC (.str "()")) (eBin gMod (eBin gDiv (eVar 1) (eC (.int 4))) (eC (.int 2)))) Ow.d)))))
/-- _law_tree_words: 0 _law_cells, 1 _law_ups, 2 _law_below, 3 _law_cell, 4 _law_number, 5 _law_row, 6 _law_k -/
noncomputable def b__law_tree_words (m : Nat → List PyData → R Ow) : Ev → SR :=
    (sSeq (sSet 1 (eLst aNil))
    (sSeq (sSet 2 (eLc (eB (eVar 0) itD) (gtName 3) cYes (eM (eM (eLst aNil) viewD) Ow.d) (List.map (·.2) ([("_law_cell", 3)] : List (Str × Nat)))))
    (sSeq (sFor (eB (eVar 0) itD) (gtName 3)
    (sSeq (sSet 4 (eM (eBin gMod (eVar 3) (eBin gPow (eC (.int 10)) (eC (.int 30)))) Ow.d))
    (sApp 1 (eM (eBin gMod (eBin gDiv (eVar 4) (eC (.int 7))) (eM (eCa gMax2 (aCons (eC (.int 1)) (aCons (eB (eCa gLen (aCons (eB (eVarO 1) shD) aNil)) shD) aNil))) viewD)) Ow.d))))
    (sSeq (sSet 5 (eLst aNil))
    (sSeq (sFor (eB (aCons (eBin gSub (eM (eCa gLen (aCons (eVar 0) aNil)) viewD) (eC (.int 1))) (aCons (eB (eC (.int 1)) gNeg) (aCons (eB (eC (.int 1)) gNeg) aNil))) rg3) (gtName 6)
    (sSeq (sSet 4 (eM (eBin gMod (eBin gIx (eVar 0) (eVar 6)) (eBin gPow (eC (.int 10)) (eC (.int 30)))) Ow.d))
    (sSeq (sSet 5 (eLst (aCons (eBin gIx (eC (.str "abcdefghijklmnopqrstuvwxyz")) (eBin gMod (eVar 4) (eC (.int 26)))) aNil)))
    (sSeq (sIf (eB (eBin gEq (eBin gMod (eBin gDiv (eVar 4) (eC (.int 26))) (eC (.int 2))) (eC (.int 1))) asB)
    (sApp 5 (eCa gStr (aCons (eBin gSub (eBin gMod (eBin gDiv (eVar 4) (eC (.int 52))) (eC (.int 1999))) (eC (.int 999))) aNil)))
    sSkip)
    (sSeq (sIf (eB (eBin gNe (eBin gIx (eB (eVarO 2) shD) (eVar 6)) (eM (eLst aNil) viewD)) asB)
    (sSet 5 (eBinO gAdd (eB (eBinO gAdd (eB (eBinO gAdd (eB (eVarO 5) shD) (eB (eLst (aCons (eC (.str "(")) aNil)) shD)) shD) (eBin gIx (eB (eVarO 2) shD) (eVar 6))) shD) (eB (eLst (aCons (eC (.str ")")) aNil)) shD)))
    sSkip)
    (sPut 2 (eM (eM (eBinO gAdd (eB (eVarO 5) shD) (eBin gIx (eB (eVarO 2) shD) (eBin gIx (eB (eVarO 1) shD) (eVar 6)))) viewD) Ow.d) (eBin gIx (eB (eVarO 1) shD) (eVar 6))))))))
    (sRetV 5))))))
/-- _law_spoilt: 0 _law_row, 1 _law_way, 2 _law_there, 3 _law_word, 4 _law_after -/
noncomputable def b__law_spoilt (m : Nat → List PyData → R Ow) : Ev → SR :=
    (sSeq (sIf (tOrE (eB (eBin gEq (eVar 0) (eM (eLst aNil) viewD)) asB) (eB (eBin gEq (eVar 1) (eC (.int 0))) asB))
    (sRet (eM (eVar 0) Ow.d))
    sSkip)
    (sSeq (sSet 2 (eM (eBin gMod (eVar 2) (eM (eCa gLen (aCons (eVar 0) aNil)) viewD)) Ow.d))
    (sSeq (sIf (eB (eBin gEq (eVar 1) (eC (.int 1))) asB)
    (sRet (eBinO gAdd (eB (eSl (eVar 0) oNone (eB (eVar 2) asI)) shD) (eB (eSl (eVar 0) (eB (eM (eBinO gAdd (eVar 2) (eC (.int 1))) viewD) asI) oNone) shD)))
    sSkip)
    (sSeq (sIf (eB (eBin gEq (eVar 1) (eC (.int 2))) asB)
    (sRet (eBinO gAdd (eB (eBinO gAdd (eB (eSl (eVar 0) oNone (eB (eVar 2) asI)) shD) (eB (eLst (aCons (eVar 3) aNil)) shD)) shD) (eB (eSl (eVar 0) (eB (eVar 2) asI) oNone) shD)))
    sSkip)
    (sSeq (sIf (eB (eBin gEq (eVar 1) (eC (.int 3))) asB)
    (sRet (eBinO gAdd (eB (eBinO gAdd (eB (eSl (eVar 0) oNone (eB (eVar 2) asI)) shD) (eB (eLst (aCons (eBin gIx (eVar 0) (eVar 2)) aNil)) shD)) shD) (eB (eSl (eVar 0) (eB (eVar 2) asI) oNone) shD)))
    sSkip)
    (sSeq (sSet 4 (eM (eM (eBinO gAdd (eB (eSl (eVar 0) (eB (eM (eBinO gAdd (eVar 2) (eC (.int 1))) viewD) asI) (eB (eM (eBinO gAdd (eVar 2) (eC (.int 2))) viewD) asI)) shD) (eB (eLst (aCons (eBin gIx (eVar 0) (eVar 2)) aNil)) shD)) viewD) Ow.d))
    (sRet (eBinO gAdd (eB (eBinO gAdd (eB (eSl (eVar 0) oNone (eB (eVar 2) asI)) shD) (eVar 4)) shD) (eB (eSl (eVar 0) (eB (eM (eBinO gAdd (eVar 2) (eC (.int 2))) viewD) asI) oNone) shD)))))))))
/-- _law_tree: 0 _law_row, 1 _law_heads, 2 _law_parts, 3 _law_k, 4 _law_mark, 5 _law_name, 6 _law_branches, 7 _law_head -/
noncomputable def b__law_tree (m : Nat → List PyData → R Ow) : Ev → SR :=
    (sSeq (sSet 1 (eLst aNil))
    (sSeq (sSet 2 (eLstO (oCons (eLst aNil) oNil)))
    (sSeq (sSet 3 (eM (eC (.int 0)) Ow.d))
    (sSeq (whileN (eB (eBin gLt (eVar 3) (eM (eCa gLen (aCons (eVar 0) aNil)) viewD)) asB)
    (sIf (eB (eBin gIn (eBin gIx (eBin gIx (eVar 0) (eVar 3)) (eC (.int 0))) (eC (.str "abcdefghijklmnopqrstuvwxyz"))) asB)
    (sSeq (sSet 4 (eM (eC (.int 0)) Ow.d))
    (sSeq (sSet 5 (eM (eBin gIx (eVar 0) (eVar 3)) Ow.d))
    (sSeq (sSet 3 (eM (eM (eBinO gAdd (eVar 3) (eC (.int 1))) viewD) Ow.d))
    (sSeq (sIf (tAndE (eB (eBin gLt (eVar 3) (eM (eCa gLen (aCons (eVar 0) aNil)) viewD)) asB) (eB (eBin gIn (eBin gIx (eBin gIx (eVar 0) (eVar 3)) (eB (eC (.int 1)) gNeg)) (eC (.str "0123456789"))) asB))
    (sSeq (sSet 4 (eM (eM (eCa gInt (aCons (eBin gIx (eVar 0) (eVar 3)) aNil)) viewD) Ow.d))
    (sSet 3 (eM (eM (eBinO gAdd (eVar 3) (eC (.int 1))) viewD) Ow.d)))
    sSkip)
    (sIf (tAndE (eB (eBin gLt (eVar 3) (eM (eCa gLen (aCons (eVar 0) aNil)) viewD)) asB) (eB (eBin gEq (eBin gIx (eVar 0) (eVar 3)) (eC (.str "("))) asB))
    (sSeq (sApp 1 (eM (eTup (aCons (eVar 5) (aCons (eVar 4) aNil))) Ow.d))
    (sSeq (sApp 2 (eLst aNil))
    (sSet 3 (eM (eM (eBinO gAdd (eVar 3) (eC (.int 1))) viewD) Ow.d))))
    (sApp1 2 (eB (eC (.int 1)) gNeg) (eM (eTup (aCons (eVar 5) (aCons (eVar 4) (aCons (eTup aNil) aNil)))) Ow.d)))))))
    (sIf (tAndE (eB (eBin gEq (eBin gIx (eVar 0) (eVar 3)) (eC (.str ")"))) asB) (tAndE (eB (eBin gNe (eM (eVarO 1) viewD) (eM (eLst aNil) viewD)) asB) (eB (eBin gNe (eM (eIxO (eVarO 2) (eB (eC (.int 1)) gNeg)) viewD) (eM (eLst aNil) viewD)) asB)))
    (sSeq (sXSet 6 (xPopF 2))
    (sSeq (sXSet 7 (xPop 1))
    (sSeq (sApp1 2 (eB (eC (.int 1)) gNeg) (eM (eTup (aCons (eBin gIx (eVar 7) (eC (.int 0))) (aCons (eBin gIx (eVar 7) (eC (.int 1))) (aCons (eM (eCa gTuple (aCons (eVar 6) aNil)) viewD) aNil)))) Ow.d))
    (sSet 3 (eM (eM (eBinO gAdd (eVar 3) (eC (.int 1))) viewD) Ow.d)))))
    (sRet (eM (eC .none) Ow.d)))) 1000000)
    (sSeq (sIf (tOrE (eB (eBin gNe (eM (eVarO 1) viewD) (eM (eLst aNil) viewD)) asB) (eB (eBin gNe (eM (eCa gLen (aCons (eB (eIxO (eVarO 2) (eC (.int 0))) shD) aNil)) viewD) (eC (.int 1))) asB))
    (sRet (eM (eC .none) Ow.d))
    sSkip)
    (sRet (eM (eBin gIx (eB (eIxO (eVarO 2) (eC (.int 0))) shD) (eC (.int 0))) Ow.d)))))))
/-- _law_told: 0 _law_text, 1 _law_error, 2 _law_found, 3 e -/
noncomputable def b__law_told (m : Nat → List PyData → R Ow) : Ev → SR :=
    (sSeq (sSet 1 (eM (eC .none) Ow.d))
    (sSeq (sSet 2 (eM (eC .none) Ow.d))
    (sSeq (sTryT [("NoText", true)] 3
    (sSet 2 (eM (eM (eB (aCons (eVar 0) aNil) (m 7)) viewD) Ow.d))
    (sSet 1 (eM (eVar 3) Ow.d)))
    (sSeq (sIf (eB (eBin gIsN (eVar 1) (eC .none)) asB)
    (sRet (eM (eTup (aCons (eC (.str "told")) (aCons (eVar 2) aNil))) Ow.d))
    sSkip)
    (sRet (eM (eTup (aCons (eC (.str "refused")) (aCons (eAnd (eB (eVar 1) (gIsE [("NoText", true)])) (eB (eVar 1) (gIsE [("NoText", true)]))) aNil))) Ow.d))))))
/-- _law_great: 0 _law_cell, 1 _law_number, 2 _law_deep, 3 _law_wide -/
noncomputable def b__law_great (m : Nat → List PyData → R Ow) : Ev → SR :=
    (sSeq (sSet 1 (eM (eBin gMod (eVar 0) (eBin gPow (eC (.int 10)) (eC (.int 9)))) Ow.d))
    (sSeq (sSet 2 (eM (eM (eBinO gAdd (eC (.int 1)) (eBin gMod (eVar 1) (eC (.int 43)))) viewD) Ow.d))
    (sSeq (sSet 3 (eM (eBin gMod (eBin gDiv (eVar 1) (eC (.int 43))) (eC (.int 210))) Ow.d))
    (sSeq (sIf (eB (eBin gEq (eBin gMod (eBin gDiv (eVar 1) (eC (.int 10000))) (eC (.int 3))) (eC (.int 1))) asB)
    (sSet 2 (eM (eM (eBinO gAdd (eC (.int 38)) (eBin gMod (eVar 1) (eC (.int 4)))) viewD) Ow.d))
    sSkip)
    (sSeq (sIf (eB (eBin gEq (eBin gMod (eBin gDiv (eVar 1) (eC (.int 10000))) (eC (.int 3))) (eC (.int 2))) asB)
    (sSet 3 (eM (eBin gSub (eM (eBinO gAdd (eC (.int 198)) (eBin gMod (eBin gDiv (eVar 1) (eC (.int 43))) (eC (.int 5)))) viewD) (eVar 2)) Ow.d))
    sSkip)
    (sRet (eM (eTup (aCons (eVar 2) (aCons (eVar 3) aNil))) Ow.d)))))))
/-- law: 0 _law_script, 1 _law_row, 2 _law_cell, 3 _law_due, 4 _law_deep, 5 _law_wide, 6 _law_text, 7 _law_found, 8 _law_tree_here, 9 _law_k -/
noncomputable def b_law (m : Nat → List PyData → R Ow) : Ev → SR :=
    (sSeq (sSet 1 (eM (eM (eLc (eB (eM (eSl (eVar 0) (eB (eC (.int 5)) asI) (eB (eC (.int 35)) asI)) viewD) itD) (gtName 2) cYes (eB (aCons (eVar 2) aNil) (m 9)) (List.map (·.2) ([("_law_cell", 2)] : List (Str × Nat)))) viewD) Ow.d))
    (sSeq (sIf (eB (eBin gEq (eBin gMod (eM (eB (aCons (eVar 0) (aCons (eC (.int 0)) aNil)) (m 8)) viewD) (eC (.int 2))) (eC (.int 0))) asB)
    (sSet 1 (eM (eM (eB (aCons (eM (eSl (eVar 0) (eB (eC (.int 5)) asI) (eB (eC (.int 35)) asI)) viewD) aNil) (m 10)) viewD) Ow.d))
    sSkip)
    (sSeq (sSet 1 (eM (eM (eB (aCons (eVar 1) (aCons (eBin gMod (eM (eB (aCons (eVar 0) (aCons (eC (.int 1)) aNil)) (m 8)) viewD) (eC (.int 5))) (aCons (eM (eB (aCons (eVar 0) (aCons (eC (.int 2)) aNil)) (m 8)) viewD) (aCons (eM (eB (aCons (eM (eB (aCons (eVar 0) (aCons (eC (.int 3)) aNil)) (m 8)) viewD) aNil) (m 9)) viewD) aNil)))) (m 11)) viewD) Ow.d))
    (sSeq (sSet 3 (eM (eTup (aCons (eC (.str "told")) (aCons (eM (eB (aCons (eVar 1) aNil) (m 12)) viewD) aNil))) Ow.d))
    (sSeq (sIf (eB (eBin gIsN (eBin gIx (eVar 3) (eC (.int 1))) (eC .none)) asB)
    (sSet 3 (eM (eTup (aCons (eC (.str "refused")) (aCons (eC (.bool true)) aNil))) Ow.d))
    sSkip)
    (sSeq (sIf (tOrE (eB (eBin gNe (eM (eB (aCons (eJoin (eC (.str " ")) (eVar 1)) aNil) (m 13)) viewD) (eVar 3)) asB) (eB (eBin gNe (eM (eB (aCons (eJoin (eC (.str " ")) (eVar 1)) aNil) (m 13)) viewD) (eVar 3)) asB))
    (sRet (eM (eC (.bool false)) Ow.d))
    sSkip)
    (sSeq (sAsg (gtTup 2 (gtCons (gtName 4) (gtCons (gtName 5) gtNil))) (eM (eB (aCons (eM (eB (aCons (eVar 0) (aCons (eC (.int 4)) aNil)) (m 8)) viewD) aNil) (m 14)) viewD))
    (sSeq (sSet 6 (eM (eM (eBinO gAdd (eBin gMulZ (eC (.str "a(")) (eBin gSub (eVar 4) (eC (.int 1)))) (eC (.str "a"))) viewD) Ow.d))
    (sSeq (sIf (eB (eBin gGt (eVar 5) (eC (.int 0))) asB)
    (sSet 6 (eM (eM (eBinO gAdd (eB (eBinO gAdd (eB (eBinO gAdd (eVar 6) (eC (.str "("))) shD) (eJoin (eC (.str " ")) (eB (eRep (eLst (aCons (eC (.str "b")) aNil)) (eVar 5)) shD))) shD) (eC (.str ")"))) viewD) Ow.d))
    sSkip)
    (sSeq (sSet 7 (eM (eM (eB (aCons (eM (eBinO gAdd (eVar 6) (eBin gMulZ (eC (.str ")")) (eBin gSub (eVar 4) (eC (.int 1))))) viewD) aNil) (m 13)) viewD) Ow.d))
    (sSeq (sIf (tOrE (eB (eBin gGt (eM (eBinO gAdd (eVar 4) (eB (eCa gInt (aCons (eBin gGt (eVar 5) (eC (.int 0))) aNil)) shD)) viewD) (eC (.int 40))) asB) (eB (eBin gGt (eM (eBinO gAdd (eVar 4) (eVar 5)) viewD) (eC (.int 200))) asB))
    (sRet (eM (eBin gEq (eVar 7) (eTup (aCons (eC (.str "refused")) (aCons (eC (.bool true)) aNil)))) Ow.d))
    sSkip)
    (sSeq (sSet 8 (eM (eTup (aCons (eC (.str "a")) (aCons (eC (.int 0)) (aCons (eM (eBinO gRepZ (eTup (aCons (eTup (aCons (eC (.str "b")) (aCons (eC (.int 0)) (aCons (eTup aNil) aNil)))) aNil)) (eVar 5)) viewD) aNil)))) Ow.d))
    (sSeq (sFor (eB (aCons (eBin gSub (eVar 4) (eC (.int 1))) aNil) rg1) (gtName 9)
    (sSet 8 (eM (eTup (aCons (eC (.str "a")) (aCons (eC (.int 0)) (aCons (eTup (aCons (eVar 8) aNil)) aNil)))) Ow.d)))
    (sRet (eM (eBin gEq (eVar 7) (eTup (aCons (eC (.str "told")) (aCons (eVar 8) aNil)))) Ow.d)))))))))))))))
noncomputable def mir : Nat → Nat → List PyData → R Ow
  | 0, _ => fun _ => .no
  | n + 1, i => match i with
    | 0 => runB 2 (b_size (mir n))
    | 1 => runB 1 (b_run_end (mir n))
    | 2 => runB 2 (b_word_end (mir n))
    | 3 => runB 3 (b_words (mir n))
    | 4 => runB 0 (b_is_name (mir n))
    | 5 => runB 0 (b_is_number (mir n))
    | 6 => runB 4 (b_tree_at (mir n))
    | 7 => runB 3 (b_read_tree (mir n))
    | 8 => runB 0 (b__law_cell_at (mir n))
    | 9 => runB 1 (b__law_word_by (mir n))
    | 10 => runB 6 (b__law_tree_words (mir n))
    | 11 => runB 1 (b__law_spoilt (mir n))
    | 12 => runB 7 (b__law_tree (mir n))
    | 13 => runB 3 (b__law_told (mir n))
    | 14 => runB 3 (b__law_great (mir n))
    | 15 => runB 9 (b_law (mir n))
    | _ => fun _ => .no
theorem mir_run_end (n : Nat) (ds : List PyData) : mir (n + 1) 1 ds = runB 1 (b_run_end (mir n)) ds := rfl
theorem mir_word_end (n : Nat) (ds : List PyData) : mir (n + 1) 2 ds = runB 2 (b_word_end (mir n)) ds := rfl
theorem mir_words (n : Nat) (ds : List PyData) : mir (n + 1) 3 ds = runB 3 (b_words (mir n)) ds := rfl
theorem mir_is_name (n : Nat) (ds : List PyData) : mir (n + 1) 4 ds = runB 0 (b_is_name (mir n)) ds := rfl
theorem mir_is_number (n : Nat) (ds : List PyData) : mir (n + 1) 5 ds = runB 0 (b_is_number (mir n)) ds := rfl
theorem mir_tree_at (n : Nat) (ds : List PyData) : mir (n + 1) 6 ds = runB 4 (b_tree_at (mir n)) ds := rfl
theorem mir_read_tree (n : Nat) (ds : List PyData) : mir (n + 1) 7 ds = runB 3 (b_read_tree (mir n)) ds := rfl
theorem mir__law_cell_at (n : Nat) (ds : List PyData) : mir (n + 1) 8 ds = runB 0 (b__law_cell_at (mir n)) ds := rfl
theorem mir__law_word_by (n : Nat) (ds : List PyData) : mir (n + 1) 9 ds = runB 1 (b__law_word_by (mir n)) ds := rfl
theorem mir__law_tree_words (n : Nat) (ds : List PyData) : mir (n + 1) 10 ds = runB 6 (b__law_tree_words (mir n)) ds := rfl
theorem mir__law_spoilt (n : Nat) (ds : List PyData) : mir (n + 1) 11 ds = runB 1 (b__law_spoilt (mir n)) ds := rfl
theorem mir__law_tree (n : Nat) (ds : List PyData) : mir (n + 1) 12 ds = runB 7 (b__law_tree (mir n)) ds := rfl
theorem mir__law_told (n : Nat) (ds : List PyData) : mir (n + 1) 13 ds = runB 3 (b__law_told (mir n)) ds := rfl
theorem mir__law_great (n : Nat) (ds : List PyData) : mir (n + 1) 14 ds = runB 3 (b__law_great (mir n)) ds := rfl
theorem mir_law (n : Nat) (ds : List PyData) : mir (n + 1) 15 ds = runB 9 (b_law (mir n)) ds := rfl
theorem run_size (m : Nat → List PyData → R Ow) (ds : List PyData) : runB 2 (b_size m) ds = finR (((sSeq (sSet 1 (eM (eC (.int 1)) Ow.d))
    (sSeq (sFor (eB (eBin gIx (eVar 0) (eC (.int 2))) itD) (gtName 2)
    (sAug gAddA 1 (eM (eB (aCons (eVar 2) aNil) (m 0)) viewD)))
    (sRet (eM (eVar 1) Ow.d))))) (envOf 2 ds)) := runB_fin _ _ _
theorem run_run_end (m : Nat → List PyData → R Ow) (ds : List PyData) : runB 1 (b_run_end m) ds = finR (((sSeq (sSet 3 (eM (eVar 1) Ow.d))
    (sSeq (whileN (tAndE (eB (eBin gLt (eVar 3) (eM (eCa gLen (aCons (eVar 0) aNil)) viewD)) asB) (eB (eBin gIn (eBin gIx (eVar 0) (eVar 3)) (eVar 2)) asB))
    (sAug gAddA 3 (eC (.int 1))) 1000000)
    (sRet (eM (eVar 3) Ow.d))))) (envOf 1 ds)) := runB_fin _ _ _
theorem run_word_end (m : Nat → List PyData → R Ow) (ds : List PyData) : runB 2 (b_word_end m) ds = finR (((sSeq (sIf (eB (eBin gIn (eBin gIx (eVar 0) (eVar 1)) (eC (.str "();:=|*"))) asB)
    (sRet (eBinO gAdd (eVar 1) (eC (.int 1))))
    sSkip)
    (sSeq (sSet 2 (eM (eM (eB (aCons (eVar 0) (aCons (eVar 1) (aCons (eC (.str "abcdefghijklmnopqrstuvwxyz")) aNil))) (m 1)) viewD) Ow.d))
    (sSeq (sIf (eB (eBin gGt (eVar 2) (eVar 1)) asB)
    (sSeq (sIf (eB (eBin gGt (eBin gSub (eVar 2) (eVar 1)) (eC (.int 8))) asB)
    (sRaise "NoText")
    sSkip)
    (sRet (eM (eVar 2) Ow.d)))
    sSkip)
    (sSeq (sSet 3 (eM (eM (eBinO gAdd (eVar 1) (eB (eCa gInt (aCons (eBin gEq (eBin gIx (eVar 0) (eVar 1)) (eC (.str "-"))) aNil)) shD)) viewD) Ow.d))
    (sSeq (sSet 2 (eM (eM (eB (aCons (eVar 0) (aCons (eVar 3) (aCons (eC (.str "0123456789")) aNil))) (m 1)) viewD) Ow.d))
    (sSeq (sIf (tOrE (eB (eBin gEq (eVar 2) (eVar 3)) asB) (eB (eBin gGt (eBin gSub (eVar 2) (eVar 3)) (eC (.int 60))) asB))
    (sRaise "NoText")
    sSkip)
    (sSeq (sIf (tAndE (eB (eBin gEq (eBin gIx (eVar 0) (eVar 3)) (eC (.str "0"))) asB) (tOrE (eB (eBin gGt (eBin gSub (eVar 2) (eVar 3)) (eC (.int 1))) asB) (eB (eBin gGt (eVar 3) (eVar 1)) asB)))
    (sRaise "NoText")
    sSkip)
    (sRet (eM (eVar 2) Ow.d)))))))))) (envOf 2 ds)) := runB_fin _ _ _
theorem run_words (m : Nat → List PyData → R Ow) (ds : List PyData) : runB 3 (b_words m) ds = finR (((sSeq (sIf (tNotE (eB (eB (eVar 0) (gIsi "str")) asB))
    (sRaise "NoText")
    sSkip)
    (sSeq (sSet 1 (eLst aNil))
    (sSeq (sSet 2 (eM (eC (.int 0)) Ow.d))
    (sSeq (whileN (eB (eBin gLt (eVar 2) (eM (eCa gLen (aCons (eVar 0) aNil)) viewD)) asB)
    (sSeq (sIf (eB (eBin gEq (eBin gIx (eVar 0) (eVar 2)) (eC (.str " "))) asB)
    (sSeq (sAug gAddA 2 (eC (.int 1)))
    sCont)
    sSkip)
    (sSeq (sSet 3 (eM (eM (eB (aCons (eVar 0) (aCons (eVar 2) aNil)) (m 2)) viewD) Ow.d))
    (sSeq (sApp 1 (eSl (eVar 0) (eB (eVar 2) asI) (eB (eVar 3) asI)))
    (sSet 2 (eM (eVar 3) Ow.d))))) 1000000)
    (sRetV 1)))))) (envOf 3 ds)) := runB_fin _ _ _
theorem run_is_name (m : Nat → List PyData → R Ow) (ds : List PyData) : runB 0 (b_is_name m) ds = finR (((sRet (eM (eBin gIn (eBin gIx (eVar 0) (eC (.int 0))) (eC (.str "abcdefghijklmnopqrstuvwxyz"))) Ow.d))) (envOf 0 ds)) := runB_fin _ _ _
theorem run_is_number (m : Nat → List PyData → R Ow) (ds : List PyData) : runB 0 (b_is_number m) ds = finR (((sRet (eM (eBin gIn (eBin gIx (eVar 0) (eB (eC (.int 1)) gNeg)) (eC (.str "0123456789"))) Ow.d))) (envOf 0 ds)) := runB_fin _ _ _
theorem run_tree_at (m : Nat → List PyData → R Ow) (ds : List PyData) : runB 4 (b_tree_at m) ds = finR (((sSeq (sIf (tOrE (eB (eBin gGt (eVar 2) (eC (.int 40))) asB) (tOrE (eB (eBin gGe (eVar 1) (eM (eCa gLen (aCons (eVar 0) aNil)) viewD)) asB) (tNotE (eB (eM (eB (aCons (eBin gIx (eVar 0) (eVar 1)) aNil) (m 4)) viewD) asB))))
    (sRaise "NoText")
    sSkip)
    (sSeq (sSet 3 (eM (eBin gIx (eVar 0) (eVar 1)) Ow.d))
    (sSeq (sAug gAddA 1 (eC (.int 1)))
    (sSeq (sSet 4 (eM (eC (.int 0)) Ow.d))
    (sSeq (sIf (tAndE (eB (eBin gLt (eVar 1) (eM (eCa gLen (aCons (eVar 0) aNil)) viewD)) asB) (eB (eM (eB (aCons (eBin gIx (eVar 0) (eVar 1)) aNil) (m 5)) viewD) asB))
    (sSeq (sSet 4 (eM (eM (eCa gInt (aCons (eBin gIx (eVar 0) (eVar 1)) aNil)) viewD) Ow.d))
    (sAug gAddA 1 (eC (.int 1))))
    sSkip)
    (sSeq (sSet 5 (eLst aNil))
    (sSeq (sIf (tAndE (eB (eBin gLt (eVar 1) (eM (eCa gLen (aCons (eVar 0) aNil)) viewD)) asB) (eB (eBin gEq (eBin gIx (eVar 0) (eVar 1)) (eC (.str "("))) asB))
    (sSeq (sAug gAddA 1 (eC (.int 1)))
    (sSeq (whileN (tOrE (eB (eBin gGe (eVar 1) (eM (eCa gLen (aCons (eVar 0) aNil)) viewD)) asB) (eB (eBin gNe (eBin gIx (eVar 0) (eVar 1)) (eC (.str ")"))) asB))
    (sSeq (sAsg (gtTup 2 (gtCons (gtName 6) (gtCons (gtName 1) gtNil))) (eM (eB (aCons (eVar 0) (aCons (eVar 1) (aCons (eM (eBinO gAdd (eVar 2) (eC (.int 1))) viewD) aNil))) (m 6)) viewD))
    (sApp 5 (eM (eVar 6) Ow.d))) 1000000)
    (sSeq (sIf (eB (eBin gEq (eM (eVarO 5) viewD) (eM (eLst aNil) viewD)) asB)
    (sRaise "NoText")
    sSkip)
    (sAug gAddA 1 (eC (.int 1))))))
    sSkip)
    (sRet (eM (eTup (aCons (eTup (aCons (eVar 3) (aCons (eVar 4) (aCons (eM (eCa gTuple (aCons (eB (eVarO 5) shD) aNil)) viewD) aNil)))) (aCons (eVar 1) aNil))) Ow.d)))))))))) (envOf 4 ds)) := runB_fin _ _ _
theorem run_read_tree (m : Nat → List PyData → R Ow) (ds : List PyData) : runB 3 (b_read_tree m) ds = finR (((sSeq (sSet 1 (eM (eM (eB (aCons (eVar 0) aNil) (m 3)) viewD) Ow.d))
    (sSeq (sAsg (gtTup 2 (gtCons (gtName 2) (gtCons (gtName 3) gtNil))) (eM (eB (aCons (eVar 1) (aCons (eC (.int 0)) (aCons (eC (.int 1)) aNil))) (m 6)) viewD))
    (sSeq (sIf (tOrE (eB (eBin gNe (eVar 3) (eM (eCa gLen (aCons (eVar 1) aNil)) viewD)) asB) (eB (eBin gGt (eM (eB (aCons (eVar 2) aNil) (m 0)) viewD) (eC (.int 200))) asB))
    (sRaise "NoText")
    sSkip)
    (sRet (eM (eVar 2) Ow.d)))))) (envOf 3 ds)) := runB_fin _ _ _
theorem run__law_cell_at (m : Nat → List PyData → R Ow) (ds : List PyData) : runB 0 (b__law_cell_at m) ds = finR (((sSeq (sIf (eB (eBin gLt (eVar 1) (eM (eCa gLen (aCons (eVar 0) aNil)) viewD)) asB)
    (sRet (eM (eBin gIx (eVar 0) (eVar 1)) Ow.d))
    sSkip)
    (sRet (eM (eC (.int 0)) Ow.d)))) (envOf 0 ds)) := runB_fin _ _ _
theorem run__law_word_by (m : Nat → List PyData → R Ow) (ds : List PyData) : runB 1 (b__law_word_by m) ds = finR (((sSeq (sSet 1 (eM (eBin gMod (eVar 0) (eBin gPow (eC (.int 10)) (eC (.int 64)))) Ow.d))
    (sSeq (sIf (eB (eBin gEq (eBin gMod (eVar 1) (eC (.int 4))) (eC (.int 0))) asB)
    (sRet (eM (eBin gMulZ (eBin gIx (eC (.str "abcdefghijklmnopqrstuvwxyz")) (eBin gMod (eBin gDiv (eVar 1) (eC (.int 4))) (eC (.int 26)))) (eBin gIx (eB (eLst (aCons (eC (.int 1)) (aCons (eC (.int 8)) aNil))) shD) (eBin gMod (eBin gDiv (eVar 1) (eC (.int 104))) (eC (.int 2))))) Ow.d))
    sSkip)
    (sSeq (sIf (eB (eBin gEq (eBin gMod (eVar 1) (eC (.int 4))) (eC (.int 1))) asB)
    (sRet (eCa gStr (aCons (eBin gMul (eBin gMod (eBin gDiv (eVar 1) (eC (.int 4))) (eBin gPow (eC (.int 10)) (eC (.int 60)))) (eBin gIx (eB (eLst (aCons (eC (.int 1)) (aCons (eB (eC (.int 1)) gNeg) aNil))) shD) (eBin gMod (eBin gDiv (eVar 1) (eC (.int 8))) (eC (.int 2))))) aNil)))
    sSkip)
    (sRet (eM (eBin gIx (eC (.str "()")) (eBin gMod (eBin gDiv (eVar 1) (eC (.int 4))) (eC (.int 2)))) Ow.d)))))) (envOf 1 ds)) := runB_fin _ _ _
theorem run__law_tree_words (m : Nat → List PyData → R Ow) (ds : List PyData) : runB 6 (b__law_tree_words m) ds = finR (((sSeq (sSet 1 (eLst aNil))
    (sSeq (sSet 2 (eLc (eB (eVar 0) itD) (gtName 3) cYes (eM (eM (eLst aNil) viewD) Ow.d) (List.map (·.2) ([("_law_cell", 3)] : List (Str × Nat)))))
    (sSeq (sFor (eB (eVar 0) itD) (gtName 3)
    (sSeq (sSet 4 (eM (eBin gMod (eVar 3) (eBin gPow (eC (.int 10)) (eC (.int 30)))) Ow.d))
    (sApp 1 (eM (eBin gMod (eBin gDiv (eVar 4) (eC (.int 7))) (eM (eCa gMax2 (aCons (eC (.int 1)) (aCons (eB (eCa gLen (aCons (eB (eVarO 1) shD) aNil)) shD) aNil))) viewD)) Ow.d))))
    (sSeq (sSet 5 (eLst aNil))
    (sSeq (sFor (eB (aCons (eBin gSub (eM (eCa gLen (aCons (eVar 0) aNil)) viewD) (eC (.int 1))) (aCons (eB (eC (.int 1)) gNeg) (aCons (eB (eC (.int 1)) gNeg) aNil))) rg3) (gtName 6)
    (sSeq (sSet 4 (eM (eBin gMod (eBin gIx (eVar 0) (eVar 6)) (eBin gPow (eC (.int 10)) (eC (.int 30)))) Ow.d))
    (sSeq (sSet 5 (eLst (aCons (eBin gIx (eC (.str "abcdefghijklmnopqrstuvwxyz")) (eBin gMod (eVar 4) (eC (.int 26)))) aNil)))
    (sSeq (sIf (eB (eBin gEq (eBin gMod (eBin gDiv (eVar 4) (eC (.int 26))) (eC (.int 2))) (eC (.int 1))) asB)
    (sApp 5 (eCa gStr (aCons (eBin gSub (eBin gMod (eBin gDiv (eVar 4) (eC (.int 52))) (eC (.int 1999))) (eC (.int 999))) aNil)))
    sSkip)
    (sSeq (sIf (eB (eBin gNe (eBin gIx (eB (eVarO 2) shD) (eVar 6)) (eM (eLst aNil) viewD)) asB)
    (sSet 5 (eBinO gAdd (eB (eBinO gAdd (eB (eBinO gAdd (eB (eVarO 5) shD) (eB (eLst (aCons (eC (.str "(")) aNil)) shD)) shD) (eBin gIx (eB (eVarO 2) shD) (eVar 6))) shD) (eB (eLst (aCons (eC (.str ")")) aNil)) shD)))
    sSkip)
    (sPut 2 (eM (eM (eBinO gAdd (eB (eVarO 5) shD) (eBin gIx (eB (eVarO 2) shD) (eBin gIx (eB (eVarO 1) shD) (eVar 6)))) viewD) Ow.d) (eBin gIx (eB (eVarO 1) shD) (eVar 6))))))))
    (sRetV 5))))))) (envOf 6 ds)) := runB_fin _ _ _
theorem run__law_spoilt (m : Nat → List PyData → R Ow) (ds : List PyData) : runB 1 (b__law_spoilt m) ds = finR (((sSeq (sIf (tOrE (eB (eBin gEq (eVar 0) (eM (eLst aNil) viewD)) asB) (eB (eBin gEq (eVar 1) (eC (.int 0))) asB))
    (sRet (eM (eVar 0) Ow.d))
    sSkip)
    (sSeq (sSet 2 (eM (eBin gMod (eVar 2) (eM (eCa gLen (aCons (eVar 0) aNil)) viewD)) Ow.d))
    (sSeq (sIf (eB (eBin gEq (eVar 1) (eC (.int 1))) asB)
    (sRet (eBinO gAdd (eB (eSl (eVar 0) oNone (eB (eVar 2) asI)) shD) (eB (eSl (eVar 0) (eB (eM (eBinO gAdd (eVar 2) (eC (.int 1))) viewD) asI) oNone) shD)))
    sSkip)
    (sSeq (sIf (eB (eBin gEq (eVar 1) (eC (.int 2))) asB)
    (sRet (eBinO gAdd (eB (eBinO gAdd (eB (eSl (eVar 0) oNone (eB (eVar 2) asI)) shD) (eB (eLst (aCons (eVar 3) aNil)) shD)) shD) (eB (eSl (eVar 0) (eB (eVar 2) asI) oNone) shD)))
    sSkip)
    (sSeq (sIf (eB (eBin gEq (eVar 1) (eC (.int 3))) asB)
    (sRet (eBinO gAdd (eB (eBinO gAdd (eB (eSl (eVar 0) oNone (eB (eVar 2) asI)) shD) (eB (eLst (aCons (eBin gIx (eVar 0) (eVar 2)) aNil)) shD)) shD) (eB (eSl (eVar 0) (eB (eVar 2) asI) oNone) shD)))
    sSkip)
    (sSeq (sSet 4 (eM (eM (eBinO gAdd (eB (eSl (eVar 0) (eB (eM (eBinO gAdd (eVar 2) (eC (.int 1))) viewD) asI) (eB (eM (eBinO gAdd (eVar 2) (eC (.int 2))) viewD) asI)) shD) (eB (eLst (aCons (eBin gIx (eVar 0) (eVar 2)) aNil)) shD)) viewD) Ow.d))
    (sRet (eBinO gAdd (eB (eBinO gAdd (eB (eSl (eVar 0) oNone (eB (eVar 2) asI)) shD) (eVar 4)) shD) (eB (eSl (eVar 0) (eB (eM (eBinO gAdd (eVar 2) (eC (.int 2))) viewD) asI) oNone) shD)))))))))) (envOf 1 ds)) := runB_fin _ _ _
theorem run__law_tree (m : Nat → List PyData → R Ow) (ds : List PyData) : runB 7 (b__law_tree m) ds = finR (((sSeq (sSet 1 (eLst aNil))
    (sSeq (sSet 2 (eLstO (oCons (eLst aNil) oNil)))
    (sSeq (sSet 3 (eM (eC (.int 0)) Ow.d))
    (sSeq (whileN (eB (eBin gLt (eVar 3) (eM (eCa gLen (aCons (eVar 0) aNil)) viewD)) asB)
    (sIf (eB (eBin gIn (eBin gIx (eBin gIx (eVar 0) (eVar 3)) (eC (.int 0))) (eC (.str "abcdefghijklmnopqrstuvwxyz"))) asB)
    (sSeq (sSet 4 (eM (eC (.int 0)) Ow.d))
    (sSeq (sSet 5 (eM (eBin gIx (eVar 0) (eVar 3)) Ow.d))
    (sSeq (sSet 3 (eM (eM (eBinO gAdd (eVar 3) (eC (.int 1))) viewD) Ow.d))
    (sSeq (sIf (tAndE (eB (eBin gLt (eVar 3) (eM (eCa gLen (aCons (eVar 0) aNil)) viewD)) asB) (eB (eBin gIn (eBin gIx (eBin gIx (eVar 0) (eVar 3)) (eB (eC (.int 1)) gNeg)) (eC (.str "0123456789"))) asB))
    (sSeq (sSet 4 (eM (eM (eCa gInt (aCons (eBin gIx (eVar 0) (eVar 3)) aNil)) viewD) Ow.d))
    (sSet 3 (eM (eM (eBinO gAdd (eVar 3) (eC (.int 1))) viewD) Ow.d)))
    sSkip)
    (sIf (tAndE (eB (eBin gLt (eVar 3) (eM (eCa gLen (aCons (eVar 0) aNil)) viewD)) asB) (eB (eBin gEq (eBin gIx (eVar 0) (eVar 3)) (eC (.str "("))) asB))
    (sSeq (sApp 1 (eM (eTup (aCons (eVar 5) (aCons (eVar 4) aNil))) Ow.d))
    (sSeq (sApp 2 (eLst aNil))
    (sSet 3 (eM (eM (eBinO gAdd (eVar 3) (eC (.int 1))) viewD) Ow.d))))
    (sApp1 2 (eB (eC (.int 1)) gNeg) (eM (eTup (aCons (eVar 5) (aCons (eVar 4) (aCons (eTup aNil) aNil)))) Ow.d)))))))
    (sIf (tAndE (eB (eBin gEq (eBin gIx (eVar 0) (eVar 3)) (eC (.str ")"))) asB) (tAndE (eB (eBin gNe (eM (eVarO 1) viewD) (eM (eLst aNil) viewD)) asB) (eB (eBin gNe (eM (eIxO (eVarO 2) (eB (eC (.int 1)) gNeg)) viewD) (eM (eLst aNil) viewD)) asB)))
    (sSeq (sXSet 6 (xPopF 2))
    (sSeq (sXSet 7 (xPop 1))
    (sSeq (sApp1 2 (eB (eC (.int 1)) gNeg) (eM (eTup (aCons (eBin gIx (eVar 7) (eC (.int 0))) (aCons (eBin gIx (eVar 7) (eC (.int 1))) (aCons (eM (eCa gTuple (aCons (eVar 6) aNil)) viewD) aNil)))) Ow.d))
    (sSet 3 (eM (eM (eBinO gAdd (eVar 3) (eC (.int 1))) viewD) Ow.d)))))
    (sRet (eM (eC .none) Ow.d)))) 1000000)
    (sSeq (sIf (tOrE (eB (eBin gNe (eM (eVarO 1) viewD) (eM (eLst aNil) viewD)) asB) (eB (eBin gNe (eM (eCa gLen (aCons (eB (eIxO (eVarO 2) (eC (.int 0))) shD) aNil)) viewD) (eC (.int 1))) asB))
    (sRet (eM (eC .none) Ow.d))
    sSkip)
    (sRet (eM (eBin gIx (eB (eIxO (eVarO 2) (eC (.int 0))) shD) (eC (.int 0))) Ow.d)))))))) (envOf 7 ds)) := runB_fin _ _ _
theorem run__law_told (m : Nat → List PyData → R Ow) (ds : List PyData) : runB 3 (b__law_told m) ds = finR (((sSeq (sSet 1 (eM (eC .none) Ow.d))
    (sSeq (sSet 2 (eM (eC .none) Ow.d))
    (sSeq (sTryT [("NoText", true)] 3
    (sSet 2 (eM (eM (eB (aCons (eVar 0) aNil) (m 7)) viewD) Ow.d))
    (sSet 1 (eM (eVar 3) Ow.d)))
    (sSeq (sIf (eB (eBin gIsN (eVar 1) (eC .none)) asB)
    (sRet (eM (eTup (aCons (eC (.str "told")) (aCons (eVar 2) aNil))) Ow.d))
    sSkip)
    (sRet (eM (eTup (aCons (eC (.str "refused")) (aCons (eAnd (eB (eVar 1) (gIsE [("NoText", true)])) (eB (eVar 1) (gIsE [("NoText", true)]))) aNil))) Ow.d))))))) (envOf 3 ds)) := runB_fin _ _ _
theorem run__law_great (m : Nat → List PyData → R Ow) (ds : List PyData) : runB 3 (b__law_great m) ds = finR (((sSeq (sSet 1 (eM (eBin gMod (eVar 0) (eBin gPow (eC (.int 10)) (eC (.int 9)))) Ow.d))
    (sSeq (sSet 2 (eM (eM (eBinO gAdd (eC (.int 1)) (eBin gMod (eVar 1) (eC (.int 43)))) viewD) Ow.d))
    (sSeq (sSet 3 (eM (eBin gMod (eBin gDiv (eVar 1) (eC (.int 43))) (eC (.int 210))) Ow.d))
    (sSeq (sIf (eB (eBin gEq (eBin gMod (eBin gDiv (eVar 1) (eC (.int 10000))) (eC (.int 3))) (eC (.int 1))) asB)
    (sSet 2 (eM (eM (eBinO gAdd (eC (.int 38)) (eBin gMod (eVar 1) (eC (.int 4)))) viewD) Ow.d))
    sSkip)
    (sSeq (sIf (eB (eBin gEq (eBin gMod (eBin gDiv (eVar 1) (eC (.int 10000))) (eC (.int 3))) (eC (.int 2))) asB)
    (sSet 3 (eM (eBin gSub (eM (eBinO gAdd (eC (.int 198)) (eBin gMod (eBin gDiv (eVar 1) (eC (.int 43))) (eC (.int 5)))) viewD) (eVar 2)) Ow.d))
    sSkip)
    (sRet (eM (eTup (aCons (eVar 2) (aCons (eVar 3) aNil))) Ow.d)))))))) (envOf 3 ds)) := runB_fin _ _ _
theorem run_law (m : Nat → List PyData → R Ow) (ds : List PyData) : runB 9 (b_law m) ds = finR (((sSeq (sSet 1 (eM (eM (eLc (eB (eM (eSl (eVar 0) (eB (eC (.int 5)) asI) (eB (eC (.int 35)) asI)) viewD) itD) (gtName 2) cYes (eB (aCons (eVar 2) aNil) (m 9)) (List.map (·.2) ([("_law_cell", 2)] : List (Str × Nat)))) viewD) Ow.d))
    (sSeq (sIf (eB (eBin gEq (eBin gMod (eM (eB (aCons (eVar 0) (aCons (eC (.int 0)) aNil)) (m 8)) viewD) (eC (.int 2))) (eC (.int 0))) asB)
    (sSet 1 (eM (eM (eB (aCons (eM (eSl (eVar 0) (eB (eC (.int 5)) asI) (eB (eC (.int 35)) asI)) viewD) aNil) (m 10)) viewD) Ow.d))
    sSkip)
    (sSeq (sSet 1 (eM (eM (eB (aCons (eVar 1) (aCons (eBin gMod (eM (eB (aCons (eVar 0) (aCons (eC (.int 1)) aNil)) (m 8)) viewD) (eC (.int 5))) (aCons (eM (eB (aCons (eVar 0) (aCons (eC (.int 2)) aNil)) (m 8)) viewD) (aCons (eM (eB (aCons (eM (eB (aCons (eVar 0) (aCons (eC (.int 3)) aNil)) (m 8)) viewD) aNil) (m 9)) viewD) aNil)))) (m 11)) viewD) Ow.d))
    (sSeq (sSet 3 (eM (eTup (aCons (eC (.str "told")) (aCons (eM (eB (aCons (eVar 1) aNil) (m 12)) viewD) aNil))) Ow.d))
    (sSeq (sIf (eB (eBin gIsN (eBin gIx (eVar 3) (eC (.int 1))) (eC .none)) asB)
    (sSet 3 (eM (eTup (aCons (eC (.str "refused")) (aCons (eC (.bool true)) aNil))) Ow.d))
    sSkip)
    (sSeq (sIf (tOrE (eB (eBin gNe (eM (eB (aCons (eJoin (eC (.str " ")) (eVar 1)) aNil) (m 13)) viewD) (eVar 3)) asB) (eB (eBin gNe (eM (eB (aCons (eJoin (eC (.str " ")) (eVar 1)) aNil) (m 13)) viewD) (eVar 3)) asB))
    (sRet (eM (eC (.bool false)) Ow.d))
    sSkip)
    (sSeq (sAsg (gtTup 2 (gtCons (gtName 4) (gtCons (gtName 5) gtNil))) (eM (eB (aCons (eM (eB (aCons (eVar 0) (aCons (eC (.int 4)) aNil)) (m 8)) viewD) aNil) (m 14)) viewD))
    (sSeq (sSet 6 (eM (eM (eBinO gAdd (eBin gMulZ (eC (.str "a(")) (eBin gSub (eVar 4) (eC (.int 1)))) (eC (.str "a"))) viewD) Ow.d))
    (sSeq (sIf (eB (eBin gGt (eVar 5) (eC (.int 0))) asB)
    (sSet 6 (eM (eM (eBinO gAdd (eB (eBinO gAdd (eB (eBinO gAdd (eVar 6) (eC (.str "("))) shD) (eJoin (eC (.str " ")) (eB (eRep (eLst (aCons (eC (.str "b")) aNil)) (eVar 5)) shD))) shD) (eC (.str ")"))) viewD) Ow.d))
    sSkip)
    (sSeq (sSet 7 (eM (eM (eB (aCons (eM (eBinO gAdd (eVar 6) (eBin gMulZ (eC (.str ")")) (eBin gSub (eVar 4) (eC (.int 1))))) viewD) aNil) (m 13)) viewD) Ow.d))
    (sSeq (sIf (tOrE (eB (eBin gGt (eM (eBinO gAdd (eVar 4) (eB (eCa gInt (aCons (eBin gGt (eVar 5) (eC (.int 0))) aNil)) shD)) viewD) (eC (.int 40))) asB) (eB (eBin gGt (eM (eBinO gAdd (eVar 4) (eVar 5)) viewD) (eC (.int 200))) asB))
    (sRet (eM (eBin gEq (eVar 7) (eTup (aCons (eC (.str "refused")) (aCons (eC (.bool true)) aNil)))) Ow.d))
    sSkip)
    (sSeq (sSet 8 (eM (eTup (aCons (eC (.str "a")) (aCons (eC (.int 0)) (aCons (eM (eBinO gRepZ (eTup (aCons (eTup (aCons (eC (.str "b")) (aCons (eC (.int 0)) (aCons (eTup aNil) aNil)))) aNil)) (eVar 5)) viewD) aNil)))) Ow.d))
    (sSeq (sFor (eB (aCons (eBin gSub (eVar 4) (eC (.int 1))) aNil) rg1) (gtName 9)
    (sSet 8 (eM (eTup (aCons (eC (.str "a")) (aCons (eC (.int 0)) (aCons (eTup (aCons (eVar 8) aNil)) aNil)))) Ow.d)))
    (sRet (eM (eBin gEq (eVar 7) (eTup (aCons (eC (.str "told")) (aCons (eVar 8) aNil)))) Ow.d)))))))))))))))) (envOf 9 ds)) := runB_fin _ _ _
abbrev N_size : List Str := ["tree", "total", "branch"]
theorem sc_size : FnScope N_size ["tree"] (defScope s_size) := ⟨rfl, rfl, rfl, by decide +kernel, rfl, by decide +kernel, by decide +kernel⟩
abbrev N_run_end : List Str := ["text", "start", "signs", "end"]
theorem sc_run_end : FnScope N_run_end ["text", "start", "signs"] (defScope s_run_end) := ⟨rfl, rfl, rfl, by decide +kernel, rfl, by decide +kernel, by decide +kernel⟩
abbrev N_word_end : List Str := ["text", "start", "end", "first"]
theorem sc_word_end : FnScope N_word_end ["text", "start"] (defScope s_word_end) := ⟨rfl, rfl, rfl, by decide +kernel, rfl, by decide +kernel, by decide +kernel⟩
abbrev N_words : List Str := ["text", "found", "here", "end"]
theorem sc_words : FnScope N_words ["text"] (defScope s_words) := ⟨rfl, rfl, rfl, by decide +kernel, rfl, by decide +kernel, by decide +kernel⟩
abbrev N_is_name : List Str := ["word"]
theorem sc_is_name : FnScope N_is_name ["word"] (defScope s_is_name) := ⟨rfl, rfl, rfl, by decide +kernel, rfl, by decide +kernel, by decide +kernel⟩
abbrev N_is_number : List Str := ["word"]
theorem sc_is_number : FnScope N_is_number ["word"] (defScope s_is_number) := ⟨rfl, rfl, rfl, by decide +kernel, rfl, by decide +kernel, by decide +kernel⟩
abbrev N_tree_at : List Str := ["row", "here", "level", "name", "mark", "branches", "branch"]
theorem sc_tree_at : FnScope N_tree_at ["row", "here", "level"] (defScope s_tree_at) := ⟨rfl, rfl, rfl, by decide +kernel, rfl, by decide +kernel, by decide +kernel⟩
abbrev N_read_tree : List Str := ["text", "row", "tree", "end"]
theorem sc_read_tree : FnScope N_read_tree ["text"] (defScope s_read_tree) := ⟨rfl, rfl, rfl, by decide +kernel, rfl, by decide +kernel, by decide +kernel⟩
abbrev N__law_cell_at : List Str := ["_law_script", "_law_k"]
theorem sc__law_cell_at : FnScope N__law_cell_at ["_law_script", "_law_k"] (defScope s__law_cell_at) := ⟨rfl, rfl, rfl, by decide +kernel, rfl, by decide +kernel, by decide +kernel⟩
abbrev N__law_word_by : List Str := ["_law_cell", "_law_number"]
theorem sc__law_word_by : FnScope N__law_word_by ["_law_cell"] (defScope s__law_word_by) := ⟨rfl, rfl, rfl, by decide +kernel, rfl, by decide +kernel, by decide +kernel⟩
abbrev N__law_tree_words : List Str := ["_law_cells", "_law_ups", "_law_below", "_law_cell", "_law_number", "_law_row", "_law_k"]
theorem sc__law_tree_words : FnScope N__law_tree_words ["_law_cells"] (defScope s__law_tree_words) := ⟨rfl, rfl, rfl, by decide +kernel, rfl, by decide +kernel, by decide +kernel⟩
abbrev N__law_spoilt : List Str := ["_law_row", "_law_way", "_law_there", "_law_word", "_law_after"]
theorem sc__law_spoilt : FnScope N__law_spoilt ["_law_row", "_law_way", "_law_there", "_law_word"] (defScope s__law_spoilt) := ⟨rfl, rfl, rfl, by decide +kernel, rfl, by decide +kernel, by decide +kernel⟩
abbrev N__law_tree : List Str := ["_law_row", "_law_heads", "_law_parts", "_law_k", "_law_mark", "_law_name", "_law_branches", "_law_head"]
theorem sc__law_tree : FnScope N__law_tree ["_law_row"] (defScope s__law_tree) := ⟨rfl, rfl, rfl, by decide +kernel, rfl, by decide +kernel, by decide +kernel⟩
abbrev N__law_told : List Str := ["_law_text", "_law_error", "_law_found", "e"]
theorem sc__law_told : FnScope N__law_told ["_law_text"] (defScope s__law_told) := ⟨rfl, rfl, rfl, by decide +kernel, rfl, by decide +kernel, by decide +kernel⟩
abbrev N__law_great : List Str := ["_law_cell", "_law_number", "_law_deep", "_law_wide"]
theorem sc__law_great : FnScope N__law_great ["_law_cell"] (defScope s__law_great) := ⟨rfl, rfl, rfl, by decide +kernel, rfl, by decide +kernel, by decide +kernel⟩
abbrev N_law : List Str := ["_law_script", "_law_row", "_law_cell", "_law_due", "_law_deep", "_law_wide", "_law_text", "_law_found", "_law_tree_here", "_law_k"]
theorem sc_law : FnScope N_law ["_law_script"] (defScope s_law) := ⟨rfl, rfl, rfl, by decide +kernel, rfl, by decide +kernel, by decide +kernel⟩
structure Txt (K : PySem.W.Frag) (mg : Str → Option Value) (f : Nat → Addr) (fd : Nat → FuncData) (cl : Nat → Addr) : Prop where
  F_size : Fun K "size" "size" s_size (f 0) (fd 0)
  B_size : Binds K (fd 0) ["tree"] []
  M_size : mg "size" = some (.ref (f 0))
  F_run_end : Fun K "run_end" "run_end" s_run_end (f 1) (fd 1)
  B_run_end : Binds K (fd 1) ["text", "start", "signs"] []
  M_run_end : mg "run_end" = some (.ref (f 1))
  F_word_end : Fun K "word_end" "word_end" s_word_end (f 2) (fd 2)
  B_word_end : Binds K (fd 2) ["text", "start"] []
  M_word_end : mg "word_end" = some (.ref (f 2))
  F_words : Fun K "words" "words" s_words (f 3) (fd 3)
  B_words : Binds K (fd 3) ["text"] []
  M_words : mg "words" = some (.ref (f 3))
  F_is_name : Fun K "is_name" "is_name" s_is_name (f 4) (fd 4)
  B_is_name : Binds K (fd 4) ["word"] []
  M_is_name : mg "is_name" = some (.ref (f 4))
  F_is_number : Fun K "is_number" "is_number" s_is_number (f 5) (fd 5)
  B_is_number : Binds K (fd 5) ["word"] []
  M_is_number : mg "is_number" = some (.ref (f 5))
  F_tree_at : Fun K "tree_at" "tree_at" s_tree_at (f 6) (fd 6)
  B_tree_at : Binds K (fd 6) ["row", "here", "level"] []
  M_tree_at : mg "tree_at" = some (.ref (f 6))
  F_read_tree : Fun K "read_tree" "read_tree" s_read_tree (f 7) (fd 7)
  B_read_tree : Binds K (fd 7) ["text"] []
  M_read_tree : mg "read_tree" = some (.ref (f 7))
  F__law_cell_at : Fun K "_law_cell_at" "_law_cell_at" s__law_cell_at (f 8) (fd 8)
  B__law_cell_at : Binds K (fd 8) ["_law_script", "_law_k"] []
  M__law_cell_at : mg "_law_cell_at" = some (.ref (f 8))
  F__law_word_by : Fun K "_law_word_by" "_law_word_by" s__law_word_by (f 9) (fd 9)
  B__law_word_by : Binds K (fd 9) ["_law_cell"] []
  M__law_word_by : mg "_law_word_by" = some (.ref (f 9))
  F__law_tree_words : Fun K "_law_tree_words" "_law_tree_words" s__law_tree_words (f 10) (fd 10)
  B__law_tree_words : Binds K (fd 10) ["_law_cells"] []
  M__law_tree_words : mg "_law_tree_words" = some (.ref (f 10))
  F__law_spoilt : Fun K "_law_spoilt" "_law_spoilt" s__law_spoilt (f 11) (fd 11)
  B__law_spoilt : Binds K (fd 11) ["_law_row", "_law_way", "_law_there", "_law_word"] []
  M__law_spoilt : mg "_law_spoilt" = some (.ref (f 11))
  F__law_tree : Fun K "_law_tree" "_law_tree" s__law_tree (f 12) (fd 12)
  B__law_tree : Binds K (fd 12) ["_law_row"] []
  M__law_tree : mg "_law_tree" = some (.ref (f 12))
  F__law_told : Fun K "_law_told" "_law_told" s__law_told (f 13) (fd 13)
  B__law_told : Binds K (fd 13) ["_law_text"] []
  M__law_told : mg "_law_told" = some (.ref (f 13))
  F__law_great : Fun K "_law_great" "_law_great" s__law_great (f 14) (fd 14)
  B__law_great : Binds K (fd 14) ["_law_cell"] []
  M__law_great : mg "_law_great" = some (.ref (f 14))
  F_law : Fun K "law" "law" s_law (f 15) (fd 15)
  B_law : Binds K (fd 15) ["_law_script"] []
  M_law : mg "law" = some (.ref (f 15))
  z_ValueError : mg "ValueError" = none
  z_int : mg "int" = none
  z_isinstance : mg "isinstance" = none
  z_len : mg "len" = none
  z_max : mg "max" = none
  z_range : mg "range" = none
  z_str : mg "str" = none
  z_tuple : mg "tuple" = none
  k_FIGURES : ∃ u, mg "FIGURES" = some u ∧ RelV (.str "0123456789") u
  k_LETTERS : ∃ u, mg "LETTERS" = some u ∧ RelV (.str "abcdefghijklmnopqrstuvwxyz") u
  k_SIGNS : ∃ u, mg "SIGNS" = some u ∧ RelV (.str "();:=|*") u
  cn_NoText : PySem.W.nsIn K PySem.mainGlobals "NoText" = some (some (.ref (cl 0)))
  cg_NoText : mg "NoText" = some (.ref (cl 0))
  cx_NoText : ExcT K mg "NoText" (cl 0)
  cc_NoText : ExcC K (cl 0)
  cg_TurnError : mg "TurnError" = some (.ref (cl 1))
  ci_NoText_ValueError : PySem.W.kitOne K (.ref (cl 0)) (.type "ValueError") = some true
  ci_NoText_TurnError : PySem.W.kitOne K (.ref (cl 0)) (.ref (cl 1)) = some true
  cm_NoText_NoText : PySem.W.exmOne K (.ref (cl 0)) (.ref (cl 0)) = some true
  kn_ValueError : PySem.W.kitOne K (.type "NoneType") (.type "ValueError") = some false
  kn_TurnError : PySem.W.kitOne K (.type "NoneType") (.ref (cl 1)) = some false
structure Fns (P : Program) (w : World) (K : PySem.W.Frag) (mg : Str → Option Value) (base : Heap) (f : Nat → Addr) (fd : Nat → FuncData) (n : Nat) : Prop where
  g_size : FnOk P w K mg base (L2.CX P w) n (f 0) (fd 0) ["tree"] (spM ⟨K, w⟩ mg 1 (mir n 0))
  g_run_end : FnOk P w K mg base (L2.CX P w) n (f 1) (fd 1) ["text", "start", "signs"] (spM ⟨K, w⟩ mg 3 (mir n 1))
  g_word_end : FnOk P w K mg base (L2.CX P w) n (f 2) (fd 2) ["text", "start"] (spM ⟨K, w⟩ mg 2 (mir n 2))
  g_words : FnOk P w K mg base (L2.CX P w) n (f 3) (fd 3) ["text"] (spM ⟨K, w⟩ mg 1 (mir n 3))
  g_is_name : FnOk P w K mg base (L2.CX P w) n (f 4) (fd 4) ["word"] (spM ⟨K, w⟩ mg 1 (mir n 4))
  g_is_number : FnOk P w K mg base (L2.CX P w) n (f 5) (fd 5) ["word"] (spM ⟨K, w⟩ mg 1 (mir n 5))
  g_tree_at : FnOk P w K mg base (L2.CX P w) n (f 6) (fd 6) ["row", "here", "level"] (spM ⟨K, w⟩ mg 3 (mir n 6))
  g_read_tree : FnOk P w K mg base (L2.CX P w) n (f 7) (fd 7) ["text"] (spM ⟨K, w⟩ mg 1 (mir n 7))
  g__law_cell_at : FnOk P w K mg base (L2.CX P w) n (f 8) (fd 8) ["_law_script", "_law_k"] (spM ⟨K, w⟩ mg 2 (mir n 8))
  g__law_word_by : FnOk P w K mg base (L2.CX P w) n (f 9) (fd 9) ["_law_cell"] (spM ⟨K, w⟩ mg 1 (mir n 9))
  g__law_tree_words : FnOk P w K mg base (L2.CX P w) n (f 10) (fd 10) ["_law_cells"] (spM ⟨K, w⟩ mg 1 (mir n 10))
  g__law_spoilt : FnOk P w K mg base (L2.CX P w) n (f 11) (fd 11) ["_law_row", "_law_way", "_law_there", "_law_word"] (spM ⟨K, w⟩ mg 4 (mir n 11))
  g__law_tree : FnOk P w K mg base (L2.CX P w) n (f 12) (fd 12) ["_law_row"] (spM ⟨K, w⟩ mg 1 (mir n 12))
  g__law_told : FnOk P w K mg base (L2.CX P w) n (f 13) (fd 13) ["_law_text"] (spM ⟨K, w⟩ mg 1 (mir n 13))
  g__law_great : FnOk P w K mg base (L2.CX P w) n (f 14) (fd 14) ["_law_cell"] (spM ⟨K, w⟩ mg 1 (mir n 14))
  g_law : FnOk P w K mg base (L2.CX P w) n (f 15) (fd 15) ["_law_script"] (spM ⟨K, w⟩ mg 1 (mir n 15))
section
variable {P : Program} {w : World} {K : PySem.W.Frag} {mg : Str → Option Value} {base : Heap} {f : Nat → Addr} {fd : Nat → FuncData} {cl : Nat → Addr} {n : Nat}
theorem ok_size (T : Txt K mg f fd cl) (G : Fns P w K mg base f fd n) : FnOk P w K mg base (L2.CX P w) (n + 1) (f 0) (fd 0) ["tree"] (spM ⟨K, w⟩ mg 1 (mir (n + 1) 0)) :=
  mk_fn (l := 2) (fb := b_size (mir n)) T.F_size sc_size rfl (fun _ => rfl) fun cdv A outer s H E hr =>
    (dss_cons (ds_set 1 sc_size.nd (de_df df_int))
    (dss_cons (ds_for (ix := [2]) (passes_of rfl) rfl (di_seq (df_ix (dl_df (df_var 0)) (dv_df df_int))) (dg_name 2 sc_size.nd)
    (dss_one (ds_aug 1 iop_addA opS_addA sc_size.nd (dv_de (de_call G.g_size (takes_of rfl rfl rfl rfl) hr rfl T.M_size T.F_size.kp T.B_size (da_cons (df_var 2) da_nil) (aCons_len (fun _ _ h => aNil_len h)))))))
    (dss_one (ds_ret (de_df (df_var 1))))))
theorem ok_run_end (T : Txt K mg f fd cl) (G : Fns P w K mg base f fd n) : FnOk P w K mg base (L2.CX P w) (n + 1) (f 1) (fd 1) ["text", "start", "signs"] (spM ⟨K, w⟩ mg 3 (mir (n + 1) 1)) :=
  mk_fn (l := 1) (fb := b_run_end (mir n)) T.F_run_end sc_run_end rfl (fun _ => rfl) fun cdv A outer s H E hr =>
    (dss_cons (ds_set 3 sc_run_end.nd (de_df (df_var 1)))
    (dss_cons (ds_while 1000000 (passes_of rfl) (dt_dw (dw_and (dt_lt (dv_df (df_var 3)) (dv_de (de_len rfl T.z_len (dal_cons (dl_df (df_var 0)) dal_nil)))) (dw_and1 (dt_in (room_eq hr) (dv_df (df_ix (dl_df (df_var 0)) (dv_df (df_var 3)))) (dv_df (df_var 2))))))
    (dss_one (ds_aug 3 iop_addA opS_addA sc_run_end.nd (dv_df df_int))))
    (dss_one (ds_ret (de_df (df_var 3))))))
theorem ok_word_end (T : Txt K mg f fd cl) (G : Fns P w K mg base f fd n) : FnOk P w K mg base (L2.CX P w) (n + 1) (f 2) (fd 2) ["text", "start"] (spM ⟨K, w⟩ mg 2 (mir (n + 1) 2)) :=
  mk_fn (l := 2) (fb := b_word_end (mir n)) T.F_word_end sc_word_end rfl (fun _ => rfl) fun cdv A outer s H E hr =>
    (dss_cons (ds_if (dt_in (room_eq hr) (dv_df (df_ix (dl_df (df_var 0)) (dv_df (df_var 1)))) (dv_df (df_gstr rfl T.k_SIGNS.choose_spec.1 T.k_SIGNS.choose_spec.2)))
    (dss_one (ds_ret (de_add (dl_df (df_var 1)) (dl_df df_int))))
    dss_nil)
    (dss_cons (ds_set 2 sc_word_end.nd (de_df (df_de (de_call G.g_run_end (takes_of rfl rfl rfl rfl) hr rfl T.M_run_end T.F_run_end.kp T.B_run_end (da_cons (df_var 0) (da_cons (df_var 1) (da_cons (df_gstr rfl T.k_LETTERS.choose_spec.1 T.k_LETTERS.choose_spec.2) da_nil))) (aCons_len (aCons_len (aCons_len (fun _ _ h => aNil_len h))))))))
    (dss_cons (ds_if (dt_gt (dv_df (df_var 2)) (dv_df (df_var 1)))
    (dss_cons (ds_if (dt_gt (dv_df (df_sub (dv_df (df_var 2)) (dv_df (df_var 1)))) (dv_df df_int))
    (dss_one (ds_raise rfl (takes_of rfl rfl rfl rfl) T.cx_NoText rfl))
    dss_nil)
    (dss_one (ds_ret (de_df (df_var 2)))))
    dss_nil)
    (dss_cons (ds_set 3 sc_word_end.nd (de_df (df_de (de_add (dl_df (df_var 1)) (dl_de (de_int rfl T.z_int (dal_cons (dl_df (df_eq (room_eq hr) (dv_df (df_ix (dl_df (df_var 0)) (dv_df (df_var 1)))) (dv_df df_str))) dal_nil)))))))
    (dss_cons (ds_set 2 sc_word_end.nd (de_df (df_de (de_call G.g_run_end (takes_of rfl rfl rfl rfl) hr rfl T.M_run_end T.F_run_end.kp T.B_run_end (da_cons (df_var 0) (da_cons (df_var 3) (da_cons (df_gstr rfl T.k_FIGURES.choose_spec.1 T.k_FIGURES.choose_spec.2) da_nil))) (aCons_len (aCons_len (aCons_len (fun _ _ h => aNil_len h))))))))
    (dss_cons (ds_if (dt_dw (dw_or (dt_eq (room_eq hr) (dv_df (df_var 2)) (dv_df (df_var 3))) (dw_or1 (dt_gt (dv_df (df_sub (dv_df (df_var 2)) (dv_df (df_var 3)))) (dv_df df_int)))))
    (dss_one (ds_raise rfl (takes_of rfl rfl rfl rfl) T.cx_NoText rfl))
    dss_nil)
    (dss_cons (ds_if (dt_dw (dw_and (dt_eq (room_eq hr) (dv_df (df_ix (dl_df (df_var 0)) (dv_df (df_var 3)))) (dv_df df_str)) (dw_and1 (dt_dw (dw_or (dt_gt (dv_df (df_sub (dv_df (df_var 2)) (dv_df (df_var 3)))) (dv_df df_int)) (dw_or1 (dt_gt (dv_df (df_var 3)) (dv_df (df_var 1)))))))))
    (dss_one (ds_raise rfl (takes_of rfl rfl rfl rfl) T.cx_NoText rfl))
    dss_nil)
    (dss_one (ds_ret (de_df (df_var 2)))))))))))
theorem ok_words (T : Txt K mg f fd cl) (G : Fns P w K mg base f fd n) : FnOk P w K mg base (L2.CX P w) (n + 1) (f 3) (fd 3) ["text"] (spM ⟨K, w⟩ mg 1 (mir (n + 1) 3)) :=
  mk_fn (l := 3) (fb := b_words (mir n)) T.F_words sc_words rfl (fun _ => rfl) fun cdv A outer s H E hr =>
    (dss_cons (ds_if (dt_not (dt_val (dv_df (df_isi (dv_df (df_var 0)) rfl T.z_isinstance rfl T.z_str rfl))))
    (dss_one (ds_raise rfl (takes_of rfl rfl rfl rfl) T.cx_NoText rfl))
    dss_nil)
    (dss_cons (ds_set 1 sc_words.nd (de_lst da_nil))
    (dss_cons (ds_set 2 sc_words.nd (de_df df_int))
    (dss_cons (ds_while 1000000 (passes_of rfl) (dt_lt (dv_df (df_var 2)) (dv_de (de_len rfl T.z_len (dal_cons (dl_df (df_var 0)) dal_nil))))
    (dss_cons (ds_if (dt_eq (room_eq hr) (dv_df (df_ix (dl_df (df_var 0)) (dv_df (df_var 2)))) (dv_df df_str))
    (dss_cons (ds_aug 2 iop_addA opS_addA sc_words.nd (dv_df df_int))
    (dss_one ds_cont))
    dss_nil)
    (dss_cons (ds_set 3 sc_words.nd (de_df (df_de (de_call G.g_word_end (takes_of rfl rfl rfl rfl) hr rfl T.M_word_end T.F_word_end.kp T.B_word_end (da_cons (df_var 0) (da_cons (df_var 2) da_nil)) (aCons_len (aCons_len (fun _ _ h => aNil_len h)))))))
    (dss_cons (ds_app 1 (de_slice (dl_df (df_var 0)) (do_some (dv_df (df_var 2))) (do_some (dv_df (df_var 3)))))
    (dss_one (ds_set 2 sc_words.nd (de_df (df_var 3))))))))
    (dss_one (ds_retV 1))))))
theorem ok_is_name (T : Txt K mg f fd cl) (G : Fns P w K mg base f fd n) : FnOk P w K mg base (L2.CX P w) (n + 1) (f 4) (fd 4) ["word"] (spM ⟨K, w⟩ mg 1 (mir (n + 1) 4)) :=
  mk_fn (l := 0) (fb := b_is_name (mir n)) T.F_is_name sc_is_name rfl (fun _ => rfl) fun cdv A outer s H E hr =>
    (dss_one (ds_ret (de_df (df_in (room_eq hr) (dv_df (df_ix (dl_df (df_var 0)) (dv_df df_int))) (dv_df (df_gstr rfl T.k_LETTERS.choose_spec.1 T.k_LETTERS.choose_spec.2))))))
theorem ok_is_number (T : Txt K mg f fd cl) (G : Fns P w K mg base f fd n) : FnOk P w K mg base (L2.CX P w) (n + 1) (f 5) (fd 5) ["word"] (spM ⟨K, w⟩ mg 1 (mir (n + 1) 5)) :=
  mk_fn (l := 0) (fb := b_is_number (mir n)) T.F_is_number sc_is_number rfl (fun _ => rfl) fun cdv A outer s H E hr =>
    (dss_one (ds_ret (de_df (df_in (room_eq hr) (dv_df (df_ix (dl_df (df_var 0)) (dv_df (df_neg (dv_df df_int))))) (dv_df (df_gstr rfl T.k_FIGURES.choose_spec.1 T.k_FIGURES.choose_spec.2))))))
theorem ok_tree_at (T : Txt K mg f fd cl) (G : Fns P w K mg base f fd n) : FnOk P w K mg base (L2.CX P w) (n + 1) (f 6) (fd 6) ["row", "here", "level"] (spM ⟨K, w⟩ mg 3 (mir (n + 1) 6)) :=
  mk_fn (l := 4) (fb := b_tree_at (mir n)) T.F_tree_at sc_tree_at rfl (fun _ => rfl) fun cdv A outer s H E hr =>
    (dss_cons (ds_if (dt_dw (dw_or (dt_gt (dv_df (df_var 2)) (dv_df df_int)) (dw_or (dt_ge (dv_df (df_var 1)) (dv_de (de_len rfl T.z_len (dal_cons (dl_df (df_var 0)) dal_nil)))) (dw_or1 (dt_not (dt_val (dv_de (de_call G.g_is_name (takes_of rfl rfl rfl rfl) hr rfl T.M_is_name T.F_is_name.kp T.B_is_name (da_cons (df_ix (dl_df (df_var 0)) (dv_df (df_var 1))) da_nil) (aCons_len (fun _ _ h => aNil_len h))))))))))
    (dss_one (ds_raise rfl (takes_of rfl rfl rfl rfl) T.cx_NoText rfl))
    dss_nil)
    (dss_cons (ds_set 3 sc_tree_at.nd (de_df (df_ix (dl_df (df_var 0)) (dv_df (df_var 1)))))
    (dss_cons (ds_aug 1 iop_addA opS_addA sc_tree_at.nd (dv_df df_int))
    (dss_cons (ds_set 4 sc_tree_at.nd (de_df df_int))
    (dss_cons (ds_if (dt_dw (dw_and (dt_lt (dv_df (df_var 1)) (dv_de (de_len rfl T.z_len (dal_cons (dl_df (df_var 0)) dal_nil)))) (dw_and1 (dt_val (dv_de (de_call G.g_is_number (takes_of rfl rfl rfl rfl) hr rfl T.M_is_number T.F_is_number.kp T.B_is_number (da_cons (df_ix (dl_df (df_var 0)) (dv_df (df_var 1))) da_nil) (aCons_len (fun _ _ h => aNil_len h))))))))
    (dss_cons (ds_set 4 sc_tree_at.nd (de_df (df_de (de_int rfl T.z_int (dal_cons (dl_df (df_ix (dl_df (df_var 0)) (dv_df (df_var 1)))) dal_nil)))))
    (dss_one (ds_aug 1 iop_addA opS_addA sc_tree_at.nd (dv_df df_int))))
    dss_nil)
    (dss_cons (ds_set 5 sc_tree_at.nd (de_lst da_nil))
    (dss_cons (ds_if (dt_dw (dw_and (dt_lt (dv_df (df_var 1)) (dv_de (de_len rfl T.z_len (dal_cons (dl_df (df_var 0)) dal_nil)))) (dw_and1 (dt_eq (room_eq hr) (dv_df (df_ix (dl_df (df_var 0)) (dv_df (df_var 1)))) (dv_df df_str)))))
    (dss_cons (ds_aug 1 iop_addA opS_addA sc_tree_at.nd (dv_df df_int))
    (dss_cons (ds_while 1000000 (passes_of rfl) (dt_dw (dw_or (dt_ge (dv_df (df_var 1)) (dv_de (de_len rfl T.z_len (dal_cons (dl_df (df_var 0)) dal_nil)))) (dw_or1 (dt_ne (room_eq hr) (dv_df (df_ix (dl_df (df_var 0)) (dv_df (df_var 1)))) (dv_df df_str)))))
    (dss_cons (ds_asg (ix := [6, 1]) (df_de (de_call G.g_tree_at (takes_of rfl rfl rfl rfl) hr rfl T.M_tree_at T.F_tree_at.kp T.B_tree_at (da_cons (df_var 0) (da_cons (df_var 1) (da_cons (df_de (de_add (dl_df (df_var 2)) (dl_df df_int))) da_nil))) (aCons_len (aCons_len (aCons_len (fun _ _ h => aNil_len h)))))) (dg_tup (n := 2) rfl (dgs_cons (dg_name 6 sc_tree_at.nd) (dgs_cons (dg_name 1 sc_tree_at.nd) dgs_nil))))
    (dss_one (ds_app 5 (de_df (df_var 6))))))
    (dss_cons (ds_if (dt_eq (room_eq hr) (dv_dp (dp_var 5)) (dv_de (de_lst da_nil)))
    (dss_one (ds_raise rfl (takes_of rfl rfl rfl rfl) T.cx_NoText rfl))
    dss_nil)
    (dss_one (ds_aug 1 iop_addA opS_addA sc_tree_at.nd (dv_df df_int))))))
    dss_nil)
    (dss_one (ds_ret (de_df (df_tup (da_cons (df_tup (da_cons (df_var 3) (da_cons (df_var 4) (da_cons (df_de (de_tuple rfl T.z_tuple (dal_cons (dl_dp (dp_var 5)) dal_nil))) da_nil)))) (da_cons (df_var 1) da_nil)))))))))))))
theorem ok_read_tree (T : Txt K mg f fd cl) (G : Fns P w K mg base f fd n) : FnOk P w K mg base (L2.CX P w) (n + 1) (f 7) (fd 7) ["text"] (spM ⟨K, w⟩ mg 1 (mir (n + 1) 7)) :=
  mk_fn (l := 3) (fb := b_read_tree (mir n)) T.F_read_tree sc_read_tree rfl (fun _ => rfl) fun cdv A outer s H E hr =>
    (dss_cons (ds_set 1 sc_read_tree.nd (de_df (df_de (de_call G.g_words (takes_of rfl rfl rfl rfl) hr rfl T.M_words T.F_words.kp T.B_words (da_cons (df_var 0) da_nil) (aCons_len (fun _ _ h => aNil_len h))))))
    (dss_cons (ds_asg (ix := [2, 3]) (df_de (de_call G.g_tree_at (takes_of rfl rfl rfl rfl) hr rfl T.M_tree_at T.F_tree_at.kp T.B_tree_at (da_cons (df_var 1) (da_cons df_int (da_cons df_int da_nil))) (aCons_len (aCons_len (aCons_len (fun _ _ h => aNil_len h)))))) (dg_tup (n := 2) rfl (dgs_cons (dg_name 2 sc_read_tree.nd) (dgs_cons (dg_name 3 sc_read_tree.nd) dgs_nil))))
    (dss_cons (ds_if (dt_dw (dw_or (dt_ne (room_eq hr) (dv_df (df_var 3)) (dv_de (de_len rfl T.z_len (dal_cons (dl_df (df_var 1)) dal_nil)))) (dw_or1 (dt_gt (dv_de (de_call G.g_size (takes_of rfl rfl rfl rfl) hr rfl T.M_size T.F_size.kp T.B_size (da_cons (df_var 2) da_nil) (aCons_len (fun _ _ h => aNil_len h)))) (dv_df df_int)))))
    (dss_one (ds_raise rfl (takes_of rfl rfl rfl rfl) T.cx_NoText rfl))
    dss_nil)
    (dss_one (ds_ret (de_df (df_var 2)))))))
theorem ok__law_cell_at (T : Txt K mg f fd cl) (G : Fns P w K mg base f fd n) : FnOk P w K mg base (L2.CX P w) (n + 1) (f 8) (fd 8) ["_law_script", "_law_k"] (spM ⟨K, w⟩ mg 2 (mir (n + 1) 8)) :=
  mk_fn (l := 0) (fb := b__law_cell_at (mir n)) T.F__law_cell_at sc__law_cell_at rfl (fun _ => rfl) fun cdv A outer s H E hr =>
    (dss_cons (ds_if (dt_lt (dv_df (df_var 1)) (dv_de (de_len rfl T.z_len (dal_cons (dl_df (df_var 0)) dal_nil))))
    (dss_one (ds_ret (de_df (df_ix (dl_df (df_var 0)) (dv_df (df_var 1))))))
    dss_nil)
    (dss_one (ds_ret (de_df df_int))))
theorem ok__law_word_by (T : Txt K mg f fd cl) (G : Fns P w K mg base f fd n) : FnOk P w K mg base (L2.CX P w) (n + 1) (f 9) (fd 9) ["_law_cell"] (spM ⟨K, w⟩ mg 1 (mir (n + 1) 9)) :=
  mk_fn (l := 1) (fb := b__law_word_by (mir n)) T.F__law_word_by sc__law_word_by rfl (fun _ => rfl) fun cdv A outer s H E hr =>
    (dss_cons (ds_set 1 sc__law_word_by.nd (de_df (df_mod (dv_df (df_var 0)) (dv_df (df_pow (dv_df df_int) (dv_df df_int))))))
    (dss_cons (ds_if (dt_eq (room_eq hr) (dv_df (df_mod (dv_df (df_var 1)) (dv_df df_int))) (dv_df df_int))
    (dss_one (ds_ret (de_df (df_mulZ (dv_df (df_ix (dl_df df_str) (dv_df (df_mod (dv_df (df_div (dv_df (df_var 1)) (dv_df df_int))) (dv_df df_int))))) (dv_df (df_ix (dl_de (de_lst (da_cons df_int (da_cons df_int da_nil)))) (dv_df (df_mod (dv_df (df_div (dv_df (df_var 1)) (dv_df df_int))) (dv_df df_int)))))))))
    dss_nil)
    (dss_cons (ds_if (dt_eq (room_eq hr) (dv_df (df_mod (dv_df (df_var 1)) (dv_df df_int))) (dv_df df_int))
    (dss_one (ds_ret (de_str rfl T.z_str (dal_cons (dl_df (df_mul (dv_df (df_mod (dv_df (df_div (dv_df (df_var 1)) (dv_df df_int))) (dv_df (df_pow (dv_df df_int) (dv_df df_int))))) (dv_df (df_ix (dl_de (de_lst (da_cons df_int (da_cons (df_neg (dv_df df_int)) da_nil)))) (dv_df (df_mod (dv_df (df_div (dv_df (df_var 1)) (dv_df df_int))) (dv_df df_int))))))) dal_nil))))
    dss_nil)
    (dss_one (ds_ret (de_df (df_ix (dl_df df_str) (dv_df (df_mod (dv_df (df_div (dv_df (df_var 1)) (dv_df df_int))) (dv_df df_int))))))))))
theorem ok__law_tree_words (T : Txt K mg f fd cl) (G : Fns P w K mg base f fd n) : FnOk P w K mg base (L2.CX P w) (n + 1) (f 10) (fd 10) ["_law_cells"] (spM ⟨K, w⟩ mg 1 (mir (n + 1) 10)) :=
  mk_fn (l := 6) (fb := b__law_tree_words (mir n)) T.F__law_tree_words sc__law_tree_words rfl (fun _ => rfl) fun cdv A outer s H E hr =>
    (dss_cons (ds_set 1 sc__law_tree_words.nd (de_lst da_nil))
    (dss_cons (ds_setLc 2 (own := [("_law_cell", 3)]) (ix := [3]) rfl sc__law_tree_words.nd (di_seq (df_var 0)) (blkOk_by (N := N__law_tree_words) (sc := defScope s__law_tree_words) (by decide +kernel)) (fun _ _ _ _ _ => (dg_name 3 sc__law_tree_words.nd)) (fun _ _ _ _ _ => dts_nil) (fun _ _ _ _ _ => (de_df (df_de (de_lst da_nil)))))
    (dss_cons (ds_for (ix := [3]) (passes_of rfl) rfl (di_seq (df_var 0)) (dg_name 3 sc__law_tree_words.nd)
    (dss_cons (ds_set 4 sc__law_tree_words.nd (de_df (df_mod (dv_df (df_var 3)) (dv_df (df_pow (dv_df df_int) (dv_df df_int))))))
    (dss_one (ds_app 1 (de_df (df_mod (dv_df (df_div (dv_df (df_var 4)) (dv_df df_int))) (dv_de (de_max2 rfl rfl T.z_max (dal_cons (dl_df df_int) (dal_cons (dl_de (de_len rfl T.z_len (dal_cons (dl_dp (dp_var 1)) dal_nil))) dal_nil))))))))))
    (dss_cons (ds_set 5 sc__law_tree_words.nd (de_lst da_nil))
    (dss_cons (ds_for (ix := [6]) (passes_of rfl) rfl (di_range3 rfl T.z_range (da_cons (df_sub (dv_de (de_len rfl T.z_len (dal_cons (dl_df (df_var 0)) dal_nil))) (dv_df df_int)) (da_cons (df_neg (dv_df df_int)) (da_cons (df_neg (dv_df df_int)) da_nil)))) (dg_name 6 sc__law_tree_words.nd)
    (dss_cons (ds_set 4 sc__law_tree_words.nd (de_df (df_mod (dv_df (df_ix (dl_df (df_var 0)) (dv_df (df_var 6)))) (dv_df (df_pow (dv_df df_int) (dv_df df_int))))))
    (dss_cons (ds_set 5 sc__law_tree_words.nd (de_lst (da_cons (df_ix (dl_df df_str) (dv_df (df_mod (dv_df (df_var 4)) (dv_df df_int)))) da_nil)))
    (dss_cons (ds_if (dt_eq (room_eq hr) (dv_df (df_mod (dv_df (df_div (dv_df (df_var 4)) (dv_df df_int))) (dv_df df_int))) (dv_df df_int))
    (dss_one (ds_app 5 (de_str rfl T.z_str (dal_cons (dl_df (df_sub (dv_df (df_mod (dv_df (df_div (dv_df (df_var 4)) (dv_df df_int))) (dv_df df_int))) (dv_df df_int))) dal_nil))))
    dss_nil)
    (dss_cons (ds_if (dt_ne (room_eq hr) (dv_df (df_ix (dl_dp (dp_var 2)) (dv_df (df_var 6)))) (dv_de (de_lst da_nil)))
    (dss_one (ds_set 5 sc__law_tree_words.nd (de_add (dl_de (de_add (dl_de (de_add (dl_dp (dp_var 5)) (dl_de (de_lst (da_cons df_str da_nil))))) (dl_df (df_ix (dl_dp (dp_var 2)) (dv_df (df_var 6)))))) (dl_de (de_lst (da_cons df_str da_nil))))))
    dss_nil)
    (dss_one (ds_put 2 (de_df (df_de (de_add (dl_dp (dp_var 5)) (dl_df (df_ix (dl_dp (dp_var 2)) (dv_df (df_ix (dl_dp (dp_var 1)) (dv_df (df_var 6))))))))) (df_ix (dl_dp (dp_var 1)) (dv_df (df_var 6))))))))))
    (dss_one (ds_retV 5)))))))
theorem ok__law_spoilt (T : Txt K mg f fd cl) (G : Fns P w K mg base f fd n) : FnOk P w K mg base (L2.CX P w) (n + 1) (f 11) (fd 11) ["_law_row", "_law_way", "_law_there", "_law_word"] (spM ⟨K, w⟩ mg 4 (mir (n + 1) 11)) :=
  mk_fn (l := 1) (fb := b__law_spoilt (mir n)) T.F__law_spoilt sc__law_spoilt rfl (fun _ => rfl) fun cdv A outer s H E hr =>
    (dss_cons (ds_if (dt_dw (dw_or (dt_eq (room_eq hr) (dv_df (df_var 0)) (dv_de (de_lst da_nil))) (dw_or1 (dt_eq (room_eq hr) (dv_df (df_var 1)) (dv_df df_int)))))
    (dss_one (ds_ret (de_df (df_var 0))))
    dss_nil)
    (dss_cons (ds_set 2 sc__law_spoilt.nd (de_df (df_mod (dv_df (df_var 2)) (dv_de (de_len rfl T.z_len (dal_cons (dl_df (df_var 0)) dal_nil))))))
    (dss_cons (ds_if (dt_eq (room_eq hr) (dv_df (df_var 1)) (dv_df df_int))
    (dss_one (ds_ret (de_add (dl_de (de_slice (dl_df (df_var 0)) do_none (do_some (dv_df (df_var 2))))) (dl_de (de_slice (dl_df (df_var 0)) (do_some (dv_de (de_add (dl_df (df_var 2)) (dl_df df_int)))) do_none)))))
    dss_nil)
    (dss_cons (ds_if (dt_eq (room_eq hr) (dv_df (df_var 1)) (dv_df df_int))
    (dss_one (ds_ret (de_add (dl_de (de_add (dl_de (de_slice (dl_df (df_var 0)) do_none (do_some (dv_df (df_var 2))))) (dl_de (de_lst (da_cons (df_var 3) da_nil))))) (dl_de (de_slice (dl_df (df_var 0)) (do_some (dv_df (df_var 2))) do_none)))))
    dss_nil)
    (dss_cons (ds_if (dt_eq (room_eq hr) (dv_df (df_var 1)) (dv_df df_int))
    (dss_one (ds_ret (de_add (dl_de (de_add (dl_de (de_slice (dl_df (df_var 0)) do_none (do_some (dv_df (df_var 2))))) (dl_de (de_lst (da_cons (df_ix (dl_df (df_var 0)) (dv_df (df_var 2))) da_nil))))) (dl_de (de_slice (dl_df (df_var 0)) (do_some (dv_df (df_var 2))) do_none)))))
    dss_nil)
    (dss_cons (ds_set 4 sc__law_spoilt.nd (de_df (df_de (de_add (dl_de (de_slice (dl_df (df_var 0)) (do_some (dv_de (de_add (dl_df (df_var 2)) (dl_df df_int)))) (do_some (dv_de (de_add (dl_df (df_var 2)) (dl_df df_int)))))) (dl_de (de_lst (da_cons (df_ix (dl_df (df_var 0)) (dv_df (df_var 2))) da_nil)))))))
    (dss_one (ds_ret (de_add (dl_de (de_add (dl_de (de_slice (dl_df (df_var 0)) do_none (do_some (dv_df (df_var 2))))) (dl_df (df_var 4)))) (dl_de (de_slice (dl_df (df_var 0)) (do_some (dv_de (de_add (dl_df (df_var 2)) (dl_df df_int)))) do_none)))))))))))
theorem ok__law_tree (T : Txt K mg f fd cl) (G : Fns P w K mg base f fd n) : FnOk P w K mg base (L2.CX P w) (n + 1) (f 12) (fd 12) ["_law_row"] (spM ⟨K, w⟩ mg 1 (mir (n + 1) 12)) :=
  mk_fn (l := 7) (fb := b__law_tree (mir n)) T.F__law_tree sc__law_tree rfl (fun _ => rfl) fun cdv A outer s H E hr =>
    (dss_cons (ds_set 1 sc__law_tree.nd (de_lst da_nil))
    (dss_cons (ds_set 2 sc__law_tree.nd (de_lstO (dao_cons (de_lst da_nil) dao_nil)))
    (dss_cons (ds_set 3 sc__law_tree.nd (de_df df_int))
    (dss_cons (ds_while 1000000 (passes_of rfl) (dt_lt (dv_df (df_var 3)) (dv_de (de_len rfl T.z_len (dal_cons (dl_df (df_var 0)) dal_nil))))
    (dss_one (ds_if (dt_in (room_eq hr) (dv_df (df_ix (dl_df (df_ix (dl_df (df_var 0)) (dv_df (df_var 3)))) (dv_df df_int))) (dv_df df_str))
    (dss_cons (ds_set 4 sc__law_tree.nd (de_df df_int))
    (dss_cons (ds_set 5 sc__law_tree.nd (de_df (df_ix (dl_df (df_var 0)) (dv_df (df_var 3)))))
    (dss_cons (ds_set 3 sc__law_tree.nd (de_df (df_de (de_add (dl_df (df_var 3)) (dl_df df_int)))))
    (dss_cons (ds_if (dt_dw (dw_and (dt_lt (dv_df (df_var 3)) (dv_de (de_len rfl T.z_len (dal_cons (dl_df (df_var 0)) dal_nil)))) (dw_and1 (dt_in (room_eq hr) (dv_df (df_ix (dl_df (df_ix (dl_df (df_var 0)) (dv_df (df_var 3)))) (dv_df (df_neg (dv_df df_int))))) (dv_df df_str)))))
    (dss_cons (ds_set 4 sc__law_tree.nd (de_df (df_de (de_int rfl T.z_int (dal_cons (dl_df (df_ix (dl_df (df_var 0)) (dv_df (df_var 3)))) dal_nil)))))
    (dss_one (ds_set 3 sc__law_tree.nd (de_df (df_de (de_add (dl_df (df_var 3)) (dl_df df_int)))))))
    dss_nil)
    (dss_one (ds_if (dt_dw (dw_and (dt_lt (dv_df (df_var 3)) (dv_de (de_len rfl T.z_len (dal_cons (dl_df (df_var 0)) dal_nil)))) (dw_and1 (dt_eq (room_eq hr) (dv_df (df_ix (dl_df (df_var 0)) (dv_df (df_var 3)))) (dv_df df_str)))))
    (dss_cons (ds_app 1 (de_df (df_tup (da_cons (df_var 5) (da_cons (df_var 4) da_nil)))))
    (dss_cons (ds_app 2 (de_lst da_nil))
    (dss_one (ds_set 3 sc__law_tree.nd (de_df (df_de (de_add (dl_df (df_var 3)) (dl_df df_int))))))))
    (dss_one (ds_app1 2 (dv_df (df_neg (dv_df df_int))) (de_df (df_tup (da_cons (df_var 5) (da_cons (df_var 4) (da_cons (df_tup da_nil) da_nil)))))))))))))
    (dss_one (ds_if (dt_dw (dw_and (dt_eq (room_eq hr) (dv_df (df_ix (dl_df (df_var 0)) (dv_df (df_var 3)))) (dv_df df_str)) (dw_and (dt_ne (room_eq hr) (dv_dp (dp_var 1)) (dv_de (de_lst da_nil))) (dw_and1 (dt_ne (room_eq hr) (dv_dp (dp_ix (dp_var 2) (dv_df (df_neg (dv_df df_int))))) (dv_de (de_lst da_nil)))))))
    (dss_cons (ds_xset 6 sc__law_tree.nd (xf_popF 2))
    (dss_cons (ds_xset 7 sc__law_tree.nd (xf_pop 1))
    (dss_cons (ds_app1 2 (dv_df (df_neg (dv_df df_int))) (de_df (df_tup (da_cons (df_ix (dl_df (df_var 7)) (dv_df df_int)) (da_cons (df_ix (dl_df (df_var 7)) (dv_df df_int)) (da_cons (df_de (de_tuple rfl T.z_tuple (dal_cons (dl_df (df_var 6)) dal_nil))) da_nil))))))
    (dss_one (ds_set 3 sc__law_tree.nd (de_df (df_de (de_add (dl_df (df_var 3)) (dl_df df_int)))))))))
    (dss_one (ds_ret (de_df df_non))))))))
    (dss_cons (ds_if (dt_dw (dw_or (dt_ne (room_eq hr) (dv_dp (dp_var 1)) (dv_de (de_lst da_nil))) (dw_or1 (dt_ne (room_eq hr) (dv_de (de_len rfl T.z_len (dal_cons (dl_dp (dp_ix (dp_var 2) (dv_df df_int))) dal_nil))) (dv_df df_int)))))
    (dss_one (ds_ret (de_df df_non)))
    dss_nil)
    (dss_one (ds_ret (de_df (df_ix (dl_dp (dp_ix (dp_var 2) (dv_df df_int))) (dv_df df_int))))))))))
theorem ok__law_told (T : Txt K mg f fd cl) (G : Fns P w K mg base f fd n) : FnOk P w K mg base (L2.CX P w) (n + 1) (f 13) (fd 13) ["_law_text"] (spM ⟨K, w⟩ mg 1 (mir (n + 1) 13)) :=
  mk_fn (l := 3) (fb := b__law_told (mir n)) T.F__law_told sc__law_told rfl (fun _ => rfl) fun cdv A outer s H E hr =>
    (dss_cons (ds_set 1 sc__law_told.nd (de_df df_non))
    (dss_cons (ds_set 2 sc__law_told.nd (de_df df_non))
    (dss_cons (ds_tryT (l := [("NoText", true)]) 3 rfl rfl rfl sc__law_told.nd rfl rfl rfl ⟨rfl, by decide, .inl T.cg_NoText⟩ (.cons ⟨T.cn_NoText, T.cg_NoText⟩ T.cm_NoText_NoText .nil) (takes_of rfl rfl rfl rfl) (fun W' pn xe tk po => (dss_one (ds_set 2 sc__law_told.nd (de_df (df_de (de_call G.g_read_tree tk hr rfl T.M_read_tree T.F_read_tree.kp T.B_read_tree (da_cons (df_var 0) da_nil) (aCons_len (fun _ _ h => aNil_len h)))))))) (fun a pn => (dss_one (ds_set 1 sc__law_told.nd (de_df (df_var 3))))))
    (dss_cons (ds_if (dt_isN (dv_df (df_var 1)) (dv_df df_non))
    (dss_one (ds_ret (de_df (df_tup (da_cons df_str (da_cons (df_var 2) da_nil))))))
    dss_nil)
    (dss_one (ds_ret (de_df (df_tup (da_cons df_str (da_cons (df_and (dv_df (df_isE (l := [("NoText", true)]) (dv_df (df_var 1)) rfl T.z_isinstance rfl T.cg_TurnError (.cons T.cn_NoText T.cc_NoText (kitAny_of1 T.ci_NoText_TurnError) .nil) T.kn_TurnError)) (df_one (df_isEB (l := [("NoText", true)]) (dv_df (df_var 1)) rfl T.z_isinstance rfl T.z_ValueError rfl (.cons T.cn_NoText T.cc_NoText (kitAny_of1 T.ci_NoText_ValueError) .nil) T.kn_ValueError))) da_nil))))))))))
theorem ok__law_great (T : Txt K mg f fd cl) (G : Fns P w K mg base f fd n) : FnOk P w K mg base (L2.CX P w) (n + 1) (f 14) (fd 14) ["_law_cell"] (spM ⟨K, w⟩ mg 1 (mir (n + 1) 14)) :=
  mk_fn (l := 3) (fb := b__law_great (mir n)) T.F__law_great sc__law_great rfl (fun _ => rfl) fun cdv A outer s H E hr =>
    (dss_cons (ds_set 1 sc__law_great.nd (de_df (df_mod (dv_df (df_var 0)) (dv_df (df_pow (dv_df df_int) (dv_df df_int))))))
    (dss_cons (ds_set 2 sc__law_great.nd (de_df (df_de (de_add (dl_df df_int) (dl_df (df_mod (dv_df (df_var 1)) (dv_df df_int)))))))
    (dss_cons (ds_set 3 sc__law_great.nd (de_df (df_mod (dv_df (df_div (dv_df (df_var 1)) (dv_df df_int))) (dv_df df_int))))
    (dss_cons (ds_if (dt_eq (room_eq hr) (dv_df (df_mod (dv_df (df_div (dv_df (df_var 1)) (dv_df df_int))) (dv_df df_int))) (dv_df df_int))
    (dss_one (ds_set 2 sc__law_great.nd (de_df (df_de (de_add (dl_df df_int) (dl_df (df_mod (dv_df (df_var 1)) (dv_df df_int))))))))
    dss_nil)
    (dss_cons (ds_if (dt_eq (room_eq hr) (dv_df (df_mod (dv_df (df_div (dv_df (df_var 1)) (dv_df df_int))) (dv_df df_int))) (dv_df df_int))
    (dss_one (ds_set 3 sc__law_great.nd (de_df (df_sub (dv_de (de_add (dl_df df_int) (dl_df (df_mod (dv_df (df_div (dv_df (df_var 1)) (dv_df df_int))) (dv_df df_int))))) (dv_df (df_var 2))))))
    dss_nil)
    (dss_one (ds_ret (de_df (df_tup (da_cons (df_var 2) (da_cons (df_var 3) da_nil)))))))))))
theorem ok_law (T : Txt K mg f fd cl) (G : Fns P w K mg base f fd n) : FnOk P w K mg base (L2.CX P w) (n + 1) (f 15) (fd 15) ["_law_script"] (spM ⟨K, w⟩ mg 1 (mir (n + 1) 15)) :=
  mk_fn (l := 9) (fb := b_law (mir n)) T.F_law sc_law rfl (fun _ => rfl) fun cdv A outer s H E hr =>
    (dss_cons (ds_setLcF 1 (own := [("_law_cell", 2)]) (ix := [2]) rfl sc_law.nd (di_seq (df_de (de_slice (dl_df (df_var 0)) (do_some (dv_df df_int)) (do_some (dv_df df_int))))) (blkOk_by (N := N_law) (sc := defScope s_law) (by decide +kernel)) (fun _ _ _ _ _ => (dg_name 2 sc_law.nd)) (fun _ _ _ _ _ => dts_nil) (fun _ _ _ _ _ => (de_call G.g__law_word_by takes0 hr rfl T.M__law_word_by T.F__law_word_by.kp T.B__law_word_by (da_cons (df_var 2) da_nil) (aCons_len (fun _ _ h => aNil_len h)))))
    (dss_cons (ds_if (dt_eq (room_eq hr) (dv_df (df_mod (dv_de (de_call G.g__law_cell_at (takes_of rfl rfl rfl rfl) hr rfl T.M__law_cell_at T.F__law_cell_at.kp T.B__law_cell_at (da_cons (df_var 0) (da_cons df_int da_nil)) (aCons_len (aCons_len (fun _ _ h => aNil_len h))))) (dv_df df_int))) (dv_df df_int))
    (dss_one (ds_set 1 sc_law.nd (de_df (df_de (de_call G.g__law_tree_words (takes_of rfl rfl rfl rfl) hr rfl T.M__law_tree_words T.F__law_tree_words.kp T.B__law_tree_words (da_cons (df_de (de_slice (dl_df (df_var 0)) (do_some (dv_df df_int)) (do_some (dv_df df_int)))) da_nil) (aCons_len (fun _ _ h => aNil_len h)))))))
    dss_nil)
    (dss_cons (ds_set 1 sc_law.nd (de_df (df_de (de_call G.g__law_spoilt (takes_of rfl rfl rfl rfl) hr rfl T.M__law_spoilt T.F__law_spoilt.kp T.B__law_spoilt (da_cons (df_var 1) (da_cons (df_mod (dv_de (de_call G.g__law_cell_at (takes_of rfl rfl rfl rfl) hr rfl T.M__law_cell_at T.F__law_cell_at.kp T.B__law_cell_at (da_cons (df_var 0) (da_cons df_int da_nil)) (aCons_len (aCons_len (fun _ _ h => aNil_len h))))) (dv_df df_int)) (da_cons (df_de (de_call G.g__law_cell_at (takes_of rfl rfl rfl rfl) hr rfl T.M__law_cell_at T.F__law_cell_at.kp T.B__law_cell_at (da_cons (df_var 0) (da_cons df_int da_nil)) (aCons_len (aCons_len (fun _ _ h => aNil_len h))))) (da_cons (df_de (de_call G.g__law_word_by (takes_of rfl rfl rfl rfl) hr rfl T.M__law_word_by T.F__law_word_by.kp T.B__law_word_by (da_cons (df_de (de_call G.g__law_cell_at (takes_of rfl rfl rfl rfl) hr rfl T.M__law_cell_at T.F__law_cell_at.kp T.B__law_cell_at (da_cons (df_var 0) (da_cons df_int da_nil)) (aCons_len (aCons_len (fun _ _ h => aNil_len h))))) da_nil) (aCons_len (fun _ _ h => aNil_len h)))) da_nil)))) (aCons_len (aCons_len (aCons_len (aCons_len (fun _ _ h => aNil_len h)))))))))
    (dss_cons (ds_set 3 sc_law.nd (de_df (df_tup (da_cons df_str (da_cons (df_de (de_call G.g__law_tree (takes_of rfl rfl rfl rfl) hr rfl T.M__law_tree T.F__law_tree.kp T.B__law_tree (da_cons (df_var 1) da_nil) (aCons_len (fun _ _ h => aNil_len h)))) da_nil)))))
    (dss_cons (ds_if (dt_isN (dv_df (df_ix (dl_df (df_var 3)) (dv_df df_int))) (dv_df df_non))
    (dss_one (ds_set 3 sc_law.nd (de_df (df_tup (da_cons df_str (da_cons df_bl da_nil))))))
    dss_nil)
    (dss_cons (ds_if (dt_dw (dw_or (dt_ne (room_eq hr) (dv_de (de_call G.g__law_told (takes_of rfl rfl rfl rfl) hr rfl T.M__law_told T.F__law_told.kp T.B__law_told (da_cons (df_join (dv_df df_str) (dl_df (df_var 1))) da_nil) (aCons_len (fun _ _ h => aNil_len h)))) (dv_df (df_var 3))) (dw_or1 (dt_ne (room_eq hr) (dv_de (de_call G.g__law_told (takes_of rfl rfl rfl rfl) hr rfl T.M__law_told T.F__law_told.kp T.B__law_told (da_cons (df_join (dv_df df_str) (dl_df (df_var 1))) da_nil) (aCons_len (fun _ _ h => aNil_len h)))) (dv_df (df_var 3))))))
    (dss_one (ds_ret (de_df df_bl)))
    dss_nil)
    (dss_cons (ds_asg (ix := [4, 5]) (df_de (de_call G.g__law_great (takes_of rfl rfl rfl rfl) hr rfl T.M__law_great T.F__law_great.kp T.B__law_great (da_cons (df_de (de_call G.g__law_cell_at (takes_of rfl rfl rfl rfl) hr rfl T.M__law_cell_at T.F__law_cell_at.kp T.B__law_cell_at (da_cons (df_var 0) (da_cons df_int da_nil)) (aCons_len (aCons_len (fun _ _ h => aNil_len h))))) da_nil) (aCons_len (fun _ _ h => aNil_len h)))) (dg_tup (n := 2) rfl (dgs_cons (dg_name 4 sc_law.nd) (dgs_cons (dg_name 5 sc_law.nd) dgs_nil))))
    (dss_cons (ds_set 6 sc_law.nd (de_df (df_de (de_add (dl_df (df_mulZ (dv_df df_str) (dv_df (df_sub (dv_df (df_var 4)) (dv_df df_int))))) (dl_df df_str)))))
    (dss_cons (ds_if (dt_gt (dv_df (df_var 5)) (dv_df df_int))
    (dss_one (ds_set 6 sc_law.nd (de_df (df_de (de_add (dl_de (de_add (dl_de (de_add (dl_df (df_var 6)) (dl_df df_str))) (dl_df (df_join (dv_df df_str) (dl_de (de_rep (de_lst (da_cons df_str da_nil)) (dv_df (df_var 5)))))))) (dl_df df_str))))))
    dss_nil)
    (dss_cons (ds_set 7 sc_law.nd (de_df (df_de (de_call G.g__law_told (takes_of rfl rfl rfl rfl) hr rfl T.M__law_told T.F__law_told.kp T.B__law_told (da_cons (df_de (de_add (dl_df (df_var 6)) (dl_df (df_mulZ (dv_df df_str) (dv_df (df_sub (dv_df (df_var 4)) (dv_df df_int))))))) da_nil) (aCons_len (fun _ _ h => aNil_len h))))))
    (dss_cons (ds_if (dt_dw (dw_or (dt_gt (dv_de (de_add (dl_df (df_var 4)) (dl_de (de_int rfl T.z_int (dal_cons (dl_df (df_gt (dv_df (df_var 5)) (dv_df df_int))) dal_nil))))) (dv_df df_int)) (dw_or1 (dt_gt (dv_de (de_add (dl_df (df_var 4)) (dl_df (df_var 5)))) (dv_df df_int)))))
    (dss_one (ds_ret (de_df (df_eq (room_eq hr) (dv_df (df_var 7)) (dv_df (df_tup (da_cons df_str (da_cons df_bl da_nil))))))))
    dss_nil)
    (dss_cons (ds_set 8 sc_law.nd (de_df (df_tup (da_cons df_str (da_cons df_int (da_cons (df_de (de_repZ (dl_df (df_tup (da_cons (df_tup (da_cons df_str (da_cons df_int (da_cons (df_tup da_nil) da_nil)))) da_nil))) (dl_df (df_var 5)))) da_nil))))))
    (dss_cons (ds_for (ix := [9]) (passes_of rfl) rfl (di_range1 rfl T.z_range (da_cons (df_sub (dv_df (df_var 4)) (dv_df df_int)) da_nil)) (dg_name 9 sc_law.nd)
    (dss_one (ds_set 8 sc_law.nd (de_df (df_tup (da_cons df_str (da_cons df_int (da_cons (df_tup (da_cons (df_var 8) da_nil)) da_nil))))))))
    (dss_one (ds_ret (de_df (df_eq (room_eq hr) (dv_df (df_var 7)) (dv_df (df_tup (da_cons df_str (da_cons (df_var 8) da_nil)))))))))))))))))))))
theorem fn_none {f : Addr} {fd : FuncData} {ps : List Str} {k i : Nat} : FnOk P w K mg base (L2.CX P w) 0 f fd ps (spM ⟨K, w⟩ mg k (mir 0 i)) := by
  have no : ∀ vs H Q E, ¬ spM ⟨K, w⟩ mg k (mir 0 i) vs H Q E := fun vs H Q E ⟨F, ds, _, _, _, h⟩ => h
  exact ⟨fun vs H Q E h => absurd h (no vs H Q E), fun A outer s H args us vs Q E _ _ _ _ h => absurd h (no vs H Q E)⟩
theorem all_fns (T : Txt K mg f fd cl) : ∀ n, Fns P w K mg base f fd n
  | 0 => ⟨fn_none, fn_none, fn_none, fn_none, fn_none, fn_none, fn_none, fn_none, fn_none, fn_none, fn_none, fn_none, fn_none, fn_none, fn_none, fn_none⟩
  | n + 1 => by
    have G := all_fns T n
    exact ⟨ok_size T G, ok_run_end T G, ok_word_end T G, ok_words T G, ok_is_name T G, ok_is_number T G, ok_tree_at T G, ok_read_tree T G, ok__law_cell_at T G, ok__law_word_by T G, ok__law_tree_words T G, ok__law_spoilt T G, ok__law_tree T G, ok__law_told T G, ok__law_great T G, ok_law T G⟩
end
def pick {α : Type} (z : α) : List α → Nat → α
  | [], _ => z
  | x :: _, 0 => x
  | _ :: xs, n + 1 => pick z xs n
theorem all_mk (L : Nat) {l : PySem.W.OpenLaw} {w : World} {K : PySem.W.Frag} {h : Heap} {mg : Str → Option Value} {fa : Addr} (X : K.In h) (G : h.Ns PySem.mainGlobals mg) (hfa : mg "law" = some (.ref fa))
    {od0 an0 : Option Addr} {sl0 : Array (Option Value)} {oc0 kV0 dc0 pm0 cd0 ct0 : Value} {f0 : Addr}
    (a0 : PySem.W.nsIn K PySem.mainGlobals "size" = some (some (.ref f0))) (l0 : K.lookup f0 = some ⟨oc0, od0, .func (PySem.W.fnOf "size" "size" (defArgs s_size) (defBody s_size) (defScope s_size) .none kV0 dc0 pm0 an0 cd0 ct0), sl0⟩) (c0 : PySem.W.codeIn K cd0 "size" = true) (k0 : PySem.W.keepIn K (.ref f0) = true)
    {od1 an1 : Option Addr} {sl1 : Array (Option Value)} {oc1 kV1 dc1 pm1 cd1 ct1 : Value} {f1 : Addr}
    (a1 : PySem.W.nsIn K PySem.mainGlobals "run_end" = some (some (.ref f1))) (l1 : K.lookup f1 = some ⟨oc1, od1, .func (PySem.W.fnOf "run_end" "run_end" (defArgs s_run_end) (defBody s_run_end) (defScope s_run_end) .none kV1 dc1 pm1 an1 cd1 ct1), sl1⟩) (c1 : PySem.W.codeIn K cd1 "run_end" = true) (k1 : PySem.W.keepIn K (.ref f1) = true)
    {od2 an2 : Option Addr} {sl2 : Array (Option Value)} {oc2 kV2 dc2 pm2 cd2 ct2 : Value} {f2 : Addr}
    (a2 : PySem.W.nsIn K PySem.mainGlobals "word_end" = some (some (.ref f2))) (l2 : K.lookup f2 = some ⟨oc2, od2, .func (PySem.W.fnOf "word_end" "word_end" (defArgs s_word_end) (defBody s_word_end) (defScope s_word_end) .none kV2 dc2 pm2 an2 cd2 ct2), sl2⟩) (c2 : PySem.W.codeIn K cd2 "word_end" = true) (k2 : PySem.W.keepIn K (.ref f2) = true)
    {od3 an3 : Option Addr} {sl3 : Array (Option Value)} {oc3 kV3 dc3 pm3 cd3 ct3 : Value} {f3 : Addr}
    (a3 : PySem.W.nsIn K PySem.mainGlobals "words" = some (some (.ref f3))) (l3 : K.lookup f3 = some ⟨oc3, od3, .func (PySem.W.fnOf "words" "words" (defArgs s_words) (defBody s_words) (defScope s_words) .none kV3 dc3 pm3 an3 cd3 ct3), sl3⟩) (c3 : PySem.W.codeIn K cd3 "words" = true) (k3 : PySem.W.keepIn K (.ref f3) = true)
    {od4 an4 : Option Addr} {sl4 : Array (Option Value)} {oc4 kV4 dc4 pm4 cd4 ct4 : Value} {f4 : Addr}
    (a4 : PySem.W.nsIn K PySem.mainGlobals "is_name" = some (some (.ref f4))) (l4 : K.lookup f4 = some ⟨oc4, od4, .func (PySem.W.fnOf "is_name" "is_name" (defArgs s_is_name) (defBody s_is_name) (defScope s_is_name) .none kV4 dc4 pm4 an4 cd4 ct4), sl4⟩) (c4 : PySem.W.codeIn K cd4 "is_name" = true) (k4 : PySem.W.keepIn K (.ref f4) = true)
    {od5 an5 : Option Addr} {sl5 : Array (Option Value)} {oc5 kV5 dc5 pm5 cd5 ct5 : Value} {f5 : Addr}
    (a5 : PySem.W.nsIn K PySem.mainGlobals "is_number" = some (some (.ref f5))) (l5 : K.lookup f5 = some ⟨oc5, od5, .func (PySem.W.fnOf "is_number" "is_number" (defArgs s_is_number) (defBody s_is_number) (defScope s_is_number) .none kV5 dc5 pm5 an5 cd5 ct5), sl5⟩) (c5 : PySem.W.codeIn K cd5 "is_number" = true) (k5 : PySem.W.keepIn K (.ref f5) = true)
    {od6 an6 : Option Addr} {sl6 : Array (Option Value)} {oc6 kV6 dc6 pm6 cd6 ct6 : Value} {f6 : Addr}
    (a6 : PySem.W.nsIn K PySem.mainGlobals "tree_at" = some (some (.ref f6))) (l6 : K.lookup f6 = some ⟨oc6, od6, .func (PySem.W.fnOf "tree_at" "tree_at" (defArgs s_tree_at) (defBody s_tree_at) (defScope s_tree_at) .none kV6 dc6 pm6 an6 cd6 ct6), sl6⟩) (c6 : PySem.W.codeIn K cd6 "tree_at" = true) (k6 : PySem.W.keepIn K (.ref f6) = true)
    {od7 an7 : Option Addr} {sl7 : Array (Option Value)} {oc7 kV7 dc7 pm7 cd7 ct7 : Value} {f7 : Addr}
    (a7 : PySem.W.nsIn K PySem.mainGlobals "read_tree" = some (some (.ref f7))) (l7 : K.lookup f7 = some ⟨oc7, od7, .func (PySem.W.fnOf "read_tree" "read_tree" (defArgs s_read_tree) (defBody s_read_tree) (defScope s_read_tree) .none kV7 dc7 pm7 an7 cd7 ct7), sl7⟩) (c7 : PySem.W.codeIn K cd7 "read_tree" = true) (k7 : PySem.W.keepIn K (.ref f7) = true)
    {od8 an8 : Option Addr} {sl8 : Array (Option Value)} {oc8 kV8 dc8 pm8 cd8 ct8 : Value} {f8 : Addr}
    (a8 : PySem.W.nsIn K PySem.mainGlobals "_law_cell_at" = some (some (.ref f8))) (l8 : K.lookup f8 = some ⟨oc8, od8, .func (PySem.W.fnOf "_law_cell_at" "_law_cell_at" (defArgs s__law_cell_at) (defBody s__law_cell_at) (defScope s__law_cell_at) .none kV8 dc8 pm8 an8 cd8 ct8), sl8⟩) (c8 : PySem.W.codeIn K cd8 "_law_cell_at" = true) (k8 : PySem.W.keepIn K (.ref f8) = true)
    {od9 an9 : Option Addr} {sl9 : Array (Option Value)} {oc9 kV9 dc9 pm9 cd9 ct9 : Value} {f9 : Addr}
    (a9 : PySem.W.nsIn K PySem.mainGlobals "_law_word_by" = some (some (.ref f9))) (l9 : K.lookup f9 = some ⟨oc9, od9, .func (PySem.W.fnOf "_law_word_by" "_law_word_by" (defArgs s__law_word_by) (defBody s__law_word_by) (defScope s__law_word_by) .none kV9 dc9 pm9 an9 cd9 ct9), sl9⟩) (c9 : PySem.W.codeIn K cd9 "_law_word_by" = true) (k9 : PySem.W.keepIn K (.ref f9) = true)
    {od10 an10 : Option Addr} {sl10 : Array (Option Value)} {oc10 kV10 dc10 pm10 cd10 ct10 : Value} {f10 : Addr}
    (a10 : PySem.W.nsIn K PySem.mainGlobals "_law_tree_words" = some (some (.ref f10))) (l10 : K.lookup f10 = some ⟨oc10, od10, .func (PySem.W.fnOf "_law_tree_words" "_law_tree_words" (defArgs s__law_tree_words) (defBody s__law_tree_words) (defScope s__law_tree_words) .none kV10 dc10 pm10 an10 cd10 ct10), sl10⟩) (c10 : PySem.W.codeIn K cd10 "_law_tree_words" = true) (k10 : PySem.W.keepIn K (.ref f10) = true)
    {od11 an11 : Option Addr} {sl11 : Array (Option Value)} {oc11 kV11 dc11 pm11 cd11 ct11 : Value} {f11 : Addr}
    (a11 : PySem.W.nsIn K PySem.mainGlobals "_law_spoilt" = some (some (.ref f11))) (l11 : K.lookup f11 = some ⟨oc11, od11, .func (PySem.W.fnOf "_law_spoilt" "_law_spoilt" (defArgs s__law_spoilt) (defBody s__law_spoilt) (defScope s__law_spoilt) .none kV11 dc11 pm11 an11 cd11 ct11), sl11⟩) (c11 : PySem.W.codeIn K cd11 "_law_spoilt" = true) (k11 : PySem.W.keepIn K (.ref f11) = true)
    {od12 an12 : Option Addr} {sl12 : Array (Option Value)} {oc12 kV12 dc12 pm12 cd12 ct12 : Value} {f12 : Addr}
    (a12 : PySem.W.nsIn K PySem.mainGlobals "_law_tree" = some (some (.ref f12))) (l12 : K.lookup f12 = some ⟨oc12, od12, .func (PySem.W.fnOf "_law_tree" "_law_tree" (defArgs s__law_tree) (defBody s__law_tree) (defScope s__law_tree) .none kV12 dc12 pm12 an12 cd12 ct12), sl12⟩) (c12 : PySem.W.codeIn K cd12 "_law_tree" = true) (k12 : PySem.W.keepIn K (.ref f12) = true)
    {od13 an13 : Option Addr} {sl13 : Array (Option Value)} {oc13 kV13 dc13 pm13 cd13 ct13 : Value} {f13 : Addr}
    (a13 : PySem.W.nsIn K PySem.mainGlobals "_law_told" = some (some (.ref f13))) (l13 : K.lookup f13 = some ⟨oc13, od13, .func (PySem.W.fnOf "_law_told" "_law_told" (defArgs s__law_told) (defBody s__law_told) (defScope s__law_told) .none kV13 dc13 pm13 an13 cd13 ct13), sl13⟩) (c13 : PySem.W.codeIn K cd13 "_law_told" = true) (k13 : PySem.W.keepIn K (.ref f13) = true)
    {od14 an14 : Option Addr} {sl14 : Array (Option Value)} {oc14 kV14 dc14 pm14 cd14 ct14 : Value} {f14 : Addr}
    (a14 : PySem.W.nsIn K PySem.mainGlobals "_law_great" = some (some (.ref f14))) (l14 : K.lookup f14 = some ⟨oc14, od14, .func (PySem.W.fnOf "_law_great" "_law_great" (defArgs s__law_great) (defBody s__law_great) (defScope s__law_great) .none kV14 dc14 pm14 an14 cd14 ct14), sl14⟩) (c14 : PySem.W.codeIn K cd14 "_law_great" = true) (k14 : PySem.W.keepIn K (.ref f14) = true)
    {od15 an15 : Option Addr} {sl15 : Array (Option Value)} {oc15 kV15 dc15 pm15 cd15 ct15 : Value} {f15 : Addr}
    (a15 : PySem.W.nsIn K PySem.mainGlobals "law" = some (some (.ref f15))) (l15 : K.lookup f15 = some ⟨oc15, od15, .func (PySem.W.fnOf "law" "law" (defArgs s_law) (defBody s_law) (defScope s_law) .none kV15 dc15 pm15 an15 cd15 ct15), sl15⟩) (c15 : PySem.W.codeIn K cd15 "law" = true) (k15 : PySem.W.keepIn K (.ref f15) = true)
    (z_ValueError : PySem.W.nsIn K PySem.mainGlobals "ValueError" = some none)
    (z_int : PySem.W.nsIn K PySem.mainGlobals "int" = some none)
    (z_isinstance : PySem.W.nsIn K PySem.mainGlobals "isinstance" = some none)
    (z_len : PySem.W.nsIn K PySem.mainGlobals "len" = some none)
    (z_max : PySem.W.nsIn K PySem.mainGlobals "max" = some none)
    (z_range : PySem.W.nsIn K PySem.mainGlobals "range" = some none)
    (z_str : PySem.W.nsIn K PySem.mainGlobals "str" = some none)
    (z_tuple : PySem.W.nsIn K PySem.mainGlobals "tuple" = some none)
    {C_NoText : Addr} (e_NoText : PySem.W.nsIn K PySem.mainGlobals "NoText" = some (some (.ref C_NoText)))
    {C_TurnError : Addr} (e_TurnError : PySem.W.nsIn K PySem.mainGlobals "TurnError" = some (some (.ref C_TurnError)))
    (xb_NoText : PySem.W.subIn K (.ref C_NoText) (.type "BaseException") = some true)
    (xt_NoText : PySem.W.typeIn K (.ref C_NoText) = some (.type "type"))
    (xd_NoText : PySem.W.hasDictIn K C_NoText = true)
    (xs_NoText : PySem.W.subIn K (.ref C_NoText) (.ref C_NoText) = some true)
    (xb_TurnError : PySem.W.subIn K (.ref C_TurnError) (.type "BaseException") = some true)
    (xt_TurnError : PySem.W.typeIn K (.ref C_TurnError) = some (.type "type"))
    (xd_TurnError : PySem.W.hasDictIn K C_TurnError = true)
    (xs_TurnError : PySem.W.subIn K (.ref C_TurnError) (.ref C_TurnError) = some true)
    (xe_NoText : PySem.W.excIn K C_NoText [.type "ValueError", .type "Exception", .type "BaseException", .type "object"] "ValueError.__new__" = true)
    (xk_NoText : PySem.W.keepIn K (.ref C_NoText) = true)
    (y0_NoText : PySem.W.findIn K (.ref C_NoText) "__getattribute__" = some (some (.builtin "BaseException.__getattribute__")))
    (y1_NoText : PySem.W.findIn K (.ref C_NoText) "__getattr__" = some none)
    (y2_NoText : PySem.W.findIn K (.ref C_NoText) "__class__" = some (some (.builtin "object.__class__")))
    (y3_NoText : PySem.W.specialIn K (.builtin "object.__class__") "__get__" = some (some (.builtin "getset_descriptor.__get__")))
    (y4_NoText : PySem.W.takesIn K (.builtin "object.__class__") = some true)
    (y5_NoText : PySem.W.mroIn K C_NoText (.type "object") = some true)
    (hci_NoText_ValueError : PySem.W.subIn K (.ref C_NoText) (.type "ValueError") = some true)
    (hci_NoText_TurnError : PySem.W.subIn K (.ref C_NoText) (.ref C_TurnError) = some true)
    (hcm_NoText_NoText : PySem.W.subIn K (.ref C_NoText) (.ref C_NoText) = some true)
    (hkn_TurnError : PySem.W.subIn K (.type "NoneType") (.ref C_TurnError) = some false)
    {u_FIGURES : Value} (g_FIGURES : PySem.W.nsIn K PySem.mainGlobals "FIGURES" = some (some u_FIGURES)) (r_FIGURES : RelV (.str "0123456789") u_FIGURES)
    {u_LETTERS : Value} (g_LETTERS : PySem.W.nsIn K PySem.mainGlobals "LETTERS" = some (some u_LETTERS)) (r_LETTERS : RelV (.str "abcdefghijklmnopqrstuvwxyz") u_LETTERS)
    {u_SIGNS : Value} (g_SIGNS : PySem.W.nsIn K PySem.mainGlobals "SIGNS" = some (some u_SIGNS)) (r_SIGNS : RelV (.str "();:=|*") u_SIGNS) :
    ∃ fd : FuncData, (∀ (s : Shared) (v : Value), BindsTo s fd ⟨[v], []⟩ [("_law_script", v)]) ∧ ∀ base : Heap, K.In base → base.Ns PySem.mainGlobals mg → FnOk l.prog w K mg base (L2.CX l.prog w) L fa fd ["_law_script"] (spM ⟨K, w⟩ mg 1 (mir L 15)) := by
  have e := hfa.symm.trans (PySem.W.mg_of X G a15)
  cases e
  have F0 := fun_mk (st := s_size) l0 c0 k0
  have F1 := fun_mk (st := s_run_end) l1 c1 k1
  have F2 := fun_mk (st := s_word_end) l2 c2 k2
  have F3 := fun_mk (st := s_words) l3 c3 k3
  have F4 := fun_mk (st := s_is_name) l4 c4 k4
  have F5 := fun_mk (st := s_is_number) l5 c5 k5
  have F6 := fun_mk (st := s_tree_at) l6 c6 k6
  have F7 := fun_mk (st := s_read_tree) l7 c7 k7
  have F8 := fun_mk (st := s__law_cell_at) l8 c8 k8
  have F9 := fun_mk (st := s__law_word_by) l9 c9 k9
  have F10 := fun_mk (st := s__law_tree_words) l10 c10 k10
  have F11 := fun_mk (st := s__law_spoilt) l11 c11 k11
  have F12 := fun_mk (st := s__law_tree) l12 c12 k12
  have F13 := fun_mk (st := s__law_told) l13 c13 k13
  have F14 := fun_mk (st := s__law_great) l14 c14 k14
  have F15 := fun_mk (st := s_law) l15 c15 k15
  have T : Txt K mg (pick 0 [f0, f1, f2, f3, f4, f5, f6, f7, f8, f9, f10, f11, f12, f13, f14, fa]) (pick (PySem.W.fnOf "law" "law" (defArgs s_law) (defBody s_law) (defScope s_law) .none kV15 dc15 pm15 an15 cd15 ct15) [PySem.W.fnOf "size" "size" (defArgs s_size) (defBody s_size) (defScope s_size) .none kV0 dc0 pm0 an0 cd0 ct0, PySem.W.fnOf "run_end" "run_end" (defArgs s_run_end) (defBody s_run_end) (defScope s_run_end) .none kV1 dc1 pm1 an1 cd1 ct1, PySem.W.fnOf "word_end" "word_end" (defArgs s_word_end) (defBody s_word_end) (defScope s_word_end) .none kV2 dc2 pm2 an2 cd2 ct2, PySem.W.fnOf "words" "words" (defArgs s_words) (defBody s_words) (defScope s_words) .none kV3 dc3 pm3 an3 cd3 ct3, PySem.W.fnOf "is_name" "is_name" (defArgs s_is_name) (defBody s_is_name) (defScope s_is_name) .none kV4 dc4 pm4 an4 cd4 ct4, PySem.W.fnOf "is_number" "is_number" (defArgs s_is_number) (defBody s_is_number) (defScope s_is_number) .none kV5 dc5 pm5 an5 cd5 ct5, PySem.W.fnOf "tree_at" "tree_at" (defArgs s_tree_at) (defBody s_tree_at) (defScope s_tree_at) .none kV6 dc6 pm6 an6 cd6 ct6, PySem.W.fnOf "read_tree" "read_tree" (defArgs s_read_tree) (defBody s_read_tree) (defScope s_read_tree) .none kV7 dc7 pm7 an7 cd7 ct7, PySem.W.fnOf "_law_cell_at" "_law_cell_at" (defArgs s__law_cell_at) (defBody s__law_cell_at) (defScope s__law_cell_at) .none kV8 dc8 pm8 an8 cd8 ct8, PySem.W.fnOf "_law_word_by" "_law_word_by" (defArgs s__law_word_by) (defBody s__law_word_by) (defScope s__law_word_by) .none kV9 dc9 pm9 an9 cd9 ct9, PySem.W.fnOf "_law_tree_words" "_law_tree_words" (defArgs s__law_tree_words) (defBody s__law_tree_words) (defScope s__law_tree_words) .none kV10 dc10 pm10 an10 cd10 ct10, PySem.W.fnOf "_law_spoilt" "_law_spoilt" (defArgs s__law_spoilt) (defBody s__law_spoilt) (defScope s__law_spoilt) .none kV11 dc11 pm11 an11 cd11 ct11, PySem.W.fnOf "_law_tree" "_law_tree" (defArgs s__law_tree) (defBody s__law_tree) (defScope s__law_tree) .none kV12 dc12 pm12 an12 cd12 ct12, PySem.W.fnOf "_law_told" "_law_told" (defArgs s__law_told) (defBody s__law_told) (defScope s__law_told) .none kV13 dc13 pm13 an13 cd13 ct13, PySem.W.fnOf "_law_great" "_law_great" (defArgs s__law_great) (defBody s__law_great) (defScope s__law_great) .none kV14 dc14 pm14 an14 cd14 ct14, PySem.W.fnOf "law" "law" (defArgs s_law) (defBody s_law) (defScope s_law) .none kV15 dc15 pm15 an15 cd15 ct15]) (pick 0 [C_NoText, C_TurnError]) := {
    F_size := F0,
    B_size := F0.binds (ps := ["tree"]) fun _ _ _ _ _ _ us hl => match us, hl with | [_], _ => rfl,
    M_size := PySem.W.mg_of X G a0,
    F_run_end := F1,
    B_run_end := F1.binds (ps := ["text", "start", "signs"]) fun _ _ _ _ _ _ us hl => match us, hl with | [_, _, _], _ => rfl,
    M_run_end := PySem.W.mg_of X G a1,
    F_word_end := F2,
    B_word_end := F2.binds (ps := ["text", "start"]) fun _ _ _ _ _ _ us hl => match us, hl with | [_, _], _ => rfl,
    M_word_end := PySem.W.mg_of X G a2,
    F_words := F3,
    B_words := F3.binds (ps := ["text"]) fun _ _ _ _ _ _ us hl => match us, hl with | [_], _ => rfl,
    M_words := PySem.W.mg_of X G a3,
    F_is_name := F4,
    B_is_name := F4.binds (ps := ["word"]) fun _ _ _ _ _ _ us hl => match us, hl with | [_], _ => rfl,
    M_is_name := PySem.W.mg_of X G a4,
    F_is_number := F5,
    B_is_number := F5.binds (ps := ["word"]) fun _ _ _ _ _ _ us hl => match us, hl with | [_], _ => rfl,
    M_is_number := PySem.W.mg_of X G a5,
    F_tree_at := F6,
    B_tree_at := F6.binds (ps := ["row", "here", "level"]) fun _ _ _ _ _ _ us hl => match us, hl with | [_, _, _], _ => rfl,
    M_tree_at := PySem.W.mg_of X G a6,
    F_read_tree := F7,
    B_read_tree := F7.binds (ps := ["text"]) fun _ _ _ _ _ _ us hl => match us, hl with | [_], _ => rfl,
    M_read_tree := PySem.W.mg_of X G a7,
    F__law_cell_at := F8,
    B__law_cell_at := F8.binds (ps := ["_law_script", "_law_k"]) fun _ _ _ _ _ _ us hl => match us, hl with | [_, _], _ => rfl,
    M__law_cell_at := PySem.W.mg_of X G a8,
    F__law_word_by := F9,
    B__law_word_by := F9.binds (ps := ["_law_cell"]) fun _ _ _ _ _ _ us hl => match us, hl with | [_], _ => rfl,
    M__law_word_by := PySem.W.mg_of X G a9,
    F__law_tree_words := F10,
    B__law_tree_words := F10.binds (ps := ["_law_cells"]) fun _ _ _ _ _ _ us hl => match us, hl with | [_], _ => rfl,
    M__law_tree_words := PySem.W.mg_of X G a10,
    F__law_spoilt := F11,
    B__law_spoilt := F11.binds (ps := ["_law_row", "_law_way", "_law_there", "_law_word"]) fun _ _ _ _ _ _ us hl => match us, hl with | [_, _, _, _], _ => rfl,
    M__law_spoilt := PySem.W.mg_of X G a11,
    F__law_tree := F12,
    B__law_tree := F12.binds (ps := ["_law_row"]) fun _ _ _ _ _ _ us hl => match us, hl with | [_], _ => rfl,
    M__law_tree := PySem.W.mg_of X G a12,
    F__law_told := F13,
    B__law_told := F13.binds (ps := ["_law_text"]) fun _ _ _ _ _ _ us hl => match us, hl with | [_], _ => rfl,
    M__law_told := PySem.W.mg_of X G a13,
    F__law_great := F14,
    B__law_great := F14.binds (ps := ["_law_cell"]) fun _ _ _ _ _ _ us hl => match us, hl with | [_], _ => rfl,
    M__law_great := PySem.W.mg_of X G a14,
    F_law := F15,
    B_law := F15.binds (ps := ["_law_script"]) fun _ _ _ _ _ _ us hl => match us, hl with | [_], _ => rfl,
    M_law := PySem.W.mg_of X G a15,
    z_ValueError := PySem.W.mg_none_of X G z_ValueError,
    z_int := PySem.W.mg_none_of X G z_int,
    z_isinstance := PySem.W.mg_none_of X G z_isinstance,
    z_len := PySem.W.mg_none_of X G z_len,
    z_max := PySem.W.mg_none_of X G z_max,
    z_range := PySem.W.mg_none_of X G z_range,
    z_str := PySem.W.mg_none_of X G z_str,
    z_tuple := PySem.W.mg_none_of X G z_tuple,
    k_FIGURES := ⟨u_FIGURES, PySem.W.mg_of X G g_FIGURES, r_FIGURES⟩,
    k_LETTERS := ⟨u_LETTERS, PySem.W.mg_of X G g_LETTERS, r_LETTERS⟩,
    k_SIGNS := ⟨u_SIGNS, PySem.W.mg_of X G g_SIGNS, r_SIGNS⟩,
    cn_NoText := e_NoText,
    cg_NoText := PySem.W.mg_of X G e_NoText,
    cx_NoText := ⟨PySem.W.mg_of X G e_NoText, xe_NoText, xk_NoText, xb_NoText, xt_NoText⟩,
    cc_NoText := ⟨y0_NoText, y1_NoText, xb_NoText, xd_NoText, y2_NoText, y3_NoText, y4_NoText, y5_NoText⟩,
    cg_TurnError := PySem.W.mg_of X G e_TurnError,
    ci_NoText_ValueError := kit_type (by decide +kernel) hci_NoText_ValueError,
    ci_NoText_TurnError := kit_ref xd_TurnError xt_TurnError hci_NoText_TurnError xs_NoText,
    cm_NoText_NoText := PySem.W.exm_ref xb_NoText xd_NoText xt_NoText hcm_NoText_NoText,
    kn_ValueError := kit_ty (by decide +kernel),
    kn_TurnError := kit_refN xd_TurnError xt_TurnError hkn_TurnError }
  refine ⟨PySem.W.fnOf "law" "law" (defArgs s_law) (defBody s_law) (defScope s_law) .none kV15 dc15 pm15 an15 cd15 ct15, fun s v => .of_eq rfl, fun base _ _ => ?_⟩
  exact (all_fns (P := l.prog) (w := w) (base := base) T L).g_law
end G
set_option Elab.async false
set_option linter.all false
set_option maxRecDepth 100000
set_option maxHeartbeats 4000000
namespace G
open PySem PySem.Spec L2 Mir
theorem take_head {α : Type} {xs ys : List α} : (xs ++ ys)[xs.length]? = ys.head? := by
  rw [List.getElem?_append_right (Nat.le_refl _)]
  simp [List.head?_eq_getElem?]
/-- run_end goes on while the signs are of the wanted ones -/
theorem run_loop (z : Str) (l : List Nat) (hl : l.length ≤ 1000000) (s : Int) : ∀ (a pre rest : List Nat) (n : Nat), l = pre ++ a ++ rest → (∀ c ∈ a, inS c z = true) → (∀ c, rest.head? = some c → inS c z = false) → a.length < n →
    whileN (tAndE (eB (eBin gLt (eVar 3) (eM (eCa gLen (aCons (eVar 0) aNil)) viewD)) asB) (eB (eBin gIn (eBin gIx (eVar 0) (eVar 3)) (eVar 2)) asB)) (sAug gAddA 3 (eC (.int 1))) n
      [some (.d (.str (tx l))), some (.d (.int s)), some (.d (.str z)), some (.d (.int (pre.length : Nat)))] = .nx [some (.d (.str (tx l))), some (.d (.int s)), some (.d (.str z)), some (.d (.int ((pre.length + a.length : Nat) : Int)))]
  | a, pre, rest, 0, _, _, _, h => by omega
  | [], pre, rest, n + 1, e, ha, hr, h => by
    have gl := gLen_tx l (by omega)
    unfold whileN
    cases rest with
    | nil =>
      have : l.length = pre.length := by rw [e]; simp
      simp [gl, this]
    | cons c rest =>
      have hc : l[pre.length]? = some c := by rw [e, List.append_nil, take_head]; rfl
      have hlt : pre.length < l.length := (List.getElem?_eq_some_iff.mp hc).1
      have ix := gIx_tx hc (by omega)
      have no := hr c rfl
      simp [gl, hlt, ix, gIn_tx, no]
  | c :: a, pre, rest, n + 1, e, ha, hr, h => by
    have gl := gLen_tx l (by omega)
    have hc : l[pre.length]? = some c := by rw [e, List.append_assoc, take_head]; rfl
    have hlt : pre.length < l.length := (List.getElem?_eq_some_iff.mp hc).1
    have ix := gIx_tx hc (by omega)
    have yes := ha c List.mem_cons_self
    have ih := run_loop z l hl s a (pre ++ [c]) rest n (by rw [e]; simp) (fun d hd => ha d (List.mem_cons_of_mem _ hd)) hr (by simp at h; omega)
    have e1 : (pre ++ [c]).length + a.length = pre.length + (c :: a).length := by simp; omega
    rw [e1] at ih
    have e2 : ((pre ++ [c]).length : Int) = (pre.length : Int) + 1 := by simp
    rw [e2] at ih
    unfold whileN
    simp [gl, hlt, ix, gIn_tx, yes] at ih ⊢
    exact ih
theorem run_end_ok (n : Nat) (z : Str) (l pre a rest : List Nat) (e : l = pre ++ a ++ rest) (hl : l.length ≤ 900000) (ha : ∀ c ∈ a, inS c z = true) (hr : ∀ c, rest.head? = some c → inS c z = false) :
    mir (n + 1) 1 [.str (tx l), .int (pre.length : Nat), .str z] = .ok (.d (.int ((pre.length + a.length : Nat) : Int))) := by
  rw [mir_run_end, run_run_end]
  have := run_loop z l (by omega) (pre.length : Nat) a pre rest 1000000 e ha hr (by have := congrArg List.length e; simp at this; omega)
  generalize (1000000 : Nat) = big at *
  simp [this]
/-- a word -/
def Wd (w : List Nat) : Prop := (∃ c, c ∈ sigs ∧ w = [c]) ∨ (w ≠ [] ∧ (∀ c ∈ w, isL c = true) ∧ w.length ≤ 8) ∨ (∃ c r, w = c :: r ∧ (∀ x ∈ w, isF x = true) ∧ w.length ≤ 60 ∧ (c = 48 → r = [])) ∨
  ∃ c r, w = 45 :: c :: r ∧ (∀ x ∈ c :: r, isF x = true) ∧ (c :: r).length ≤ 60 ∧ c ≠ 48
/-- what may follow it -/
def Fol (w rest : List Nat) : Prop := ∀ p x c, w = p ++ [x] → rest.head? = some c → (isL x = true → isL c = false) ∧ (isF x = true → isF c = false)
theorem wd_ne {w : List Nat} (h : Wd w) : w ≠ [] := by
  rcases h with ⟨c, _, rfl⟩ | ⟨h, _⟩ | ⟨c, r, rfl, _⟩ | ⟨c, r, rfl, _⟩ <;> simp_all
theorem isL_sig {c : Nat} (h : isL c = true) : c ∉ sigs ∧ isF c = false ∧ c ≠ 45 ∧ c ≠ 32 := by
  unfold isL at h
  simp only [Bool.and_eq_true, decide_eq_true_eq] at h
  refine ⟨fun z => ?_, ?_, by omega, by omega⟩
  · simp [sigs] at z; omega
  · unfold isF
    have : ¬ c ≤ 57 := by omega
    simp [this]
theorem isF_sig {c : Nat} (h : isF c = true) : c ∉ sigs ∧ isL c = false ∧ c ≠ 45 ∧ c ≠ 32 := by
  unfold isF at h
  simp only [Bool.and_eq_true, decide_eq_true_eq] at h
  refine ⟨fun z => ?_, ?_, by omega, by omega⟩
  · simp [sigs] at z; omega
  · unfold isL
    have : ¬ 97 ≤ c := by omega
    simp [this]
theorem gInt_bool (b : Bool) : gInt [.bool b] = some (.d (.int (if b then 1 else 0))) := rfl
theorem word_end_ok (n : Nat) (l pre w rest : List Nat) (hL : l = pre ++ w ++ rest) (hw : Wd w) (hf : Fol w rest) (hl : l.length ≤ 900000) :
    mir (n + 2) 2 [.str (tx l), .int (pre.length : Nat)] = .ok (.d (.int ((pre.length + w.length : Nat) : Int))) := by
  have hne := wd_ne hw
  obtain ⟨c0, w0, hw0⟩ : ∃ c0 w0, w = c0 :: w0 := by
    cases w with
    | nil => exact absurd rfl hne
    | cons c r => exact ⟨c, r, rfl⟩
  have hc : l[pre.length]? = some c0 := by rw [hL, List.append_assoc, take_head, hw0]; rfl
  have ix := gIx_tx hc (by omega)
  rw [mir_word_end, run_word_end]
  obtain ⟨p, x, hx⟩ : ∃ p x, w = p ++ [x] := by
    rcases List.eq_nil_or_concat w with e | ⟨p, x, e⟩
    · exact absurd e hne
    · exact ⟨p, x, by rw [e, List.concat_eq_append]⟩
  have xin : x ∈ w := by rw [hx]; simp
  have noL : isL c0 = false → mir (n + 1) 1 [.str (tx l), .int (pre.length : Nat), .str abc] = .ok (.d (.int ((pre.length : Nat) : Int))) := fun h => by
    have := run_end_ok n abc l pre [] (w ++ rest) (by rw [hL]; simp) hl (fun c h => by cases h) (fun c hc => by
      rw [hw0] at hc
      cases hc
      rw [inS_abc, h])
    simpa using this
  rcases hw with ⟨c, hs, rfl⟩ | ⟨_, hall, h8⟩ | ⟨c, r, rfl, hall, h60, h0⟩ | ⟨c, r, rfl, hall, h60, h0⟩
  · cases hw0
    have : inS c0 (Str.ofString "();:=|*") = true := by rw [inS_sigs]; exact decide_eq_true hs
    simp [ix, gIn_tx, this]
  · have hL0 := hall c0 (by rw [hw0]; exact List.mem_cons_self)
    have re := run_end_ok n abc l pre w rest hL hl (fun c hc => by rw [inS_abc]; exact hall c hc) (fun c hc => by
      rw [inS_abc, (hf p x c hx hc).1 (hall x xin)])
    have ns : inS c0 (Str.ofString "();:=|*") = false := by rw [inS_sigs]; exact decide_eq_false (isL_sig hL0).1
    have w1 : 0 < w.length := List.length_pos_iff.mpr hne
    have a1 : (pre.length : Int) < (pre.length : Int) + (w.length : Int) := by omega
    have a2 : ¬ (8 : Int) < (pre.length : Int) + (w.length : Int) - (pre.length : Int) := by omega
    simp only [Int.natCast_add] at re ⊢
    simp [ix, gIn_tx, ns, re, w1, a1, a2]
  · have hF0 := hall c List.mem_cons_self
    obtain ⟨q1, _⟩ := List.cons.inj hw0
    subst q1
    have re := run_end_ok n figs l pre (c :: r) rest hL hl (fun c hc => by rw [inS_figs]; exact hall c hc) (fun y hy => by
      rw [inS_figs, (hf p x y hx hy).2 (hall x xin)])
    have ns : inS c (Str.ofString "();:=|*") = false := by rw [inS_sigs]; exact decide_eq_false (isF_sig hF0).1
    have rl := noL (isF_sig hF0).2.1
    have nm : ¬ c = 45 := (isF_sig hF0).2.2.1
    obtain ⟨W, hW⟩ : ∃ W, W = (c :: r).length := ⟨_, rfl⟩
    have hW1 : 1 ≤ W := by rw [hW]; simp
    have h48 : c = 48 → W = 1 := fun h => by rw [hW, h0 h]; rfl
    rw [← hW] at re h60 ⊢
    have a1 : ¬ (60 : Int) < (pre.length : Int) + (W : Int) - (pre.length : Int) := by omega
    have a2 : ¬ (pre.length : Int) + (W : Int) = (pre.length : Int) := by omega
    simp only [Int.natCast_add] at re ⊢
    by_cases h : c = 48
    · have := h48 h
      subst this
      subst h
      have a3 : ¬ (1 : Int) < (pre.length : Int) + 1 - (pre.length : Int) := by omega
      simp only [Int.natCast_one] at re a1 a2 ⊢
      simp [ix, gIn_tx, ns, rl, minus_is, nought_is, gEq_tx, nm, gInt_bool, re, a1, a2, a3]
    · simp [ix, gIn_tx, ns, rl, minus_is, nought_is, gEq_tx, nm, gInt_bool, re, a1, a2, h]
  · obtain ⟨q1, _⟩ := List.cons.inj hw0
    subst q1
    have hF0 := hall c List.mem_cons_self
    have hc1 : l[pre.length + 1]? = some c := by
      rw [hL]
      have : (pre ++ [45]).length = pre.length + 1 := by simp
      rw [← this, show pre ++ 45 :: c :: r ++ rest = (pre ++ [45]) ++ (c :: r ++ rest) by simp, take_head]
      rfl
    have ix1 := gIx_tx hc1 (by omega)
    have xr : ∃ p', c :: r = p' ++ [x] := by
      cases p with
      | nil => simp at hx
      | cons q p =>
        rw [List.cons_append] at hx
        exact ⟨p, (List.cons.inj hx).2⟩
    obtain ⟨p', hx'⟩ := xr
    have xin' : x ∈ c :: r := by rw [hx']; simp
    have re := run_end_ok n figs l (pre ++ [45]) (c :: r) rest (by rw [hL]; simp) hl (fun c hc => by rw [inS_figs]; exact hall c hc) (fun y hy => by
      rw [inS_figs, (hf p x y hx hy).2 (hall x xin')])
    have ns : inS 45 (Str.ofString "();:=|*") = false := by rw [inS_sigs]; decide
    have rl := noL (by decide)
    obtain ⟨W, hW⟩ : ∃ W, W = (c :: r).length := ⟨_, rfl⟩
    have hW1 : 1 ≤ W := by rw [hW]; simp
    have hW2 : (45 :: c :: r).length = W + 1 := by rw [hW]; rfl
    rw [← hW] at re h60
    rw [hW2]
    have e2 : ((pre ++ [45]).length : Int) = (pre.length : Int) + 1 := by simp
    have e3 : (((pre ++ [45]).length + W : Nat) : Int) = (pre.length : Int) + 1 + (W : Int) := by simp
    rw [e2, e3] at re
    have a1 : ¬ (60 : Int) < (pre.length : Int) + 1 + (W : Int) - ((pre.length : Int) + 1) := by omega
    have a2 : ¬ (pre.length : Int) + 1 + (W : Int) = (pre.length : Int) + 1 := by omega
    have e4 : ((pre.length + (W + 1) : Nat) : Int) = (pre.length : Int) + 1 + (W : Int) := by omega
    have ix1' : gIx (.str (tx l)) (.int ((pre.length : Int) + 1)) = some (.str (tx [c])) := ix1
    rw [e4]
    simp [ix, gIn_tx, ns, rl, minus_is, nought_is, gEq_tx, gInt_bool, re, a1, a2, ix1', h0]
def build : List (Nat × List Nat) → Nat → List Nat
  | [], t => List.replicate t 32
  | (b, w) :: r, t => List.replicate b 32 ++ (w ++ build r t)
def Good : List (Nat × List Nat) → Nat → Prop
  | [], _ => True
  | (_, w) :: r, t => Wd w ∧ Fol w (build r t) ∧ Good r t
abbrev wc : Ev → R Bool := (eB (eBin gLt (eVar 2) (eM (eCa gLen (aCons (eVar 0) aNil)) viewD)) asB)
abbrev wb (m : Nat → List PyData → R Ow) : Ev → SR := (sSeq (sIf (eB (eBin gEq (eBin gIx (eVar 0) (eVar 2)) (eC (.str " "))) asB)
    (sSeq (sAug gAddA 2 (eC (.int 1)))
    sCont)
    sSkip)
    (sSeq (sSet 3 (eM (eM (eB (aCons (eVar 0) (aCons (eVar 2) aNil)) (m 2)) viewD) Ow.d))
    (sSeq (sApp 1 (eSl (eVar 0) (eB (eVar 2) asI) (eB (eVar 3) asI)))
    (sSet 2 (eM (eVar 3) Ow.d)))))
theorem w_end (m : Nat → List PyData → R Ow) (l : List Nat) (hl : l.length ≤ 900000) (fs : List Ow) (x : Option Ow) (n : Nat) :
    whileN wc (wb m) (n + 1) [some (.d (.str (tx l))), some (.l fs), some (.d (.int (l.length : Nat))), x] = .nx [some (.d (.str (tx l))), some (.l fs), some (.d (.int (l.length : Nat))), x] := by
  have gl := gLen_tx l (by omega)
  unfold whileN
  simp [gl]
theorem w_blank (m : Nat → List PyData → R Ow) (l : List Nat) (hl : l.length ≤ 900000) (fs : List Ow) (x : Option Ow) (n h : Nat) (hc : l[h]? = some 32) :
    whileN wc (wb m) (n + 1) [some (.d (.str (tx l))), some (.l fs), some (.d (.int (h : Nat))), x] = whileN wc (wb m) n [some (.d (.str (tx l))), some (.l fs), some (.d (.int ((h + 1 : Nat) : Int))), x] := by
  have gl := gLen_tx l (by omega)
  have hlt : h < l.length := (List.getElem?_eq_some_iff.mp hc).1
  have ix := gIx_tx hc (by omega)
  have c1 : wc [some (.d (.str (tx l))), some (.l fs), some (.d (.int (h : Nat))), x] = .ok true := by simp [gl, hlt]
  have c2 : wb m [some (.d (.str (tx l))), some (.l fs), some (.d (.int (h : Nat))), x] = .ct [some (.d (.str (tx l))), some (.l fs), some (.d (.int ((h + 1 : Nat) : Int))), x] := by
    simp [ix, sp_is, gEq_tx, sCont]
  rw [whileN, c1, R.st_ok, if_pos rfl, c2]
theorem w_word (n0 : Nat) (l pre w rest : List Nat) (e : l = pre ++ w ++ rest) (hw : Wd w) (hf : Fol w rest) (hl : l.length ≤ 900000) (fs : List Ow) (hfs : fs.length < 16777216) (x : Option Ow) (n : Nat) :
    whileN wc (wb (mir (n0 + 2))) (n + 1) [some (.d (.str (tx l))), some (.l fs), some (.d (.int (pre.length : Nat))), x] =
    whileN wc (wb (mir (n0 + 2))) n [some (.d (.str (tx l))), some (.l (fs ++ [.d (.str (tx w))])), some (.d (.int ((pre.length + w.length : Nat) : Int))), some (.d (.int ((pre.length + w.length : Nat) : Int)))] := by
  have gl := gLen_tx l (by omega)
  have hne := wd_ne hw
  obtain ⟨c0, w0, hw0⟩ : ∃ c0 w0, w = c0 :: w0 := by
    cases w with
    | nil => exact absurd rfl hne
    | cons c r => exact ⟨c, r, rfl⟩
  have hc : l[pre.length]? = some c0 := by rw [e, List.append_assoc, take_head, hw0]; rfl
  have hlt : pre.length < l.length := (List.getElem?_eq_some_iff.mp hc).1
  have ix := gIx_tx hc (by omega)
  have n32 : ¬ c0 = 32 := by
    have hin : c0 ∈ w := by rw [hw0]; exact List.mem_cons_self
    rcases hw with ⟨c, hs, rfl⟩ | ⟨_, hall, _⟩ | ⟨c, r, rfl, hall, _⟩ | ⟨c, r, rfl, hall, _⟩
    · have : c0 = c := (List.cons.inj hw0).1.symm
      subst this
      intro z; subst z
      simp [sigs] at hs
    · exact (isL_sig (hall c0 hin)).2.2.2
    · exact (isF_sig (hall c0 hin)).2.2.2
    · have : c0 = 45 := (List.cons.inj hw0).1.symm
      omega
  have we := word_end_ok n0 l pre w rest e hw hf hl
  have hlen : pre.length + w.length ≤ l.length := by rw [e]; simp
  have sl := gSl_tx (l := l) hlen (Nat.le_add_right _ _) (by omega)
  have cut : (l.drop pre.length).take (pre.length + w.length - pre.length) = w := by
    subst e
    simp
  rw [cut] at sl
  have c1 : wc [some (.d (.str (tx l))), some (.l fs), some (.d (.int (pre.length : Nat))), x] = .ok true := by simp [gl, hlt]
  obtain ⟨E, hE⟩ : ∃ E : Nat, E = pre.length + w.length := ⟨_, rfl⟩
  rw [← hE] at we sl ⊢
  have c2 : wb (mir (n0 + 2)) [some (.d (.str (tx l))), some (.l fs), some (.d (.int (pre.length : Nat))), x] = .nx [some (.d (.str (tx l))), some (.l (fs ++ [.d (.str (tx w))])), some (.d (.int (E : Int))), some (.d (.int (E : Int)))] := by
    simp [ix, sp_is, gEq_tx, n32, we, sl, sizeLine_eq, hfs]
  rw [whileN, c1, R.st_ok, if_pos rfl, c2]
theorem w_blanks (m : Nat → List PyData → R Ow) (l : List Nat) (hl : l.length ≤ 900000) (fs : List Ow) (x : Option Ow) : ∀ (b n : Nat) (pre rest : List Nat), l = pre ++ (List.replicate b 32 ++ rest) →
    whileN wc (wb m) (n + b) [some (.d (.str (tx l))), some (.l fs), some (.d (.int (pre.length : Nat))), x] = whileN wc (wb m) n [some (.d (.str (tx l))), some (.l fs), some (.d (.int ((pre.length + b : Nat) : Int))), x]
  | 0, n, pre, rest, e => rfl
  | b + 1, n, pre, rest, e => by
    have hc : l[pre.length]? = some 32 := by rw [e, take_head, List.replicate_succ]; rfl
    rw [← Nat.add_assoc, w_blank m l hl fs x (n + b) pre.length hc]
    have ih := w_blanks m l hl fs x b n (pre ++ [32]) rest (by rw [e, List.replicate_succ]; simp)
    have e1 : (pre ++ [32]).length = pre.length + 1 := by simp
    rw [e1, Nat.add_assoc, Nat.add_comm 1 b] at ih
    exact ih
theorem w_all (n0 : Nat) (l : List Nat) (hl : l.length ≤ 900000) (t : Nat) : ∀ (segs : List (Nat × List Nat)) (pre : List Nat) (fs : List Ow) (x : Option Ow) (n : Nat), l = pre ++ build segs t → Good segs t → fs.length + segs.length ≤ 900000 → (build segs t).length < n →
    ∃ y, whileN wc (wb (mir (n0 + 2))) n [some (.d (.str (tx l))), some (.l fs), some (.d (.int (pre.length : Nat))), x] = .nx [some (.d (.str (tx l))), some (.l (fs ++ segs.map fun s => .d (.str (tx s.2)))), some (.d (.int (l.length : Nat))), y]
  | [], pre, fs, x, n, e, _, _, hn => by
    have hb : (build [] t).length = t := by simp [build]
    obtain ⟨k, rfl⟩ : ∃ k, n = k + 1 + t := ⟨n - 1 - t, by omega⟩
    have e' : l = pre ++ (List.replicate t 32 ++ []) := by rw [e]; simp [build]
    rw [w_blanks (mir (n0 + 2)) l hl fs x t (k + 1) pre [] e']
    have el : pre.length + t = l.length := by rw [e']; simp
    rw [el, w_end _ l hl]
    exact ⟨x, by simp⟩
  | (b, w) :: segs, pre, fs, x, n, e, hg, hfs, hn => by
    obtain ⟨g1, g2, g3⟩ := hg
    have w1 : 0 < w.length := List.length_pos_iff.mpr (wd_ne g1)
    have hb : (build ((b, w) :: segs) t).length = b + (w.length + (build segs t).length) := by simp [build]
    obtain ⟨k, rfl⟩ : ∃ k, n = k + 1 + b := ⟨n - 1 - b, by omega⟩
    have e' : l = pre ++ (List.replicate b 32 ++ (w ++ build segs t)) := e
    rw [w_blanks (mir (n0 + 2)) l hl fs x b (k + 1) pre _ e']
    have e2 : l = (pre ++ List.replicate b 32) ++ w ++ build segs t := by rw [e']; simp
    have e3 : (pre ++ List.replicate b 32).length = pre.length + b := by simp
    rw [← e3, w_word n0 l _ w _ e2 g1 g2 hl fs (by simp at hfs; omega)]
    obtain ⟨y, ih⟩ := w_all n0 l hl t segs ((pre ++ List.replicate b 32) ++ w) (fs ++ [.d (.str (tx w))]) (some (.d (.int (((pre ++ List.replicate b 32).length + w.length : Nat) : Int)))) k e2 g3 (by simp at hfs ⊢; omega) (by omega)
    have e4 : ((pre ++ List.replicate b 32) ++ w).length = (pre ++ List.replicate b 32).length + w.length := List.length_append
    rw [e4] at ih
    exact ⟨y, by rw [ih]; simp⟩
theorem words_ok (n0 : Nat) (segs : List (Nat × List Nat)) (t : Nat) (hg : Good segs t) (hs : segs.length ≤ 1000) (hl : (build segs t).length ≤ 900000) :
    mir (n0 + 3) 3 [.str (tx (build segs t))] = .ok (.l (segs.map fun s => .d (.str (tx s.2)))) := by
  rw [mir_words, run_words]
  obtain ⟨l, hL⟩ : ∃ l, l = build segs t := ⟨_, rfl⟩
  rw [← hL] at hl ⊢
  obtain ⟨y, h⟩ := w_all n0 l hl t segs [] [] none 1000000 hL hg (by simp; omega) (by rw [← hL]; omega)
  have isi : gIsi "str" (.str (tx l)) = .ok (.bool true) := rfl
  simp only [List.length_nil, List.nil_append] at h
  have h' : whileN wc (wb (mir (n0 + 2))) 1000000 [some (.d (.str (tx l))), some (.l []), some (.d (.int 0)), none] = .nx [some (.d (.str (tx l))), some (.l (segs.map fun s => .d (.str (tx s.2)))), some (.d (.int (l.length : Nat))), y] := h
  generalize (1000000 : Nat) = big at *
  unfold wc wb at h'
  simp [isi, sizeLine_eq, sRetV, h']
end G
set_option Elab.async false
set_option linter.all false
set_option maxRecDepth 100000
set_option maxHeartbeats 4000000
namespace G
open PySem PySem.Spec L2 Mir
theorem wd_num {n : Nat} (h : n < 10 ^ 60) : Wd (TL.numL n) := by
  refine .inr (.inr (.inl ?_))
  have hl := TL.numL_len (n := n) (k := 60) (by decide) h
  have hf := numL_isF n
  by_cases z : n = 0
  · subst z
    rw [numL_zero] at hf hl ⊢
    exact ⟨48, [], rfl, hf, hl, fun _ => rfl⟩
  · obtain ⟨c, r, e, ne⟩ := numL_head n (by omega)
    exact ⟨c, r, e, hf, hl, fun z => absurd z ne⟩
theorem wd_neg {n : Nat} (h : n + 1 < 10 ^ 60) : Wd (45 :: TL.numL (n + 1)) := by
  refine .inr (.inr (.inr ?_))
  have hl := TL.numL_len (n := n + 1) (k := 60) (by decide) h
  have hf := numL_isF (n + 1)
  obtain ⟨c, r, e, ne⟩ := numL_head (n + 1) (by omega)
  rw [e] at hf hl ⊢
  exact ⟨c, r, rfl, hf, hl, ne⟩
theorem wd_ik {k : Int} (h : k.natAbs < 10 ^ 60) : Wd (ik k) := by
  cases k with
  | ofNat n => exact wd_num h
  | negSucc n => exact wd_neg h
/-- nothing that could run together with a word ahead of it -/
def calm (l : List Nat) : Prop := ∀ c, l.head? = some c → isL c = false ∧ isF c = false
theorem fol_calm {w l : List Nat} (h : calm l) : Fol w l := fun p x c _ hc => ⟨fun _ => (h c hc).1, fun _ => (h c hc).2⟩
theorem fol_sign {c : Nat} {l : List Nat} (h : c = 40 ∨ c = 41) : Fol [c] l := fun p x d e _ => by
  have ex : x = c := by
    have := List.append_inj_right' (s₁ := []) (t₁ := [c]) (s₂ := p) (t₂ := [x]) (by simpa using e) rfl
    simpa using this.symm
  subst ex
  rcases h with rfl | rfl
  · exact ⟨fun h => absurd h (by decide), fun h => absurd h (by decide)⟩
  · exact ⟨fun h => absurd h (by decide), fun h => absurd h (by decide)⟩
theorem head_rep (b : Nat) (r : List Nat) (h : 0 < b) : (List.replicate b 32 ++ r).head? = some 32 := by
  obtain ⟨k, rfl⟩ : ∃ k, b = k + 1 := ⟨b - 1, by omega⟩
  simp [List.replicate_succ]
theorem calm_seg {b : Nat} {w : List Nat} {r : List (Nat × List Nat)} {t : Nat} (h : 1 ≤ b ∨ w = [40] ∨ w = [41]) : calm (build ((b, w) :: r) t) := by
  intro c hc
  rw [build] at hc
  by_cases z : b = 0
  · subst z
    rw [List.replicate_zero, List.nil_append] at hc
    rcases h with h | rfl | rfl
    · omega
    · have : c = 40 := by simpa using hc.symm
      subst this; decide
    · have : c = 41 := by simpa using hc.symm
      subst this; decide
  · rw [head_rep b _ (by omega)] at hc
    have : c = 32 := by simpa using hc.symm
    subst this; decide
theorem calm_nil (t : Nat) : calm (build [] t) := by
  intro c hc
  cases t with
  | zero => simp [build] at hc
  | succ t =>
    have : c = 32 := by simpa [build, List.replicate_succ] using hc.symm
    subst this; decide
theorem wd_sign {c : Nat} (h : c = 40 ∨ c = 41) : Wd [c] := .inl ⟨c, by rcases h with rfl | rfl <;> decide, rfl⟩
abbrev rowD (ws : List (List Nat)) : PyData := .list (ws.map fun w => .str (tx w))
theorem isName_ok (n : Nat) (c : Nat) (r : List Nat) (h : (c :: r).length ≤ 100) : mir (n + 1) 4 [.str (tx (c :: r))] = .ok (.d (.bool (isL c))) := by
  have i2 : gIx (.str (tx (c :: r))) (.int 0) = some (.str (tx [c])) := gIx_tx (i := 0) rfl (by omega)
  have := gIn_tx c abc
  rw [inS_abc] at this
  rw [mir_is_name, run_is_name]
  simp [i2, this]
theorem isNumber_ok (n : Nat) (p : List Nat) (x : Nat) (h : (p ++ [x]).length ≤ 100) : mir (n + 1) 5 [.str (tx (p ++ [x]))] = .ok (.d (.bool (isF x))) := by
  have i2 := gIx_last (l := p) (c := x) (by simp at h; omega)
  have := gIn_tx x figs
  rw [inS_figs] at this
  rw [mir_is_number, run_is_number]
  simp [i2, this]
theorem gLen_row (ws : List (List Nat)) : gLen [rowD ws] = some (.d (.int (ws.length : Nat))) := by
  have : gLen [rowD ws] = some (Ow.d (.int (ws.map fun w => PyData.str (tx w)).length)) := rfl
  rw [this, List.length_map]
theorem gIx_row {ws pre : List (List Nat)} {w : List Nat} {post : List (List Nat)} (h : ws = pre ++ w :: post) : gIx (rowD ws) (.int (pre.length : Nat)) = some (.str (tx w)) := by
  show atI _ _ = _
  exact atI_natD (by rw [List.getElem?_map, h, List.getElem?_append_right (Nat.le_refl _)]; simp)
/-- what may come behind a tree's words -/
def EndOk (post : List (List Nat)) : Prop := ∀ w, post.head? = some w → w = [41] ∨ (w ≠ [] ∧ (∀ x ∈ w, isL x = true) ∧ w.length ≤ 8)
noncomputable abbrev loopC : Ev → R Bool := (tOrE (eB (eBin gGe (eVar 1) (eM (eCa gLen (aCons (eVar 0) aNil)) viewD)) asB) (eB (eBin gNe (eBin gIx (eVar 0) (eVar 1)) (eC (.str ")"))) asB))
noncomputable abbrev loopB (m : Nat → List PyData → R Ow) : Ev → SR := (sSeq (sAsg (gtTup 2 (gtCons (gtName 6) (gtCons (gtName 1) gtNil))) (eM (eB (aCons (eVar 0) (aCons (eVar 1) (aCons (eM (eBinO gAdd (eVar 2) (eC (.int 1))) viewD) aNil))) (m 6)) viewD))
    (sApp 5 (eM (eVar 6) Ow.d)))
/-- what a reader of one tree tells -/
def Reads (f : List PyData → R Ow) (T : LN) (lv : Nat) : Prop := ∀ (ws pre post : List (List Nat)), ws.length ≤ 100000 → ws = pre ++ wN T ++ post → EndOk post → f [rowD ws, .int (pre.length : Nat), .int (lv : Nat)] = .ok (.d (.tuple [encT (trN T), .int ((pre.length + (wN T).length : Nat) : Int)]))
theorem gNe_tx (a b : List Nat) : gNe (.str (tx a)) (.str (tx b)) = some (.bool (!decide (a = b))) := by
  rw [show gNe (.str (tx a)) (.str (tx b)) = some (.bool (!(tx a == tx b))) from rfl]
  have e : (tx a == tx b) = decide (a = b) := by
    by_cases h : a = b
    · subst h; simp
    · rw [decide_eq_false h, beq_eq_false_iff_ne]
      exact fun z => h (tx_inj z)
  rw [e]
end G
set_option Elab.async false
set_option linter.all false
set_option maxRecDepth 100000
set_option maxHeartbeats 4000000
namespace G
open PySem PySem.Spec L2 Mir
noncomputable section
theorem nm_ok (n : Nat) {w : Wo} (h : VW w) : mir (n + 1) 4 [.str (tx w)] = .ok (.d (.bool (nmW w))) := by
  cases w with
  | nil => exact absurd rfl h.1
  | cons c r => exact isName_ok n c r h.2.1
theorem nu_ok (n : Nat) {w : Wo} (h : VW w) : mir (n + 1) 5 [.str (tx w)] = .ok (.d (.bool (nuW w))) := by
  rcases List.eq_nil_or_concat w with e | ⟨p, x, e⟩
  · exact absurd e h.1
  · rw [List.concat_eq_append] at e
    have := isNumber_ok n p x (by rw [← e]; exact h.2.1)
    rw [e]
    unfold nuW
    rw [List.getLast?_append]
    simpa using this
def outT (N : Nat) : Option (Tr × List Wo) → R Ow
  | none => .ex "NoText"
  | some (t, r) => .ok (.d (.tuple [encT t, .int ((N - r.length : Nat) : Int)]))
/-- the loop over a tree's branches -/
theorem mloop (m : Nat → List PyData → R Ow) (row : List Wo) (hrow : row.length ≤ 1000) (lv : Nat) (a3 a4 : Option Ow) (g : List Wo → Option (Tr × List Wo)) (hs : ∀ ws t r, g ws = some (t, r) → ∃ u, u ≠ [] ∧ ws = u ++ r)
    (hm : ∀ ws pre, row = pre ++ ws → m 6 [rowD row, .int (pre.length : Nat), .int ((lv + 1 : Nat) : Int)] = outT row.length (g ws)) : ∀ (n : Nat) (ws pre : List Wo) (done : List Tr) (k : Nat) (x6 : Option Ow), row = pre ++ ws → ws.length < n → n ≤ k → done.length + ws.length ≤ 2000 →
    match pMs g n ws with
    | none => ∃ env', whileN loopC (loopB m) k [some (.d (rowD row)), some (.d (.int (pre.length : Nat))), some (.d (.int (lv : Nat))), a3, a4, some (.l (done.map fun T => .d (encT T))), x6] = .ex "NoText" env'
    | some (bs, r) => ∃ y6, whileN loopC (loopB m) k [some (.d (rowD row)), some (.d (.int (pre.length : Nat))), some (.d (.int (lv : Nat))), a3, a4, some (.l (done.map fun T => .d (encT T))), x6] = .nx [some (.d (rowD row)), some (.d (.int ((row.length - r.length : Nat) : Int))), some (.d (.int (lv : Nat))), a3, a4, some (.l ((done ++ bs).map fun T => .d (encT T))), y6]
  | 0, ws, pre, done, k, x6, e, h, _, _ => by omega
  | n + 1, ws, pre, done, k, x6, e, h, hk, hd => by
    obtain ⟨k, rfl⟩ : ∃ k', k = k' + 1 := ⟨k - 1, by omega⟩
    have gl := gLen_row row
    have len : row.length = pre.length + ws.length := by rw [e, List.length_append]
    rw [pMs]
    by_cases c : ws.head? = some [41]
    · rw [if_pos c]
      obtain ⟨r, rfl⟩ : ∃ r, ws = [41] :: r := by
        cases ws with
        | nil => cases c
        | cons a b => exact ⟨b, by rw [Option.some.inj c]⟩
      simp only
      refine ⟨x6, ?_⟩
      have ix := gIx_row e
      have hlt : pre.length < row.length := by rw [len]; simp
      have ne := gNe_tx [41] [41]
      have c1 : loopC [some (.d (rowD row)), some (.d (.int (pre.length : Nat))), some (.d (.int (lv : Nat))), a3, a4, some (.l (done.map fun T => .d (encT T))), x6] = .ok false := by
        generalize (done.map fun T => Ow.d (encT T)) = os
        generalize rowD row = rw0 at gl ix
        simp [gl, ix, cl_is, ne, hlt]
      rw [whileN, c1, R.st_ok, List.append_nil, show row.length - ([41] :: r).length = pre.length by omega]
      simp
    · rw [if_neg c]
      have c1 : loopC [some (.d (rowD row)), some (.d (.int (pre.length : Nat))), some (.d (.int (lv : Nat))), a3, a4, some (.l (done.map fun T => .d (encT T))), x6] = .ok true := by
        cases ws with
        | nil =>
          have hge : row.length ≤ pre.length := by rw [len]; simp
          generalize (done.map fun T => Ow.d (encT T)) = os
          generalize rowD row = rw0 at gl
          simp [gl, hge]
        | cons w r =>
          have ix := gIx_row e
          have hlt : pre.length < row.length := by rw [len]; simp
          have nw : w ≠ [41] := fun z => c (by rw [z]; rfl)
          have ne := gNe_tx w [41]
          rw [decide_eq_false nw] at ne
          generalize (done.map fun T => Ow.d (encT T)) = os
          generalize rowD row = rw0 at gl ix
          simp [gl, ix, cl_is, ne]
      have rd := hm ws pre e
      have lv1 : (((lv + 1 : Nat)) : Int) = (lv : Int) + 1 := by omega
      rw [lv1] at rd
      cases hg : g ws with
      | none =>
        rw [hg] at rd
        simp only
        have c2 : loopB m [some (.d (rowD row)), some (.d (.int (pre.length : Nat))), some (.d (.int (lv : Nat))), a3, a4, some (.l (done.map fun T => .d (encT T))), x6] = .ex "NoText" [some (.d (rowD row)), some (.d (.int (pre.length : Nat))), some (.d (.int (lv : Nat))), a3, a4, some (.l (done.map fun T => .d (encT T))), x6] := by
          unfold outT at rd
          generalize (done.map fun T => Ow.d (encT T)) = os
          generalize rowD row = rw0 at rd
          simp [rd, SR.andThen]
          rfl
        exact ⟨_, by rw [whileN, c1, R.st_ok, if_pos rfl, c2]⟩
      | some q =>
        obtain ⟨t, r⟩ := q
        rw [hg] at rd
        obtain ⟨u, hu, eu⟩ := hs ws t r hg
        have ul := List.length_pos_iff.mpr hu
        have wl : ws.length = u.length + r.length := by rw [eu, List.length_append]
        simp only
        have dl : (done.map fun T => Ow.d (encT T)).length = done.length := List.length_map _
        have hdl : done.length < 16777216 := by omega
        have dn : (done.map fun T => Ow.d (encT T)) ++ [Ow.d (encT t)] = ((done ++ [t]).map fun T => Ow.d (encT T)) := by simp
        have c2 : loopB m [some (.d (rowD row)), some (.d (.int (pre.length : Nat))), some (.d (.int (lv : Nat))), a3, a4, some (.l (done.map fun T => .d (encT T))), x6] = .nx [some (.d (rowD row)), some (.d (.int ((row.length - r.length : Nat) : Int))), some (.d (.int (lv : Nat))), a3, a4, some (.l ((done ++ [t]).map fun T => .d (encT T))), some (.d (encT t))] := by
          change _ = R.ok (Ow.d (.tuple [encT t, .int ((row.length - r.length : Nat) : Int)])) at rd
          rw [← dn]
          generalize (done.map fun T => Ow.d (encT T)) = os at dl
          rw [← dl] at hdl
          generalize rowD row = rw0 at rd
          generalize ((row.length - r.length : Nat) : Int) = NI at rd ⊢
          simp [rd, sizeLine_eq, hdl]
        have ih := mloop m row hrow lv a3 a4 g hs hm n r (pre ++ u) (done ++ [t]) k (some (.d (encT t))) (by rw [e, eu, List.append_assoc]) (by omega) (by omega) (by rw [List.length_append, List.length_singleton]; omega)
        have pl : (pre ++ u).length = row.length - r.length := by rw [List.length_append, len, wl]; omega
        rw [pl] at ih
        cases hp : pMs g n r with
        | none =>
          rw [hp] at ih
          obtain ⟨env', ih⟩ := ih
          exact ⟨env', by rw [whileN, c1, R.st_ok, if_pos rfl, c2]; exact ih⟩
        | some q =>
          obtain ⟨bs, r2⟩ := q
          rw [hp] at ih
          obtain ⟨y6, ih⟩ := ih
          refine ⟨y6, ?_⟩
          rw [whileN, c1, R.st_ok, if_pos rfl, c2, show done ++ t :: bs = (done ++ [t]) ++ bs by simp]
          exact ih
end
end G
set_option Elab.async false
set_option linter.all false
set_option maxRecDepth 100000
set_option maxHeartbeats 4000000
namespace G
open PySem PySem.Spec L2 Mir
noncomputable section
theorem gEq_nilT {bs : List Tr} {l : Nat} (h : ∀ b ∈ bs, okT b) (hl : levTs bs ≤ l) (h40 : l ≤ 45) : gEq (.list (bs.map encT)) (.list []) = some (.bool bs.isEmpty) := by
  have okT' : ∀ d ∈ bs.map encT, d.canLay0 = true ∧ d.depth ≤ 100 := fun d hd => by
    obtain ⟨T, hT, rfl⟩ := List.mem_map.mp hd
    have := levTs_le hl T hT
    have hd := depth_encT T
    exact ⟨can_encT _ (h T hT), by omega⟩
  have n1 : Nice (.list (bs.map encT)) := nice_list okT' (by omega)
  have n0 : Nice (.list []) := ⟨rfl, by simp [PyData.depth, PyData.depthAll]⟩
  rw [gEq_nice n1 n0]
  cases bs with
  | nil => rw [List.map_nil, eqv_self n0]; rfl
  | cons U cs => simp [PyData.eqv, PyData.eqvAll]
theorem tree_ok (n0 : Nat) {row : List Wo} (hv : ∀ w ∈ row, VW w) (hrow : row.length ≤ 1000) : ∀ (l : Nat) (ws pre : List Wo) (lv : Nat), row = pre ++ ws → lv + l = 41 → mir (n0 + l + 2) 6 [rowD row, .int (pre.length : Nat), .int (lv : Nat)] = outT row.length (pT l ws)
  | 0, ws, pre, lv, e, hlv => by
    rw [show n0 + 0 + 2 = (n0 + 1) + 1 from rfl, mir_tree_at, run_tree_at]
    have env0 : envOf 4 [rowD row, .int (pre.length : Nat), .int (lv : Nat)] = [some (.d (rowD row)), some (.d (.int (pre.length : Nat))), some (.d (.int (lv : Nat))), none, none, none, none] := rfl
    rw [env0, pT]
    have lv40 : (40 : Int) < (lv : Int) := by omega
    generalize rowD row = RW
    generalize ((lv : Nat) : Int) = LV at lv40 ⊢
    simp [lv40, outT, finR]
  | l + 1, ws, pre, lv, e, hlv => by
    rw [show n0 + (l + 1) + 2 = (n0 + l + 2) + 1 from rfl, mir_tree_at, run_tree_at]
    have env0 : envOf 4 [rowD row, .int (pre.length : Nat), .int (lv : Nat)] = [some (.d (rowD row)), some (.d (.int (pre.length : Nat))), some (.d (.int (lv : Nat))), none, none, none, none] := rfl
    rw [env0]
    have gl := gLen_row row
    have len : row.length = pre.length + ws.length := by rw [e, List.length_append]
    have lv40 : ¬ (40 : Int) < (lv : Int) := by omega
    cases ws with
    | nil =>
      rw [pT]
      have hge : row.length ≤ pre.length := by rw [len]; simp
      generalize rowD row = RW at gl ⊢
      simp [gl, hge, lv40, outT, finR]
    | cons w r =>
      have ix0 := gIx_row e
      have hlt0 : pre.length < row.length := by rw [len]; simp
      have isn := nm_ok (n0 + l + 1) (hv w (by rw [e]; simp))
      rw [pT]
      cases hn : nmW w with
      | false =>
        rw [hn] at isn
        rw [if_neg (by decide)]
        have hle0 : ¬ row.length ≤ pre.length := by omega
        generalize rowD row = RW at gl ix0 ⊢
        simp [gl, ix0, isn, hle0, lv40, outT, finR]
      | true =>
        rw [hn] at isn
        rw [if_pos rfl]
        obtain ⟨um, em⟩ := markW_suf r
        obtain ⟨r2, hr2⟩ : ∃ r2, r2 = (markW r).2 := ⟨_, rfl⟩
        obtain ⟨k, hk⟩ : ∃ k, k = (markW r).1 := ⟨_, rfl⟩
        rw [← hr2] at em
        obtain ⟨M, hM⟩ : ∃ M : Nat, M = row.length - r2.length := ⟨_, rfl⟩
        have e2 : row = (pre ++ w :: um) ++ r2 := by rw [e, em]; simp
        have plM : (pre ++ w :: um).length = M := by
          have := congrArg List.length e2
          rw [List.length_append (as := pre ++ w :: um)] at this
          omega
        obtain ⟨P, hP⟩ : ∃ P : Nat, P = pre.length := ⟨_, rfl⟩
        obtain ⟨W, hW⟩ : ∃ W : Nat, W = row.length := ⟨_, rfl⟩
        obtain ⟨RW, hRW⟩ : ∃ d, d = rowD row := ⟨_, rfl⟩
        rw [← hW] at gl hlt0
        rw [← hP] at ix0 hlt0 ⊢
        rw [← hRW] at gl ix0 ⊢
        have hle0 : ¬ W ≤ P := by omega
        refine fin_step (env1 := [some (.d RW), some (.d (.int (P : Nat))), some (.d (.int (lv : Nat))), none, none, none, none]) (by simp [gl, ix0, isn, hle0, lv40]) ?_
        refine fin_step (env1 := [some (.d RW), some (.d (.int (P : Nat))), some (.d (.int (lv : Nat))), some (.d (.str (tx w))), none, none, none]) (by simp [ix0]) ?_
        refine fin_step (env1 := [some (.d RW), some (.d (.int ((P + 1 : Nat) : Int))), some (.d (.int (lv : Nat))), some (.d (.str (tx w))), none, none, none]) (by simp) ?_
        refine fin_step (env1 := [some (.d RW), some (.d (.int ((P + 1 : Nat) : Int))), some (.d (.int (lv : Nat))), some (.d (.str (tx w))), some (.d (.int 0)), none, none]) (by simp) ?_
        have step5 : (sIf (tAndE (eB (eBin gLt (eVar 1) (eM (eCa gLen (aCons (eVar 0) aNil)) viewD)) asB) (eB (eM (eB (aCons (eBin gIx (eVar 0) (eVar 1)) aNil) (mir (n0 + l + 2) 5)) viewD) asB))
    (sSeq (sSet 4 (eM (eM (eCa gInt (aCons (eBin gIx (eVar 0) (eVar 1)) aNil)) viewD) Ow.d))
    (sAug gAddA 1 (eC (.int 1))))
    sSkip) [some (.d RW), some (.d (.int ((P + 1 : Nat) : Int))), some (.d (.int (lv : Nat))), some (.d (.str (tx w))), some (.d (.int 0)), none, none] = .nx [some (.d RW), some (.d (.int (M : Nat))), some (.d (.int (lv : Nat))), some (.d (.str (tx w))), some (.d (.int k)), none, none] := by
          cases r with
          | nil =>
            have m2 : (markW ([] : List Wo)) = (0, []) := rfl
            rw [m2] at hr2 hk
            subst hk hr2
            have : W = P + 1 := by rw [hW, hP, e]; simp
            have mw : M = P + 1 := by rw [hM, ← hW, this]; rfl
            have nl : ¬ ((P : Int) + 1 < (W : Int)) := by omega
            subst mw
            simp [gl, nl]
          | cons n r' =>
            have e1 : row = (pre ++ [w]) ++ n :: r' := by rw [e]; simp
            have ix1 := gIx_row e1
            have pl1 : (pre ++ [w]).length = P + 1 := by rw [hP]; simp
            rw [pl1, ← hRW] at ix1
            have ix1' : gIx RW (.int ((P : Int) + 1)) = some (.str (tx n)) := ix1
            have lt1 : P + 1 < W := by rw [hW, hP, e]; simp
            have nl : (P : Int) + 1 < (W : Int) := by omega
            have nv := hv n (by rw [e]; simp)
            have isu := nu_ok (n0 + l + 1) nv
            by_cases c : nuW n = true
            · have mk : markW (n :: r') = (valW n, r') := by simp [markW, c]
              rw [mk] at hr2 hk
              rw [c] at isu
              have gi := valW_of (nv.2.2.2 c)
              have mw : M = P + 2 := by
                rw [hM, hr2, hP, e]
                simp
                omega
              subst hk mw
              simp [gl, nl, ix1', isu, gi]
              omega
            · have cf : nuW n = false := by simpa using c
              have mk : markW (n :: r') = (0, n :: r') := by simp [markW, cf]
              rw [mk] at hr2 hk
              rw [cf] at isu
              have mw : M = P + 1 := by
                rw [hM, hr2, hP, e]
                simp
                omega
              subst hk mw
              simp [gl, nl, ix1', isu]
        refine fin_step step5 ?_
        refine fin_step (env1 := [some (.d RW), some (.d (.int (M : Nat))), some (.d (.int (lv : Nat))), some (.d (.str (tx w))), some (.d (.int k)), some (.l []), none]) (by simp [sizeLine_eq]) ?_
        clear step5
        rw [← hr2, ← hk]
        by_cases c : r2.head? = some [40]
        · rw [if_pos c]
          obtain ⟨r3, hr3⟩ : ∃ r3, r2 = [40] :: r3 := by
            cases r2 with
            | nil => cases c
            | cons a b => exact ⟨b, by rw [Option.some.inj c]⟩
          have e3 : row = (pre ++ w :: um) ++ [40] :: r3 := by rw [e2, hr3]
          have ix1 := gIx_row e3
          rw [plM, ← hRW] at ix1
          have eq := gEq_tx [40] [40]
          have hlt : M < W := by rw [hW, ← plM, e3]; simp
          have e4 : row = (pre ++ w :: um ++ [[40]]) ++ r3 := by rw [e3]; simp
          have pl4 : (pre ++ w :: um ++ [[40]]).length = M + 1 := by rw [List.length_append, plM]; rfl
          have r3l : r3.length ≤ 1000 := by have := congrArg List.length e4; rw [List.length_append] at this; omega
          have r2l : r2.length = r3.length + 1 := by rw [hr3]; rfl
          have lp := mloop (mir (n0 + l + 2)) row hrow lv (some (.d (.str (tx w)))) (some (.d (.int k))) (pT l) (pT_suf l) (fun ws pre e => tree_ok n0 hv hrow l ws pre (lv + 1) e (by omega)) r2.length r3 (pre ++ w :: um ++ [[40]]) [] 1000000 none e4 (by omega) (by omega) (by simp; omega)
          rw [pl4, ← hRW, List.map_nil] at lp
          have tl : r2.tail = r3 := by rw [hr3]; rfl
          rw [tl]
          cases hp : pMs (pT l) r2.length r3 with
          | none =>
            rw [hp] at lp
            obtain ⟨env', lp⟩ := lp
            generalize (1000000 : Nat) = big at lp
            have lp' : whileN loopC (loopB (mir (n0 + l + 2))) big [some (.d RW), some (.d (.int ((M : Int) + 1))), some (.d (.int (lv : Nat))), some (.d (.str (tx w))), some (.d (.int k)), some (.l []), none] = .ex "NoText" env' := lp
            simp [gl, ix1, op_is, eq, hlt, lp', outT, finR, SR.andThen]
          | some q =>
            obtain ⟨bs, r5⟩ := q
            rw [hp] at lp
            obtain ⟨y6, lp⟩ := lp
            rw [List.nil_append] at lp
            obtain ⟨ok1, ok2⟩ := pMs_ok l _ _ _ _ (fun z hz => hv z (by rw [e4]; exact List.mem_append_right _ hz)) r3l hp
            obtain ⟨u5, e5, hh5, _⟩ := pMs_suf (pT_suf l) _ _ _ _ hp
            obtain ⟨r6, hr6⟩ : ∃ r6, r5 = [41] :: r6 := by
              cases r5 with
              | nil => cases hh5
              | cons a b => exact ⟨b, by rw [Option.some.inj hh5]⟩
            have nn := gEq_nilT ok1 ok2 (by omega)
            have vw : viewD (.l (bs.map fun T => .d (encT T))) = .list (bs.map encT) := viewD_of encT bs
            have vn : viewD (.l []) = .list [] := by simp
            have sh := unDs_of encT bs
            have r5W : r5.length < W := by
              have h1 := congrArg List.length e4
              have h2 := congrArg List.length e5
              rw [List.length_append, pl4] at h1
              rw [List.length_append] at h2
              omega
            have here : ((row.length - r5.length : Nat) : Int) + 1 = ((row.length - r6.length : Nat) : Int) := by
              rw [hr6] at r5W ⊢
              rw [List.length_cons] at r5W ⊢
              omega
            have t5 : r5.tail = r6 := by rw [hr6]; rfl
            simp only
            rw [t5]
            cases hbe : bs.isEmpty with
            | true =>
              rw [hbe] at nn
              rw [if_pos rfl]
              generalize (bs.map fun T => Ow.d (encT T)) = os at lp vw sh
              generalize bs.map encT = ds at vw nn sh
              generalize (1000000 : Nat) = big at lp
              have lp' : whileN loopC (loopB (mir (n0 + l + 2))) big [some (.d RW), some (.d (.int ((M : Int) + 1))), some (.d (.int (lv : Nat))), some (.d (.str (tx w))), some (.d (.int k)), some (.l []), none] = .nx [some (.d RW), some (.d (.int ((row.length - r5.length : Nat) : Int))), some (.d (.int (lv : Nat))), some (.d (.str (tx w))), some (.d (.int k)), some (.l os), y6] := lp
              simp [gl, ix1, op_is, eq, hlt, lp', vw, vn, nn, sizeLine_eq, outT, finR, SR.andThen]
            | false =>
              rw [hbe] at nn
              rw [if_neg (by decide)]
              show _ = R.ok (Ow.d (.tuple [encT (.mk (tx w) k bs), .int ((row.length - r6.length : Nat) : Int)]))
              rw [encT_mk, ← here]
              generalize (bs.map fun T => Ow.d (encT T)) = os at lp vw sh
              generalize bs.map encT = ds at vw nn sh ⊢
              generalize ((row.length - r5.length : Nat) : Int) = NR at lp ⊢
              generalize (1000000 : Nat) = big at lp
              have lp' : whileN loopC (loopB (mir (n0 + l + 2))) big [some (.d RW), some (.d (.int ((M : Int) + 1))), some (.d (.int (lv : Nat))), some (.d (.str (tx w))), some (.d (.int k)), some (.l []), none] = .nx [some (.d RW), some (.d (.int NR)), some (.d (.int (lv : Nat))), some (.d (.str (tx w))), some (.d (.int k)), some (.l os), y6] := lp
              simp [gl, ix1, op_is, eq, hlt, lp', vw, vn, nn, sh, sizeLine_eq, finR, SR.andThen]
        · rw [if_neg c]
          show _ = R.ok (Ow.d (.tuple [encT (.mk (tx w) k []), .int ((row.length - r2.length : Nat) : Int)]))
          rw [encT_mk, List.map_nil, ← hM]
          have sh : unDs ([] : List Ow) = some [] := rfl
          cases r2 with
          | nil =>
            have : W = M := by rw [hW, hM]; simp
            have nl : ¬ ((M : Int) < (W : Int)) := by omega
            simp [gl, nl, sizeLine_eq, sh, finR]
          | cons a b =>
            have ix1 := gIx_row e2
            rw [plM, ← hRW] at ix1
            have na : a ≠ [40] := fun z => c (by rw [z]; rfl)
            have eq := gEq_tx a [40]
            rw [decide_eq_false na] at eq
            simp [gl, ix1, op_is, eq, sizeLine_eq, sh, finR]
end
end G
set_option Elab.async false
set_option linter.all false
set_option maxRecDepth 100000
set_option maxHeartbeats 4000000
namespace G
open PySem PySem.Spec L2 Mir
noncomputable section
theorem take_sum {α : Type} (f : α → Nat) {xs : List α} {i : Nat} {x : α} (h : xs[i]? = some x) : ((xs.map f).take (i + 1)).sum = ((xs.map f).take i).sum + f x := by
  rw [List.take_add_one, List.getElem?_map, h]
  simp
theorem size_run (m : Nat → List PyData → R Ow) (nm : Str) (k : Int) (bs : List Tr) (h : ∀ b ∈ bs, m 0 [encT b] = .ok (.d (.int (sizeT b)))) : runB 2 (b_size m) [encT (.mk nm k bs)] = .ok (.d (.int (sizeT (.mk nm k bs)))) := by
  have key := forL_ind (g := gtName 2) (f := sAug gAddA 1 (eM (eB (aCons (eVar 2) aNil) (m 0)) viewD)) (bs.map encT)
    (fun i env => ∃ x, env = [some (.d (encT (.mk nm k bs))), some (.d (.int ((1 + ((bs.map sizeT).take i).sum : Nat) : Int))), x]) (fun i d env hd ⟨x, he⟩ => by
      obtain ⟨b, hb, rfl⟩ := map_at hd
      subst he
      refine ⟨_, rfl, [some (.d (encT (.mk nm k bs))), some (.d (.int ((1 + ((bs.map sizeT).take (i + 1)).sum : Nat) : Int))), some (.d (encT b))], .inl ?_, _, rfl⟩
      have := h b (List.mem_of_getElem? hb)
      simp [this, take_sum sizeT hb]
      omega) [some (.d (encT (.mk nm k bs))), some (.d (.int 1)), none] ⟨none, by simp⟩
  obtain ⟨env', e1, x, e2⟩ := key
  subst e2
  rw [run_size]
  rw [List.length_map, List.take_of_length_le (by simp)] at e1
  rw [encT_mk] at e1 ⊢
  simp [e1]
  rw [sizeT, sizeTs_sum]
  omega
theorem size_ok : ∀ (n : Nat) (t : Tr), levT t ≤ n → mir n 0 [encT t] = .ok (.d (.int (sizeT t)))
  | 0, .mk nm k bs, h => by rw [levT] at h; omega
  | n + 1, .mk nm k bs, h => by
    rw [levT] at h
    exact size_run (mir n) nm k bs fun b hb => size_ok n b (levTs_le (by omega) b hb)

/-- what reading a row of words tells -/
def readW (row : List Wo) : Option Tr := match pT 40 row with
  | some (t, []) => if sizeT t ≤ 200 then some t else none
  | _ => none
theorem readT_ok (n : Nat) (segs : List (Nat × List Nat)) (t0 : Nat) (hg : Good segs t0) (hv : ∀ s ∈ segs, VW s.2) (hs : segs.length ≤ 1000) (hl : (build segs t0).length ≤ 900000) : mir (n + 45) 7 [.str (tx (build segs t0))] = (match readW (segs.map (·.2)) with
    | some t => .ok (.d (encT t))
    | none => .ex "NoText") := by
  obtain ⟨row, hrow⟩ : ∃ row : List Wo, row = segs.map (·.2) := ⟨_, rfl⟩
  have wk := words_ok (n + 41) segs t0 hg hs hl
  change mir (n + 44) 3 _ = _ at wk
  have wv : viewD (.l (segs.map fun s => .d (.str (tx s.2)))) = rowD row := by
    rw [viewD_of (fun s : Nat × List Nat => PyData.str (tx s.2)) segs, hrow]
    unfold rowD
    rw [List.map_map]
    rfl
  have rv : ∀ w ∈ row, VW w := fun w hw => by
    rw [hrow] at hw
    obtain ⟨s, h1, rfl⟩ := List.mem_map.mp hw
    exact hv s h1
  have rl : row.length ≤ 1000 := by rw [hrow, List.length_map]; exact hs
  have ta := tree_ok (n + 2) rv rl 40 row [] 1 rfl rfl
  rw [← hrow]
  have gl := gLen_row row
  rw [mir_read_tree, run_read_tree]
  have he : envOf 3 [.str (tx (build segs t0))] = [some (.d (.str (tx (build segs t0)))), none, none, none] := rfl
  rw [he]
  refine fin_step (env1 := [some (.d (.str (tx (build segs t0)))), some (.d (rowD row)), none, none]) (by
    generalize Ow.l (segs.map fun s => .d (.str (tx s.2))) = WL at wk wv
    generalize rowD row = RW at wv ⊢
    generalize tx (build segs t0) = TX at wk ⊢
    simp [wk, wv]) ?_
  change mir (n + 44) 6 [rowD row, .int 0, .int 1] = outT row.length (pT 40 row) at ta
  unfold readW
  cases hp : pT 40 row with
  | none =>
    rw [hp] at ta
    change _ = R.ex "NoText" at ta
    generalize rowD row = RW at ta ⊢
    generalize tx (build segs t0) = TX
    simp [ta, finR, SR.andThen]
    rfl
  | some q =>
    obtain ⟨t, r⟩ := q
    rw [hp] at ta
    change _ = R.ok (Ow.d (.tuple [encT t, .int ((row.length - r.length : Nat) : Int)])) at ta
    refine fin_step (env1 := [some (.d (.str (tx (build segs t0)))), some (.d (rowD row)), some (.d (encT t)), some (.d (.int ((row.length - r.length : Nat) : Int)))]) (by
      generalize rowD row = RW at ta ⊢
      generalize encT t = ET at ta ⊢
      generalize ((row.length - r.length : Nat) : Int) = NI at ta ⊢
      generalize tx (build segs t0) = TX
      simp [ta]) ?_
    obtain ⟨u, hu, eu⟩ := pT_suf 40 row t r hp
    have ul := congrArg List.length eu
    rw [List.length_append] at ul
    cases r with
    | cons a b =>
      have ne : gNe (.int ((row.length - (a :: b).length : Nat) : Int)) (.int ((row.length : Nat) : Int)) = some (.bool true) := by
        have : ((((row.length - (a :: b).length : Nat) : Int)) != ((row.length : Nat) : Int)) = true := by
          rw [bne_iff_ne]
          rw [List.length_cons] at ul ⊢
          omega
        show some (PyData.bool _) = _
        rw [← this]
        rfl
      generalize rowD row = RW at gl ⊢
      generalize encT t = ET
      generalize ((row.length - (a :: b).length : Nat) : Int) = NI at ne ⊢
      generalize tx (build segs t0) = TX
      simp [gl, ne, finR, SR.andThen]
    | nil =>
      have lv := (pT_ok 40 row t [] rv rl hp).2
      have sz := size_ok (n + 44) t (by omega)
      have gt : gGt (.int ((sizeT t : Nat) : Int)) (.int 200) = some (.bool (decide (200 < sizeT t))) := by
        show some (PyData.bool (decide ((200 : Int) < (sizeT t : Nat)))) = _
        congr 2
        rw [Bool.eq_iff_iff, decide_eq_true_iff, decide_eq_true_iff]
        omega
      have eif : (if sizeT t ≤ 200 then some t else none) = if decide (200 < sizeT t) = true then none else some t := by
        by_cases h : sizeT t ≤ 200
        · rw [if_pos h, if_neg (by simp; omega)]
        · rw [if_neg h, if_pos (by simp; omega)]
      simp only
      rw [eif]
      generalize decide (200 < sizeT t) = b at gt ⊢
      generalize ((sizeT t : Nat) : Int) = SZ at sz gt
      have e0 : ((row.length - ([] : List Wo).length : Nat) : Int) = ((row.length : Nat) : Int) := by simp
      rw [e0]
      generalize rowD row = RW at gl ⊢
      generalize ((row.length : Nat) : Int) = NI at gl ⊢
      generalize tx (build segs t0) = TX
      cases b with
      | true =>
        generalize encT t = ET at sz ⊢
        simp [gl, sz, gt, finR, SR.andThen]
      | false =>
        show finR _ = R.ok (Ow.d (encT t))
        generalize encT t = ET at sz ⊢
        simp [gl, sz, gt, finR, SR.andThen]
end
end G
set_option Elab.async false
set_option linter.all false
set_option maxRecDepth 100000
set_option maxHeartbeats 4000000
namespace G
open PySem PySem.Spec L2 Mir
noncomputable section
def toldD : Option Tr → D
  | some t => .tuple [.str "told", encT t]
  | none => .tuple [.str "refused", .bool true]
theorem told_ok (n : Nat) (TX : D) (o : Option Tr) (h : mir n 7 [TX] = (match o with
    | some t => .ok (.d (encT t))
    | none => .ex "NoText")) : mir (n + 1) 13 [TX] = .ok (.d (toldD o)) := by
  rw [mir__law_told, run__law_told]
  have he : envOf 3 [TX] = [some (.d TX), none, none, none] := rfl
  rw [he]
  have n0 : isNone PyData.none = true := rfl
  have n1 : isNone (excD "NoText") = false := rfl
  have le : lookE [("NoText", true)] "NoText" = some true := by decide +kernel
  have ge : gIsE [("NoText", true)] (excD "NoText") = .ok (.bool true) := gIsE_exc le
  refine fin_step (env1 := [some (.d TX), some (.d .none), none, none]) (by simp) ?_
  refine fin_step (env1 := [some (.d TX), some (.d .none), some (.d .none), none]) (by simp) ?_
  cases o with
  | none =>
    change mir n 7 [TX] = .ex "NoText" at h
    have bd : (sSet 2 (eM (eM (eB (aCons (eVar 0) aNil) (mir n 7)) viewD) Ow.d)) [some (.d TX), some (.d .none), some (.d .none), none] = .ex "NoText" [some (.d TX), some (.d .none), some (.d .none), none] := by
      simp [h]
      rfl
    refine fin_step (env1 := [some (.d TX), some (.d (excD "NoText")), some (.d .none), none]) (by
      rw [sTryT_ex bd le (by simp)]
      generalize excD "NoText" = EX
      simp [dropT]) ?_
    unfold toldD
    generalize excD "NoText" = EX at n1 ge ⊢
    simp [n1, ge, sizeLine_eq, finR]
  | some t =>
    change mir n 7 [TX] = .ok (.d (encT t)) at h
    have bd : (sSet 2 (eM (eM (eB (aCons (eVar 0) aNil) (mir n 7)) viewD) Ow.d)) [some (.d TX), some (.d .none), some (.d .none), none] = .nx [some (.d TX), some (.d .none), some (.d (encT t)), none] := by
      generalize encT t = ET at h ⊢
      simp [h]
    refine fin_step (env1 := [some (.d TX), some (.d .none), some (.d (encT t)), none]) (sTryT_nx bd) ?_
    show finR _ = R.ok (Ow.d (.tuple [.str "told", encT t]))
    generalize encT t = ET
    simp [n0, sizeLine_eq, finR]
def hdE (h : Wo × Int) : Ow := .d (.tuple [.str (tx h.1), .int h.2])
def trsO (ts : List Tr) : Ow := .l (ts.map fun t => .d (encT t))
def hsO (hs : List (Wo × Int)) : Ow := .l (hs.reverse.map hdE)
def ptO (cur : List Tr) (outs : List (List Tr)) : Ow := .l (outs.reverse.map trsO ++ [trsO cur])
theorem atI_last {α : Type} (xs : List α) (x : α) : atI (xs ++ [x]) (-1) = some x := by
  unfold atI
  have : ixN (xs ++ [x]).length (-1) = some xs.length := by
    unfold ixN
    rw [List.length_append, List.length_singleton]
    simp
    omega
  rw [this]
  show (xs ++ [x])[xs.length]? = _
  rw [List.getElem?_append_right (Nat.le_refl _), Nat.sub_self]
  rfl
theorem app1_last {f : Ev → R Ow} {env : Ev} {os os1 : List Ow} {r : Ow} (h : env[2]? = some (some (.l (os ++ [.l os1])))) (hf : f env = .ok r) (hl : os1.length < 16777216) : sApp1 2 (eB (eC (.int 1)) gNeg) f env = .nx (env.set 2 (some (.l (os ++ [.l (os1 ++ [r])])))) := by
  have ix : ixN (os ++ [Ow.l os1]).length (-1) = some os.length := by
    unfold ixN
    rw [List.length_append, List.length_singleton]
    simp
    omega
  unfold sApp1 own1 ownL
  rw [h]
  have g : (eB (eC (.int 1)) gNeg) env = .ok (.int (-1)) := rfl
  simp only [g, R.st_ok, ix]
  have at1 : (os ++ [Ow.l os1])[os.length]? = some (.l os1) := by
    rw [List.getElem?_append_right (Nat.le_refl _), Nat.sub_self]
    rfl
  simp only [at1, hf, R.st_ok]
  rw [if_pos (by rw [sizeLine_eq]; exact hl), List.set_append_right _ _ (Nat.le_refl _), Nat.sub_self]
  rfl
end
end G
set_option Elab.async false
set_option linter.all false
set_option maxRecDepth 100000
set_option maxHeartbeats 4000000
namespace G
open PySem PySem.Spec L2 Mir
noncomputable section
abbrev ltW : Ev → R Bool := (eB (eBin gLt (eVar 3) (eM (eCa gLen (aCons (eVar 0) aNil)) viewD)) asB)
abbrev ltN : Ev → SR := (sSeq (sSet 4 (eM (eC (.int 0)) Ow.d))
    (sSeq (sSet 5 (eM (eBin gIx (eVar 0) (eVar 3)) Ow.d))
    (sSeq (sSet 3 (eM (eM (eBinO gAdd (eVar 3) (eC (.int 1))) viewD) Ow.d))
    (sSeq (sIf (tAndE (eB (eBin gLt (eVar 3) (eM (eCa gLen (aCons (eVar 0) aNil)) viewD)) asB) (eB (eBin gIn (eBin gIx (eBin gIx (eVar 0) (eVar 3)) (eB (eC (.int 1)) gNeg)) (eC (.str "0123456789"))) asB))
    (sSeq (sSet 4 (eM (eM (eCa gInt (aCons (eBin gIx (eVar 0) (eVar 3)) aNil)) viewD) Ow.d))
    (sSet 3 (eM (eM (eBinO gAdd (eVar 3) (eC (.int 1))) viewD) Ow.d)))
    sSkip)
    (sIf (tAndE (eB (eBin gLt (eVar 3) (eM (eCa gLen (aCons (eVar 0) aNil)) viewD)) asB) (eB (eBin gEq (eBin gIx (eVar 0) (eVar 3)) (eC (.str "("))) asB))
    (sSeq (sApp 1 (eM (eTup (aCons (eVar 5) (aCons (eVar 4) aNil))) Ow.d))
    (sSeq (sApp 2 (eLst aNil))
    (sSet 3 (eM (eM (eBinO gAdd (eVar 3) (eC (.int 1))) viewD) Ow.d))))
    (sApp1 2 (eB (eC (.int 1)) gNeg) (eM (eTup (aCons (eVar 5) (aCons (eVar 4) (aCons (eTup aNil) aNil)))) Ow.d)))))))
abbrev ltP : Ev → SR := (sSeq (sXSet 6 (xPopF 2))
    (sSeq (sXSet 7 (xPop 1))
    (sSeq (sApp1 2 (eB (eC (.int 1)) gNeg) (eM (eTup (aCons (eBin gIx (eVar 7) (eC (.int 0))) (aCons (eBin gIx (eVar 7) (eC (.int 1))) (aCons (eM (eCa gTuple (aCons (eVar 6) aNil)) viewD) aNil)))) Ow.d))
    (sSet 3 (eM (eM (eBinO gAdd (eVar 3) (eC (.int 1))) viewD) Ow.d)))))
abbrev ltB : Ev → SR := (sIf (eB (eBin gIn (eBin gIx (eBin gIx (eVar 0) (eVar 3)) (eC (.int 0))) (eC (.str "abcdefghijklmnopqrstuvwxyz"))) asB)
    ltN
    (sIf (tAndE (eB (eBin gEq (eBin gIx (eVar 0) (eVar 3)) (eC (.str ")"))) asB) (tAndE (eB (eBin gNe (eM (eVarO 1) viewD) (eM (eLst aNil) viewD)) asB) (eB (eBin gNe (eM (eIxO (eVarO 2) (eB (eC (.int 1)) gNeg)) viewD) (eM (eLst aNil) viewD)) asB)))
    ltP
    (sRet (eM (eC .none) Ow.d))))
def ltE (row : List Wo) (hs : List (Wo × Int)) (cur : List Tr) (outs : List (List Tr)) (P : Nat) (x4 x5 x6 x7 : Option Ow) : Ev := [some (.d (rowD row)), some (hsO hs), some (ptO cur outs), some (.d (.int (P : Nat))), x4, x5, x6, x7]
theorem nm_at {w : Wo} (h : VW w) : ∃ c, gIx (.str (tx w)) (.int 0) = some (.str (tx [c])) ∧ inS c abc = nmW w := by
  cases w with
  | nil => exact absurd rfl h.1
  | cons c r => exact ⟨c, gIx_tx (i := 0) rfl (by have := h.2.1; omega), inS_abc c⟩
theorem nu_at {w : Wo} (h : VW w) : ∃ c, gIx (.str (tx w)) (.int (-1)) = some (.str (tx [c])) ∧ inS c figs = nuW w := by
  rcases List.eq_nil_or_concat w with e | ⟨p, x, e⟩
  · exact absurd e h.1
  · rw [List.concat_eq_append] at e
    refine ⟨x, ?_, ?_⟩
    · rw [e]
      exact gIx_last (l := p) (c := x) (by have := h.2.1; rw [e] at this; simp at this; omega)
    · rw [inS_figs, e]
      unfold nuW
      rw [List.getLast?_append]
      rfl
/-- a name: the step of the law's stack -/
theorem ltN_ok {row : List Wo} (hv : ∀ w ∈ row, VW w) (hrow : row.length ≤ 1000) {w : Wo} {r pre : List Wo} (e : row = pre ++ w :: r) (hs : List (Wo × Int)) (cur : List Tr) (outs : List (List Tr)) (h1 : hs.length ≤ 5000) (h2 : outs.length ≤ 5000) (h3 : cur.length ≤ 5000) (x4 x5 x6 x7 : Option Ow) :
    ∃ y4 y5, ltN (ltE row hs cur outs pre.length x4 x5 x6 x7) = .nx (if (markW r).2.head? = some [40] then ltE row ((w, (markW r).1) :: hs) [] (cur :: outs) (row.length - (markW r).2.tail.length) y4 y5 x6 x7 else ltE row hs (cur ++ [.mk (tx w) (markW r).1 []]) outs (row.length - (markW r).2.length) y4 y5 x6 x7) := by
  obtain ⟨um, em⟩ := markW_suf r
  obtain ⟨r2, hr2⟩ : ∃ r2, r2 = (markW r).2 := ⟨_, rfl⟩
  obtain ⟨k, hk⟩ : ∃ k, k = (markW r).1 := ⟨_, rfl⟩
  rw [← hr2] at em
  obtain ⟨M, hM⟩ : ∃ M : Nat, M = row.length - r2.length := ⟨_, rfl⟩
  have e2 : row = (pre ++ w :: um) ++ r2 := by rw [e, em]; simp
  have plM : (pre ++ w :: um).length = M := by
    have := congrArg List.length e2
    rw [List.length_append (as := pre ++ w :: um)] at this
    omega
  have gl := gLen_row row
  have ix0 := gIx_row e
  obtain ⟨P, hP⟩ : ∃ P : Nat, P = pre.length := ⟨_, rfl⟩
  obtain ⟨W, hW⟩ : ∃ W : Nat, W = row.length := ⟨_, rfl⟩
  obtain ⟨RW, hRW⟩ : ∃ d, d = rowD row := ⟨_, rfl⟩
  rw [← hW] at gl
  rw [← hP] at ix0 ⊢
  rw [← hRW] at gl ix0
  refine ⟨some (.d (.int k)), some (.d (.str (tx w))), ?_⟩
  unfold ltE
  rw [← hRW]
  refine seq_nx (env1 := [some (.d RW), some (hsO hs), some (ptO cur outs), some (.d (.int (P : Nat))), some (.d (.int 0)), x5, x6, x7]) (by
    generalize hsO hs = HS
    generalize ptO cur outs = PT
    simp) ?_
  refine seq_nx (env1 := [some (.d RW), some (hsO hs), some (ptO cur outs), some (.d (.int (P : Nat))), some (.d (.int 0)), some (.d (.str (tx w))), x6, x7]) (by
    generalize hsO hs = HS
    generalize ptO cur outs = PT
    simp [ix0]) ?_
  refine seq_nx (env1 := [some (.d RW), some (hsO hs), some (ptO cur outs), some (.d (.int ((P + 1 : Nat) : Int))), some (.d (.int 0)), some (.d (.str (tx w))), x6, x7]) (by
    generalize hsO hs = HS
    generalize ptO cur outs = PT
    simp) ?_
  refine seq_nx (env1 := [some (.d RW), some (hsO hs), some (ptO cur outs), some (.d (.int (M : Nat))), some (.d (.int k)), some (.d (.str (tx w))), x6, x7]) (by
    generalize hsO hs = HS
    generalize ptO cur outs = PT
    cases r with
    | nil =>
      have m2 : (markW ([] : List Wo)) = (0, []) := rfl
      rw [m2] at hr2 hk
      subst hk hr2
      have : W = P + 1 := by rw [hW, hP, e]; simp
      have mw : M = P + 1 := by rw [hM, ← hW, this]; rfl
      have nl : ¬ ((P : Int) + 1 < (W : Int)) := by omega
      subst mw
      simp [gl, nl]
    | cons n r' =>
      have e1 : row = (pre ++ [w]) ++ n :: r' := by rw [e]; simp
      have ix1 := gIx_row e1
      have pl1 : (pre ++ [w]).length = P + 1 := by rw [hP]; simp
      rw [pl1, ← hRW] at ix1
      have ix1' : gIx RW (.int ((P : Int) + 1)) = some (.str (tx n)) := ix1
      have lt1 : P + 1 < W := by rw [hW, hP, e]; simp
      have nl : (P : Int) + 1 < (W : Int) := by omega
      have nv := hv n (by rw [e]; simp)
      obtain ⟨c', ixc, inc⟩ := nu_at nv
      have gi2 := gIn_tx c' figs
      rw [inc] at gi2
      by_cases c : nuW n = true
      · have mk : markW (n :: r') = (valW n, r') := by simp [markW, c]
        rw [mk] at hr2 hk
        rw [c] at gi2
        have gi := valW_of (nv.2.2.2 c)
        have mw : M = P + 2 := by
          rw [hM, hr2, hP, e]
          simp
          omega
        subst hk mw
        simp [gl, nl, ix1', ixc, gi2, gi]
        omega
      · have cf : nuW n = false := by simpa using c
        have mk : markW (n :: r') = (0, n :: r') := by simp [markW, cf]
        rw [mk] at hr2 hk
        rw [cf] at gi2
        have mw : M = P + 1 := by
          rw [hM, hr2, hP, e]
          simp
          omega
        subst hk mw
        simp [gl, nl, ix1', ixc, gi2]) ?_
  rw [← hr2, ← hk, ← hM]
  by_cases c : r2.head? = some [40]
  · rw [if_pos c]
    obtain ⟨r3, hr3⟩ : ∃ r3, r2 = [40] :: r3 := by
      cases r2 with
      | nil => cases c
      | cons a b => exact ⟨b, by rw [Option.some.inj c]⟩
    have e3 : row = (pre ++ w :: um) ++ [40] :: r3 := by rw [e2, hr3]
    have ix1 := gIx_row e3
    rw [plM, ← hRW] at ix1
    have eq := gEq_tx [40] [40]
    have hlt : M < W := by rw [hW, ← plM, e3]; simp
    have tl : r2.tail = r3 := by rw [hr3]; rfl
    rw [tl]
    have here : ((row.length - r3.length : Nat) : Int) = (M : Int) + 1 := by
      have h1 := congrArg List.length hr3
      rw [List.length_cons] at h1
      have h2 := congrArg List.length e2
      rw [List.length_append (as := pre ++ w :: um), plM] at h2
      omega
    rw [here]
    have ho : hsO ((w, k) :: hs) = .l (hs.reverse.map hdE ++ [.d (.tuple [.str (tx w), .int k])]) := by
      unfold hsO
      rw [List.reverse_cons, List.map_append]
      rfl
    have po : ptO [] (cur :: outs) = .l ((outs.reverse.map trsO ++ [trsO cur]) ++ [.l []]) := by
      unfold ptO
      rw [List.reverse_cons, List.map_append]
      rfl
    rw [ho, po]
    unfold hsO ptO
    have l1 : (hs.reverse.map hdE).length < 16777216 := by rw [List.length_map, List.length_reverse]; omega
    have l2 : (outs.reverse.map trsO ++ [trsO cur]).length < 16777216 := by rw [List.length_append, List.length_map, List.length_reverse, List.length_singleton]; omega
    generalize hs.reverse.map hdE = HS at l1 ⊢
    generalize outs.reverse.map trsO ++ [trsO cur] = PT at l2 ⊢
    simp [gl, ix1, op_is, eq, hlt, sizeLine_eq, l1, l2]
  · rw [if_neg c]
    have cnd : (tAndE (eB (eBin gLt (eVar 3) (eM (eCa gLen (aCons (eVar 0) aNil)) viewD)) asB) (eB (eBin gEq (eBin gIx (eVar 0) (eVar 3)) (eC (.str "("))) asB)) [some (.d RW), some (hsO hs), some (ptO cur outs), some (.d (.int (M : Nat))), some (.d (.int k)), some (.d (.str (tx w))), x6, x7] = .ok false := by
      generalize hsO hs = HS
      generalize ptO cur outs = PT
      cases r2 with
      | nil =>
        have : W = M := by rw [hW, hM]; simp
        have nl : ¬ ((M : Int) < (W : Int)) := by omega
        simp [gl, nl]
      | cons a b =>
        have ix1 := gIx_row e2
        rw [plM, ← hRW] at ix1
        have na : a ≠ [40] := fun z => c (by rw [z]; rfl)
        have eq := gEq_tx a [40]
        rw [decide_eq_false na] at eq
        simp [gl, ix1, op_is, eq]
    rw [sIf_eq, cnd, R.st_ok, if_neg (by decide)]
    rw [app1_last (os := outs.reverse.map trsO) (os1 := cur.map fun t => .d (encT t)) (r := .d (encT (.mk (tx w) k []))) rfl (by
      rw [encT_mk, List.map_nil]
      generalize hsO hs = HS
      generalize ptO cur outs = PT
      simp [sizeLine_eq]) (by rw [List.length_map]; omega)]
    have po : ptO (cur ++ [.mk (tx w) k []]) outs = .l (outs.reverse.map trsO ++ [.l ((cur.map fun t => Ow.d (encT t)) ++ [.d (encT (.mk (tx w) k []))])]) := by
      unfold ptO trsO
      rw [List.map_append (l₁ := cur)]
      rfl
    rw [po]
    rfl
end
end G
set_option Elab.async false
set_option linter.all false
set_option maxRecDepth 100000
set_option maxHeartbeats 4000000
namespace G
open PySem PySem.Spec L2 Mir
noncomputable section
mutual
theorem lev_sizeT : ∀ t : Tr, levT t ≤ sizeT t
  | .mk nm k bs => by rw [levT, sizeT]; have := lev_sizeTs bs; omega
theorem lev_sizeTs : ∀ bs : List Tr, levTs bs ≤ sizeTs bs
  | [] => by rw [levTs, sizeTs]; omega
  | b :: bs => by rw [levTs, sizeTs]; have := lev_sizeT b; have := lev_sizeTs bs; omega
end
theorem size1 (t : Tr) : 1 ≤ sizeT t := by obtain ⟨nm, k, bs⟩ := t; rw [sizeT]; omega
theorem len_sizeTs : ∀ bs : List Tr, bs.length ≤ sizeTs bs
  | [] => by simp
  | b :: bs => by rw [sizeTs, List.length_cons]; have := len_sizeTs bs; have := size1 b; omega
theorem sizeTs_app : ∀ (a b : List Tr), sizeTs (a ++ b) = sizeTs a + sizeTs b
  | [], b => by rw [List.nil_append, sizeTs]; omega
  | x :: a, b => by rw [List.cons_append, sizeTs, sizeTs, sizeTs_app a b]; omega
/-- what stands on the stack -/
structure OkS (hs : List (Wo × Int)) (cur : List Tr) (outs : List (List Tr)) (c : Nat) : Prop where
  hn : ∀ h ∈ hs, PyData.strOk (tx h.1) = true
  tn : ∀ t ∈ cur, okT t
  on : ∀ o ∈ outs, ∀ t ∈ o, okT t
  len : outs.length = hs.length
  sz : sizeTs cur + (outs.map sizeTs).sum + hs.length + c ≤ 60
theorem nice_cur {cur : List Tr} (h : ∀ t ∈ cur, okT t) (hs : sizeTs cur ≤ 60) : Nice (.list (cur.map encT)) := by
  refine nice_list (n := 125) (fun d hd => ?_) (by omega)
  obtain ⟨t, ht, rfl⟩ := List.mem_map.mp hd
  have := lev_sizeTs cur
  have l := levTs_le (n := 60) (bs := cur) (by omega) t ht
  have := depth_encT t
  exact ⟨can_encT t (h t ht), by omega⟩
def hdD (h : Wo × Int) : D := .tuple [.str (tx h.1), .int h.2]
theorem nice_hds {hs : List (Wo × Int)} (h : ∀ x ∈ hs, PyData.strOk (tx x.1) = true) : Nice (.list (hs.map hdD)) := by
  refine nice_list (n := 5) (fun d hd => ?_) (by omega)
  obtain ⟨x, hx, rfl⟩ := List.mem_map.mp hd
  exact ⟨by simp [hdD, PyData.canLay0, PyData.canLayAll0, h x hx], by simp [hdD, PyData.depth, PyData.depthAll]⟩
theorem view_hs (hs : List (Wo × Int)) : viewD (hsO hs) = .list (hs.reverse.map hdD) := viewD_of hdD hs.reverse
theorem view_trs (cur : List Tr) : viewD (trsO cur) = .list (cur.map encT) := viewD_of encT cur
theorem ne_hs {hs : List (Wo × Int)} (h : ∀ x ∈ hs, PyData.strOk (tx x.1) = true) : gNe (.list (hs.reverse.map hdD)) (.list []) = some (.bool (!hs.isEmpty)) := by
  rw [Mir.ne_nil (nice_hds fun x hx => h x (List.mem_reverse.mp hx))]
  cases hs <;> simp
theorem ne_cur {cur : List Tr} (h : ∀ t ∈ cur, okT t) (hs : sizeTs cur ≤ 60) : gNe (.list (cur.map encT)) (.list []) = some (.bool (!cur.isEmpty)) := by
  rw [Mir.ne_nil (nice_cur h hs)]
  cases cur <;> simp
theorem ltP_ok {row : List Wo} (h : Wo × Int) (hs : List (Wo × Int)) (cur o : List Tr) (outs : List (List Tr)) (ho : o.length ≤ 5000) (P : Nat) (x4 x5 x6 x7 : Option Ow) :
    ∃ y6 y7, ltP (ltE row (h :: hs) cur (o :: outs) P x4 x5 x6 x7) = .nx (ltE row hs (o ++ [.mk (tx h.1) h.2 cur]) outs (P + 1) x4 x5 y6 y7) := by
  refine ⟨some (.d (.list (cur.map encT))), some (.d (hdD h)), ?_⟩
  have po : ptO cur (o :: outs) = .l ((outs.reverse.map trsO ++ [trsO o]) ++ [trsO cur]) := by
    unfold ptO
    rw [List.reverse_cons, List.map_append]
    rfl
  have hh : hsO (h :: hs) = .l ((hs.reverse.map hdD ++ [hdD h]).map Ow.d) := by
    unfold hsO
    rw [List.reverse_cons, List.map_append, List.map_append, List.map_map]
    rfl
  have s6 : sXSet 6 (xPopF 2) (ltE row (h :: hs) cur (o :: outs) P x4 x5 x6 x7) = .nx [some (.d (rowD row)), some (hsO (h :: hs)), some (.l (outs.reverse.map trsO ++ [trsO o])), some (.d (.int (P : Nat))), x4, x5, some (.d (.list (cur.map encT))), x7] := by
    unfold sXSet
    rw [xPopF_of (i := 2) (os := outs.reverse.map trsO ++ [trsO o]) (o := trsO cur) (by rw [← po]; rfl), view_trs]
    rfl
  have s7 : sXSet 7 (xPop 1) [some (.d (rowD row)), some (hsO (h :: hs)), some (.l (outs.reverse.map trsO ++ [trsO o])), some (.d (.int (P : Nat))), x4, x5, some (.d (.list (cur.map encT))), x7] = .nx [some (.d (rowD row)), some (hsO hs), some (.l (outs.reverse.map trsO ++ [trsO o])), some (.d (.int (P : Nat))), x4, x5, some (.d (.list (cur.map encT))), some (.d (hdD h))] := by
    unfold sXSet
    rw [xPop_of (i := 1) (dk := hs.reverse.map hdD) (d := hdD h) (by rw [← hh]; rfl)]
    unfold hsO
    rw [List.map_map]
    rfl
  refine seq_nx s6 (seq_nx s7 ?_)
  have h0 : gIx (hdD h) (.int 0) = some (.str (tx h.1)) := rfl
  have h1 : gIx (hdD h) (.int 1) = some (.int h.2) := rfl
  have gt : gTuple [.list (cur.map encT)] = some (.d (.tuple (cur.map encT))) := rfl
  refine seq_nx (env1 := [some (.d (rowD row)), some (hsO hs), some (ptO (o ++ [.mk (tx h.1) h.2 cur]) outs), some (.d (.int (P : Nat))), x4, x5, some (.d (.list (cur.map encT))), some (.d (hdD h))]) (by
    rw [app1_last (os := outs.reverse.map trsO) (os1 := o.map fun t => .d (encT t)) (r := .d (encT (.mk (tx h.1) h.2 cur))) rfl (by
      rw [encT_mk]
      generalize hsO hs = HS
      generalize (outs.reverse.map trsO ++ [trsO o]) = PT
      generalize rowD row = RW
      generalize hdD h = HD at h0 h1 ⊢
      generalize PyData.list (cur.map encT) = CL at gt ⊢
      generalize PyData.tuple (cur.map encT) = CT at gt ⊢
      simp [h0, h1, gt, sizeLine_eq]) (by rw [List.length_map]; omega)]
    have po : ptO (o ++ [.mk (tx h.1) h.2 cur]) outs = .l (outs.reverse.map trsO ++ [.l ((o.map fun t => Ow.d (encT t)) ++ [.d (encT (.mk (tx h.1) h.2 cur))])]) := by
      unfold ptO trsO
      rw [List.map_append (l₁ := o)]
      rfl
    rw [po]
    rfl) ?_
  unfold ltE
  have pp : ((P + 1 : Nat) : Int) = (P : Int) + 1 := by omega
  rw [pp]
  generalize ptO (o ++ [.mk (tx h.1) h.2 cur]) outs = PT
  generalize hsO hs = HS
  generalize rowD row = RW
  generalize hdD h = HD
  generalize PyData.list (cur.map encT) = CL
  simp
theorem lt_loop {row : List Wo} (hv : ∀ w ∈ row, VW w) (hrow : row.length ≤ 1000) : ∀ (n : Nat) (ws pre : List Wo) (hs : List (Wo × Int)) (cur : List Tr) (outs : List (List Tr)) (k : Nat) (x4 x5 x6 x7 : Option Ow), row = pre ++ ws → ws.length < n → n ≤ k → OkS hs cur outs (cntN ws) →
    (∃ env', whileN ltW ltB k (ltE row hs cur outs pre.length x4 x5 x6 x7) = .rt (.d .none) env' ∧ lawF ws hs cur outs = none) ∨ ∃ hs' cur' outs' P y4 y5 y6 y7, whileN ltW ltB k (ltE row hs cur outs pre.length x4 x5 x6 x7) = .nx (ltE row hs' cur' outs' P y4 y5 y6 y7) ∧ lawF ws hs cur outs = finM hs' cur' ∧ OkS hs' cur' outs' 0
  | 0, ws, pre, hs, cur, outs, k, x4, x5, x6, x7, e, h, _, _ => by omega
  | n + 1, ws, pre, hs, cur, outs, k, x4, x5, x6, x7, e, h, hk, ok => by
    obtain ⟨k, rfl⟩ : ∃ k', k = k' + 1 := ⟨k - 1, by omega⟩
    have gl := gLen_row row
    have len : row.length = pre.length + ws.length := by rw [e, List.length_append]
    have hsl : hs.length ≤ 60 := by have := ok.sz; omega
    have cl := len_sizeTs cur
    have ol := ok.len
    cases ws with
    | nil =>
      have hge : ¬ pre.length < row.length := by rw [len]; simp
      have cw : ltW (ltE row hs cur outs pre.length x4 x5 x6 x7) = .ok false := by
        unfold ltE
        generalize hsO hs = HS
        generalize ptO cur outs = PT
        generalize rowD row = RW at gl
        simp [gl, hge]
      exact .inr ⟨hs, cur, outs, pre.length, x4, x5, x6, x7, by rw [whileN, cw, R.st_ok]; rfl, lawF_nil hs cur outs, ⟨ok.hn, ok.tn, ok.on, ok.len, by have := ok.sz; omega⟩⟩
    | cons w r =>
      have hlt : pre.length < row.length := by rw [len]; simp
      have cw : ltW (ltE row hs cur outs pre.length x4 x5 x6 x7) = .ok true := by
        unfold ltE
        generalize hsO hs = HS
        generalize ptO cur outs = PT
        generalize rowD row = RW at gl
        simp [gl, hlt]
      have vw := hv w (by rw [e]; simp)
      obtain ⟨c0, ixn, inn⟩ := nm_at vw
      have gin := gIn_tx c0 abc
      rw [inn] at gin
      have ix0 := gIx_row e
      have cn : (eB (eBin gIn (eBin gIx (eBin gIx (eVar 0) (eVar 3)) (eC (.int 0))) (eC (.str "abcdefghijklmnopqrstuvwxyz"))) asB) (ltE row hs cur outs pre.length x4 x5 x6 x7) = .ok (nmW w) := by
        unfold ltE
        generalize hsO hs = HS
        generalize ptO cur outs = PT
        generalize rowD row = RW at ix0
        generalize nmW w = b at gin ⊢
        simp [ix0, ixn, gin]
      obtain ⟨um, em⟩ := markW_suf r
      have ml := markW_len r
      cases hw : nmW w with
      | true =>
        rw [hw] at cn
        obtain ⟨y4, y5, st⟩ := ltN_ok hv hrow e hs cur outs (by omega) (by omega) (by have := ok.sz; omega) x4 x5 x6 x7
        have bs : ltB (ltE row hs cur outs pre.length x4 x5 x6 x7) = .nx (if (markW r).2.head? = some [40] then ltE row ((w, (markW r).1) :: hs) [] (cur :: outs) (row.length - (markW r).2.tail.length) y4 y5 x6 x7 else ltE row (hs) (cur ++ [.mk (tx w) (markW r).1 []]) outs (row.length - (markW r).2.length) y4 y5 x6 x7) := by
          show sIf _ _ _ _ = _
          rw [sIf_eq, cn, R.st_ok, if_pos rfl]
          exact st
        have osz := ok.sz
        rw [cntN_cons hw] at osz
        have cm := cntN_mark r
        by_cases hd : (markW r).2.head? = some [40]
        · rw [if_pos hd] at bs
          obtain ⟨r3, hr3⟩ : ∃ r3, (markW r).2 = [40] :: r3 := by
            cases hm : (markW r).2 with
            | nil => rw [hm] at hd; cases hd
            | cons a b => rw [hm] at hd; exact ⟨b, by rw [Option.some.inj hd]⟩
          have tl : (markW r).2.tail = r3 := by rw [hr3]; rfl
          have e4 : row = (pre ++ w :: um ++ [[40]]) ++ r3 := by
            rw [e]
            rw [hr3] at em
            rw [em]
            simp
          have pl4 : (pre ++ w :: um ++ [[40]]).length = row.length - r3.length := by
            have := congrArg List.length e4
            rw [List.length_append (as := pre ++ w :: um ++ [[40]])] at this
            omega
          have r3l : r3.length < n := by
            have := congrArg List.length hr3
            rw [List.length_cons] at this h
            omega
          have c3 : cntN r3 ≤ cntN r := by
            have := cntN_tail (markW r).2
            rw [tl] at this
            omega
          rw [tl, ← pl4] at bs
          have ih := lt_loop hv hrow n r3 (pre ++ w :: um ++ [[40]]) ((w, (markW r).1) :: hs) [] (cur :: outs) k y4 y5 x6 x7 e4 r3l (by omega) ⟨fun x hx => by
            rcases List.mem_cons.mp hx with rfl | hx
            · exact vw.2.2.1
            · exact ok.hn x hx, (fun t ht => by cases ht), fun o ho => by
            rcases List.mem_cons.mp ho with rfl | ho
            · exact ok.tn
            · exact ok.on o ho, by rw [List.length_cons, List.length_cons, ol], by
            have e0 : sizeTs [] = 0 := by rw [sizeTs]
            rw [e0, List.map_cons, List.sum_cons, List.length_cons]
            omega⟩
          rw [lawF_open hs cur outs hw hd, tl]
          rcases ih with ⟨env', a, b⟩ | ⟨hs', cur', outs', P, z4, z5, z6, z7, a, b, c⟩
          · exact .inl ⟨env', by rw [whileN, cw, R.st_ok, if_pos rfl, bs]; exact a, b⟩
          · exact .inr ⟨hs', cur', outs', P, z4, z5, z6, z7, by rw [whileN, cw, R.st_ok, if_pos rfl, bs]; exact a, b, c⟩
        · rw [if_neg hd] at bs
          have e4 : row = (pre ++ w :: um) ++ (markW r).2 := by
            rw [e]
            conv => lhs; rw [em]
            simp
          have pl4 : (pre ++ w :: um).length = row.length - (markW r).2.length := by
            have := congrArg List.length e4
            rw [List.length_append (as := pre ++ w :: um)] at this
            omega
          rw [← pl4] at bs
          have ih := lt_loop hv hrow n (markW r).2 (pre ++ w :: um) hs (cur ++ [.mk (tx w) (markW r).1 []]) outs k y4 y5 x6 x7 e4 (by rw [List.length_cons] at h; omega) (by omega) ⟨ok.hn, fun t ht => by
            rcases List.mem_append.mp ht with ht | ht
            · exact ok.tn t ht
            · rw [List.mem_singleton.mp ht, okT, okTs]
              exact ⟨vw.2.2.1, by simp, trivial⟩, ok.on, ok.len, by
            have e1 : sizeTs [Tr.mk (tx w) (markW r).1 []] = 1 := by simp [sizeTs, sizeT]
            rw [sizeTs_app, e1]
            omega⟩
          rw [lawF_leaf hs cur outs hw hd]
          rcases ih with ⟨env', a, b⟩ | ⟨hs', cur', outs', P, z4, z5, z6, z7, a, b, c⟩
          · exact .inl ⟨env', by rw [whileN, cw, R.st_ok, if_pos rfl, bs]; exact a, b⟩
          · exact .inr ⟨hs', cur', outs', P, z4, z5, z6, z7, by rw [whileN, cw, R.st_ok, if_pos rfl, bs]; exact a, b, c⟩
      | false =>
        rw [hw] at cn
        have osz := ok.sz
        have eq := gEq_tx w [41]
        have nh := ne_hs ok.hn
        have nc := ne_cur ok.tn (by omega)
        have vh := view_hs hs
        have vc := view_trs cur
        have al : atI (outs.reverse.map trsO ++ [trsO cur]) (-1) = some (trsO cur) := atI_last _ _
        have vn : viewD (.l []) = .list [] := by simp
        have c2 : (tAndE (eB (eBin gEq (eBin gIx (eVar 0) (eVar 3)) (eC (.str ")"))) asB) (tAndE (eB (eBin gNe (eM (eVarO 1) viewD) (eM (eLst aNil) viewD)) asB) (eB (eBin gNe (eM (eIxO (eVarO 2) (eB (eC (.int 1)) gNeg)) viewD) (eM (eLst aNil) viewD)) asB))) (ltE row hs cur outs pre.length x4 x5 x6 x7) = .ok (decide (w = [41]) && (!hs.isEmpty && !cur.isEmpty)) := by
          unfold ltE ptO
          generalize (outs.reverse.map trsO ++ [trsO cur]) = PT at al ⊢
          generalize trsO cur = TC at al vc
          generalize hsO hs = HS at vh ⊢
          generalize PyData.list (hs.reverse.map hdD) = LH at vh nh
          generalize PyData.list (cur.map encT) = LC at vc nc
          generalize rowD row = RW at ix0 ⊢
          generalize decide (w = [41]) = b1 at eq ⊢
          generalize hs.isEmpty = b2 at nh ⊢
          generalize cur.isEmpty = b3 at nc ⊢
          cases b1 <;> cases b2 <;> cases b3 <;> simp [ix0, cl_is, eq, vh, nh, al, vc, nc, vn, sizeLine_eq]
        by_cases c : w = [41] ∧ cur ≠ []
        · obtain ⟨rfl, hc⟩ := c
          have ce : cur.isEmpty = false := by cases cur with
            | nil => exact absurd rfl hc
            | cons a b => rfl
          cases hs with
          | nil =>
            refine .inl ⟨ltE row [] cur outs pre.length x4 x5 x6 x7, ?_, lawF_top cur outs hw⟩
            have bs : ltB (ltE row [] cur outs pre.length x4 x5 x6 x7) = .rt (.d .none) (ltE row [] cur outs pre.length x4 x5 x6 x7) := by
              show sIf _ _ _ _ = _
              rw [sIf_eq, cn, R.st_ok, if_neg (by decide), sIf_eq, c2, R.st_ok, if_neg (by simp)]
              simp
            rw [whileN, cw, R.st_ok, if_pos rfl, bs]
          | cons h1 hs =>
            cases outs with
            | nil => cases ol
            | cons o outs =>
              obtain ⟨y6, y7, st⟩ := ltP_ok (row := row) h1 hs cur o outs (by
                have := len_sizeTs o
                rw [List.map_cons, List.sum_cons] at osz
                omega) pre.length x4 x5 x6 x7
              have bs : ltB (ltE row (h1 :: hs) cur (o :: outs) pre.length x4 x5 x6 x7) = .nx (ltE row hs (o ++ [.mk (tx h1.1) h1.2 cur]) outs (pre.length + 1) x4 x5 y6 y7) := by
                show sIf _ _ _ _ = _
                rw [sIf_eq, cn, R.st_ok, if_neg (by decide), sIf_eq, c2, R.st_ok, if_pos (by simp [ce])]
                exact st
              have e4 : row = (pre ++ [[41]]) ++ r := by rw [e]; simp
              have pl4 : (pre ++ [[41]]).length = pre.length + 1 := by simp
              rw [← pl4] at bs
              rw [List.map_cons, List.sum_cons, List.length_cons] at osz
              have cr : cntN r ≤ cntN ([41] :: r) := by
                have := cntN_app [[41]] r
                rw [List.singleton_append] at this
                omega
              have ih := lt_loop hv hrow n r (pre ++ [[41]]) hs (o ++ [.mk (tx h1.1) h1.2 cur]) outs k x4 x5 y6 y7 e4 (by rw [List.length_cons] at h; omega) (by omega) ⟨fun x hx => ok.hn x (List.mem_cons_of_mem _ hx), fun t ht => by
                rcases List.mem_append.mp ht with ht | ht
                · exact ok.on o List.mem_cons_self t ht
                · rw [List.mem_singleton.mp ht, okT, okTs_iff]
                  exact ⟨ok.hn h1 List.mem_cons_self, by omega, ok.tn⟩, fun q hq => ok.on q (List.mem_cons_of_mem _ hq), by simpa using ol, by
                have e1 : sizeTs [Tr.mk (tx h1.1) h1.2 cur] = 1 + sizeTs cur := by simp [sizeTs, sizeT]
                rw [sizeTs_app, e1]
                omega⟩
              rw [lawF_close h1 hs cur o outs hc]
              rcases ih with ⟨env', a, b⟩ | ⟨hs', cur', outs', P, z4, z5, z6, z7, a, b, c⟩
              · exact .inl ⟨env', by rw [whileN, cw, R.st_ok, if_pos rfl, bs]; exact a, b⟩
              · exact .inr ⟨hs', cur', outs', P, z4, z5, z6, z7, by rw [whileN, cw, R.st_ok, if_pos rfl, bs]; exact a, b, c⟩
        · refine .inl ⟨ltE row hs cur outs pre.length x4 x5 x6 x7, ?_, lawF_no hs cur outs hw c⟩
          have cf : (decide (w = [41]) && (!hs.isEmpty && !cur.isEmpty)) = false := by
            by_cases hw41 : w = [41]
            · have : cur = [] := by
                apply Classical.byContradiction
                intro z
                exact c ⟨hw41, z⟩
              rw [this]
              simp
            · simp [hw41]
          have bs : ltB (ltE row hs cur outs pre.length x4 x5 x6 x7) = .rt (.d .none) (ltE row hs cur outs pre.length x4 x5 x6 x7) := by
            show sIf _ _ _ _ = _
            rw [sIf_eq, cn, R.st_ok, if_neg (by decide), sIf_eq, c2, cf, R.st_ok, if_neg (by decide)]
            simp
          rw [whileN, cw, R.st_ok, if_pos rfl, bs]
end
end G
set_option Elab.async false
set_option linter.all false
set_option maxRecDepth 100000
set_option maxHeartbeats 4000000
namespace G
open PySem PySem.Spec L2 Mir
noncomputable section
def optD : Option Tr → D
  | some t => encT t
  | none => .none
theorem lawTree_ok (n : Nat) {row : List Wo} (hv : ∀ w ∈ row, VW w) (hrow : row.length ≤ 1000) (hc : cntN row ≤ 60) : mir (n + 1) 12 [rowD row] = .ok (.d (optD (lawF row [] [] []))) := by
  rw [mir__law_tree, run__law_tree]
  have he : envOf 7 [rowD row] = [some (.d (rowD row)), none, none, none, none, none, none, none] := rfl
  rw [he]
  have lp := lt_loop hv hrow (row.length + 1) row [] [] [] [] 1000000 none none none none rfl (by omega) (by omega) ⟨(fun h hh => by cases hh), (fun h hh => by cases hh), (fun h hh => by cases hh), rfl, by simp [sizeTs]; exact hc⟩
  refine fin_step (env1 := [some (.d (rowD row)), some (.l []), none, none, none, none, none, none]) (by
    generalize rowD row = RW
    simp [sizeLine_eq]) ?_
  refine fin_step (env1 := [some (.d (rowD row)), some (.l []), some (.l [.l []]), none, none, none, none, none]) (by
    generalize rowD row = RW
    simp [sizeLine_eq]) ?_
  refine fin_step (env1 := ltE row [] [] [] 0 none none none none) (by
    show _ = SR.nx [some (.d (rowD row)), some (.l []), some (.l [.l []]), some (.d (.int ((0 : Nat) : Int))), none, none, none, none]
    generalize rowD row = RW
    simp) ?_
  rcases lp with ⟨env', a, b⟩ | ⟨hs', cur', outs', P, y4, y5, y6, y7, a, b, ok⟩
  · rw [b]
    show finR (sSeq (whileN ltW ltB 1000000) _ (ltE row [] [] [] ([] : List Wo).length none none none none)) = _
    rw [sSeq_eq, a]
    rfl
  · rw [b]
    refine fin_step (env1 := ltE row hs' cur' outs' P y4 y5 y6 y7) a ?_
    have nh := ne_hs ok.hn
    have vh := view_hs hs'
    have vn : viewD (.l []) = .list [] := by simp
    unfold ltE
    cases hs' with
    | cons h1 hs1 =>
      have f0 : finM (h1 :: hs1) cur' = none := rfl
      rw [f0]
      generalize ptO cur' outs' = PT
      generalize hsO (h1 :: hs1) = HS at vh ⊢
      generalize PyData.list ((h1 :: hs1).reverse.map hdD) = LH at vh nh
      generalize rowD row = RW
      simp [vh, nh, vn, sizeLine_eq, optD, finR, SR.andThen]
    | nil =>
      have oe : outs' = [] := List.length_eq_zero_iff.mp ok.len
      subst oe
      have pe : ptO cur' [] = .l [trsO cur'] := rfl
      have a0 : atI [trsO cur'] 0 = some (trsO cur') := rfl
      have sh : shD (trsO cur') = .ok (.list (cur'.map encT)) := unDs_of encT cur'
      have ln : gLen [.list (cur'.map encT)] = some (.d (.int (cur'.length : Nat))) := by rw [gLen_list, List.length_map]
      rw [pe]
      cases cur' with
      | nil =>
        have f0 : finM [] [] = none := rfl
        rw [f0]
        have n1 : gNe (.int ((([] : List Tr).length : Nat) : Int)) (.int 1) = some (.bool true) := rfl
        generalize hsO [] = HS at vh ⊢
        generalize PyData.list (([] : List (Wo × Int)).reverse.map hdD) = LH at vh nh
        generalize trsO [] = TC at a0 sh ⊢
        generalize PyData.list (([] : List Tr).map encT) = LC at sh ln
        generalize ((([] : List Tr).length : Nat) : Int) = LN at ln n1
        generalize rowD row = RW
        simp [vh, nh, vn, a0, sh, ln, n1, sizeLine_eq, optD, finR, SR.andThen]
      | cons t ts =>
        cases ts with
        | cons t2 ts =>
          have f0 : finM [] (t :: t2 :: ts) = none := rfl
          rw [f0]
          have n1 : gNe (.int (((t :: t2 :: ts).length : Nat) : Int)) (.int 1) = some (.bool true) := by
            have : ((((t :: t2 :: ts).length : Nat) : Int) != 1) = true := by rw [bne_iff_ne, List.length_cons, List.length_cons]; omega
            show some (PyData.bool _) = _
            rw [← this]
            rfl
          generalize hsO [] = HS at vh ⊢
          generalize PyData.list (([] : List (Wo × Int)).reverse.map hdD) = LH at vh nh
          generalize trsO (t :: t2 :: ts) = TC at a0 sh ⊢
          generalize PyData.list ((t :: t2 :: ts).map encT) = LC at sh ln
          generalize (((t :: t2 :: ts).length : Nat) : Int) = LN at ln n1
          generalize rowD row = RW
          simp [vh, nh, vn, a0, sh, ln, n1, sizeLine_eq, optD, finR, SR.andThen]
        | nil =>
          have f0 : finM [] [t] = some t := rfl
          rw [f0]
          have n1 : gNe (.int ((([t] : List Tr).length : Nat) : Int)) (.int 1) = some (.bool false) := rfl
          have x0 : gIx (.list ([t].map encT)) (.int 0) = some (encT t) := rfl
          show finR _ = R.ok (Ow.d (encT t))
          generalize hsO [] = HS at vh ⊢
          generalize PyData.list (([] : List (Wo × Int)).reverse.map hdD) = LH at vh nh
          generalize trsO [t] = TC at a0 sh ⊢
          generalize PyData.list ([t].map encT) = LC at sh ln x0
          generalize ((([t] : List Tr).length : Nat) : Int) = LN at ln n1
          generalize encT t = ET at x0 ⊢
          generalize rowD row = RW
          simp [vh, nh, vn, a0, sh, ln, n1, x0, sizeLine_eq, finR, SR.andThen]
end
end G
set_option Elab.async false
set_option linter.all false
set_option maxRecDepth 100000
set_option maxHeartbeats 4000000
namespace G
open PySem PySem.Spec L2 Mir
noncomputable section
def NmW (w : Wo) : Prop := w ≠ [] ∧ (∀ x ∈ w, isL x = true) ∧ w.length ≤ 8
def KW (w : Wo) : Prop := NmW w ∨ (∃ k : Int, k.natAbs < 10 ^ 60 ∧ w = ik k) ∨ w = [40] ∨ w = [41]
theorem kw_wd {w : Wo} (h : KW w) : Wd w := by
  rcases h with h | ⟨k, hk, rfl⟩ | rfl | rfl
  · exact .inr (.inl h)
  · exact wd_ik hk
  · exact wd_sign (.inl rfl)
  · exact wd_sign (.inr rfl)
theorem wd_len {w : Wo} (h : Wd w) : w.length ≤ 61 := by
  rcases h with ⟨c, _, rfl⟩ | ⟨_, _, h⟩ | ⟨c, r, rfl, _, h, _⟩ | ⟨c, r, rfl, _, h, _⟩
  · simp
  · omega
  · omega
  · rw [List.length_cons]; omega
theorem wd_small {w : Wo} (h : Wd w) : ∀ c ∈ w, c < 1000 := by
  intro c hc
  rcases h with ⟨d, hd, rfl⟩ | ⟨_, h, _⟩ | ⟨d, r, rfl, h, _, _⟩ | ⟨d, r, rfl, h, _, _⟩
  · rw [List.mem_singleton.mp hc]
    have : ∀ x ∈ sigs, x < 1000 := by decide
    exact this d hd
  · exact isL_small (h c hc)
  · exact isF_small (h c hc)
  · rcases List.mem_cons.mp hc with rfl | hc
    · decide
    · exact isF_small (h c hc)
theorem kw_vw {w : Wo} (h : KW w) : VW w := by
  have wd := kw_wd h
  refine ⟨wd_ne wd, by have := wd_len wd; omega, strOk_tx (wd_small wd), fun hn => ?_⟩
  rcases h with ⟨h1, h2, h3⟩ | ⟨k, hk, rfl⟩ | rfl | rfl
  · exfalso
    rcases List.eq_nil_or_concat w with e | ⟨p, x, e⟩
    · exact h1 e
    · rw [List.concat_eq_append] at e
      unfold nuW at hn
      rw [e, List.getLast?_append] at hn
      have := (isL_sig (h2 x (by rw [e]; simp))).2.1
      simp [this] at hn
  · exact ⟨k, gInt_ik (by have := ik_len hk; omega)⟩
  · exact absurd hn (by decide)
  · exact absurd hn (by decide)
theorem nm_name {w : Wo} (h : NmW w) : nmW w = true := by
  obtain ⟨h1, h2, _⟩ := h
  cases w with
  | nil => exact absurd rfl h1
  | cons c r => exact h2 c List.mem_cons_self
theorem nm_ik (k : Int) : nmW (ik k) = false := by
  obtain ⟨c, r, e, h⟩ := ik_head k
  rw [e]
  show isL c = false
  rcases h with h | rfl
  · exact (isF_sig h).2.1
  · decide
theorem rep_one8 (c : Nat) (hc : isL c = true) (n : Nat) (hn : n = 1 ∨ n = 8) : ∃ w, NmW w ∧ repS (tx [c]) n = tx w := by
  refine ⟨(List.replicate n [c]).flatten, ?_, rfl⟩
  rcases hn with rfl | rfl
  · exact ⟨by simp, fun x hx => by simp at hx; rw [hx]; exact hc, by simp⟩
  · refine ⟨by simp [List.replicate_succ], fun x hx => ?_, by simp⟩
    obtain ⟨l, hl, hx⟩ := List.mem_flatten.mp hx
    rw [(List.mem_replicate.mp hl).2] at hx
    rw [List.mem_singleton.mp hx]
    exact hc
theorem par_is : (Str.ofString "()") = tx [40, 41] := by rw [tx_of (Str.ofString "()")]; congr 1
theorem word_by_ok (n : Nat) (c : Int) : ∃ w, KW w ∧ mir (n + 1) 9 [.int c] = .ok (.d (.str (tx w))) := by
  obtain ⟨T64, h64⟩ : ∃ T : Int, T = 10 ^ 64 := ⟨_, rfl⟩
  obtain ⟨T60, h60⟩ : ∃ T : Int, T = 10 ^ 60 := ⟨_, rfl⟩
  have p64 : gPow (.int 10) (.int 64) = some (.int T64) := by rw [h64]; exact gPow10 64 (by decide)
  have p60 : gPow (.int 10) (.int 60) = some (.int T60) := by rw [h60]; exact gPow10 60 (by decide)
  obtain ⟨N, hN⟩ : ∃ N : Int, N = c % T64 := ⟨_, rfl⟩
  have n0 : 0 ≤ N := by rw [hN]; exact Int.emod_nonneg _ (by rw [h64]; decide)
  have n1 : N < 10 ^ 64 := by rw [hN, h64]; exact Int.emod_lt_of_pos _ (by decide)
  have nb : N.natAbs < 2 ^ 250 := by
    have : (10 : Int) ^ 64 < 2 ^ 250 := by decide
    have e : (2 : Int) ^ 250 = ((2 ^ 250 : Nat) : Int) := by simp
    rw [e] at this
    generalize (2 : Nat) ^ 250 = B at this ⊢
    generalize (10 : Int) ^ 64 = B' at this n1
    omega
  have m1 : gMod (.int c) (.int T64) = some (.int N) := by rw [gMod_int (by rw [h64]; decide), hN]
  have m2 : gMod (.int N) (.int 4) = some (.int (N % 4)) := gMod_int (by decide)
  have d4 : gDiv (.int N) (.int 4) = some (.int (N / 4)) := gDiv_small (by decide) (by decide)
  have d8 : gDiv (.int N) (.int 8) = some (.int (N / 8)) := gDiv_small (by decide) (by decide)
  have d104 : gDiv (.int N) (.int 104) = some (.int (N / 104)) := gDiv_small (by decide) (by decide)
  have m26 : gMod (.int (N / 4)) (.int 26) = some (.int (N / 4 % 26)) := gMod_int (by decide)
  have m104 : gMod (.int (N / 104)) (.int 2) = some (.int (N / 104 % 2)) := gMod_int (by decide)
  have m8 : gMod (.int (N / 8)) (.int 2) = some (.int (N / 8 % 2)) := gMod_int (by decide)
  have m42 : gMod (.int (N / 4)) (.int 2) = some (.int (N / 4 % 2)) := gMod_int (by decide)
  have m60 : gMod (.int (N / 4)) (.int T60) = some (.int (N / 4 % T60)) := gMod_int (by rw [h60]; decide)
  clear hN
  have he : envOf 1 [.int c] = [some (.d (.int c)), none] := rfl
  have fin : ∀ (w : Wo) (s : Ev → SR), s [some (.d (.int c)), some (.d (.int N))] = .rt (.d (.str (tx w))) [some (.d (.int c)), some (.d (.int N))] → finR (s [some (.d (.int c)), some (.d (.int N))]) = .ok (.d (.str (tx w))) := fun w s h => by rw [h]; rfl
  by_cases c0 : N % 4 = 0
  · obtain ⟨a, ha⟩ : ∃ a : Nat, N / 4 % 26 = (a : Int) := ⟨(N / 4 % 26).toNat, by have := Int.emod_nonneg (N / 4) (b := 26) (by decide); omega⟩
    have al : a < 26 := by have := Int.emod_lt_of_pos (N / 4) (b := 26) (by decide); omega
    have ax := abc_ix al
    have aL : isL (97 + a) = true := by unfold isL; simp; omega
    have b01 : N / 104 % 2 = 0 ∨ N / 104 % 2 = 1 := by
      have := Int.emod_nonneg (N / 104) (b := 2) (by decide)
      have := Int.emod_lt_of_pos (N / 104) (b := 2) (by decide)
      omega
    rcases b01 with b | b
    · obtain ⟨w, nw, ew⟩ := rep_one8 (97 + a) aL 1 (.inl rfl)
      refine ⟨w, .inl nw, ?_⟩
      have gm : gMulZ (.str (tx [97 + a])) (.int 1) = some (.str (tx w)) := by
        rw [show (1 : Int) = ((1 : Nat) : Int) from rfl, gMulZ_str (by decide) (by rw [tx_len, sizeLine_eq]; simp), ew]
      have sh : shD (.l [.d (.int 1), .d (.int 8)]) = .ok (.list [.int 1, .int 8]) := rfl
      have x0 : gIx (.list [.int 1, .int 8]) (.int 0) = some (.int 1) := rfl
      rw [mir__law_word_by, run__law_word_by, he]
      refine fin_step (env1 := [some (.d (.int c)), some (.d (.int N))]) (by simp [p64, m1]) (fin w _ ?_)
      simp [m2, c0, d4, m26, ha, ax, d104, m104, b, sh, sizeLine_eq, x0, gm, SR.andThen]
    · obtain ⟨w, nw, ew⟩ := rep_one8 (97 + a) aL 8 (.inr rfl)
      refine ⟨w, .inl nw, ?_⟩
      have gm : gMulZ (.str (tx [97 + a])) (.int 8) = some (.str (tx w)) := by
        rw [show (8 : Int) = ((8 : Nat) : Int) from rfl, gMulZ_str (by decide) (by rw [tx_len, sizeLine_eq]; simp), ew]
      have sh : shD (.l [.d (.int 1), .d (.int 8)]) = .ok (.list [.int 1, .int 8]) := rfl
      have x0 : gIx (.list [.int 1, .int 8]) (.int 1) = some (.int 8) := rfl
      rw [mir__law_word_by, run__law_word_by, he]
      refine fin_step (env1 := [some (.d (.int c)), some (.d (.int N))]) (by simp [p64, m1]) (fin w _ ?_)
      simp [m2, c0, d4, m26, ha, ax, d104, m104, b, sh, sizeLine_eq, x0, gm, SR.andThen]
  · by_cases c1 : N % 4 = 1
    · have q0 : 0 ≤ N / 4 % T60 := Int.emod_nonneg _ (by rw [h60]; decide)
      have q1 : N / 4 % T60 < T60 := Int.emod_lt_of_pos _ (by rw [h60]; decide)
      have e60 : T60 = ((10 ^ 60 : Nat) : Int) := by rw [h60]; simp
      have b01 : N / 8 % 2 = 0 ∨ N / 8 % 2 = 1 := by
        have := Int.emod_nonneg (N / 8) (b := 2) (by decide)
        have := Int.emod_lt_of_pos (N / 8) (b := 2) (by decide)
        omega
      obtain ⟨Q, hQ⟩ : ∃ Q : Int, Q = N / 4 % T60 := ⟨_, rfl⟩
      rw [← hQ] at q0 q1 m60
      have qs : Q.natAbs < 10 ^ 60 := by
        rw [e60] at q1
        generalize (10 : Nat) ^ 60 = B at q1 ⊢
        omega
      have qb : Q.natAbs < 2 ^ 250 := Nat.lt_of_lt_of_le qs (by decide)
      have qk : ∀ s : Int, s = 1 ∨ s = -1 → (Q * s).natAbs < 10 ^ 60 := fun s hs => by
        rcases hs with rfl | rfl
        · rw [Int.mul_one]; exact qs
        · have : (Q * -1).natAbs = Q.natAbs := by rw [Int.natAbs_mul]; simp
          rw [this]; exact qs
      have gs : ∀ s : Int, s = 1 ∨ s = -1 → gStr [.int (Q * s)] = some (.d (.str (tx (ik (Q * s))))) := fun s hs => gStr_ik (Nat.lt_of_lt_of_le (qk s hs) (by decide))
      rcases b01 with b | b
      · refine ⟨ik (Q * 1), .inr (.inl ⟨_, qk 1 (.inl rfl), rfl⟩), ?_⟩
        have gm : gMul (.int Q) (.int 1) = some (.int (Q * 1)) := gMul_small qb (by decide)
        have g1 := gs 1 (.inl rfl)
        have sh : shD (.l [.d (.int 1), .d (.int (-1))]) = .ok (.list [.int 1, .int (-1)]) := rfl
        have x0 : gIx (.list [.int 1, .int (-1)]) (.int 0) = some (.int 1) := rfl
        have ng : gNeg (.int 1) = .ok (.int (-1)) := rfl
        rw [mir__law_word_by, run__law_word_by, he]
        refine fin_step (env1 := [some (.d (.int c)), some (.d (.int N))]) (by simp [p64, m1]) (fin _ _ ?_)
        generalize Q * 1 = QQ at gm g1
        simp [m2, c0, c1, d4, p60, m60, d8, m8, b, sh, sizeLine_eq, x0, ng, gm, g1, SR.andThen]
      · refine ⟨ik (Q * -1), .inr (.inl ⟨_, qk (-1) (.inr rfl), rfl⟩), ?_⟩
        have gm : gMul (.int Q) (.int (-1)) = some (.int (Q * -1)) := gMul_small qb (by decide)
        have g1 := gs (-1) (.inr rfl)
        have sh : shD (.l [.d (.int 1), .d (.int (-1))]) = .ok (.list [.int 1, .int (-1)]) := rfl
        have x0 : gIx (.list [.int 1, .int (-1)]) (.int 1) = some (.int (-1)) := rfl
        have ng : gNeg (.int 1) = .ok (.int (-1)) := rfl
        rw [mir__law_word_by, run__law_word_by, he]
        refine fin_step (env1 := [some (.d (.int c)), some (.d (.int N))]) (by simp [p64, m1]) (fin _ _ ?_)
        generalize Q * -1 = QQ at gm g1
        simp [m2, c0, c1, d4, p60, m60, d8, m8, b, sh, sizeLine_eq, x0, ng, gm, g1, SR.andThen]
    · have b01 : N / 4 % 2 = 0 ∨ N / 4 % 2 = 1 := by
        have := Int.emod_nonneg (N / 4) (b := 2) (by decide)
        have := Int.emod_lt_of_pos (N / 4) (b := 2) (by decide)
        omega
      rcases b01 with b | b
      · refine ⟨[40], .inr (.inr (.inl rfl)), ?_⟩
        have gx : gIx (.str (tx [40, 41])) (.int 0) = some (.str (tx [40])) := gIx_tx (l := [40, 41]) (i := 0) (c := 40) rfl (by decide)
        rw [mir__law_word_by, run__law_word_by, he]
        refine fin_step (env1 := [some (.d (.int c)), some (.d (.int N))]) (by simp [p64, m1]) (fin _ _ ?_)
        simp [m2, c0, c1, d4, m42, b, par_is, gx, SR.andThen]
      · refine ⟨[41], .inr (.inr (.inr rfl)), ?_⟩
        have gx : gIx (.str (tx [40, 41])) (.int 1) = some (.str (tx [41])) := gIx_tx (l := [40, 41]) (i := 1) (c := 41) rfl (by decide)
        rw [mir__law_word_by, run__law_word_by, he]
        refine fin_step (env1 := [some (.d (.int c)), some (.d (.int N))]) (by simp [p64, m1]) (fin _ _ ?_)
        simp [m2, c0, c1, d4, m42, b, par_is, gx, SR.andThen]
end
end G
set_option Elab.async false
set_option linter.all false
set_option maxRecDepth 100000
set_option maxHeartbeats 4000000
namespace G
open PySem PySem.Spec L2 Mir
noncomputable section
def wD (w : Wo) : D := .str (tx w)
def rowO (ws : List Wo) : Ow := .l (ws.map fun w => .d (wD w))
theorem shD_row (ws : List Wo) : shD (rowO ws) = .ok (rowD ws) := unDs_of wD ws
theorem view_row (ws : List Wo) : viewD (rowO ws) = rowD ws := viewD_of wD ws
theorem rowO_of (ws : List Wo) : Ow.l ((ws.map fun w => PyData.str (tx w)).map Ow.d) = rowO ws := by
  unfold rowO
  rw [List.map_map]
  rfl
theorem gAdd_row (a b : List Wo) (h : a.length + b.length ≤ 2000) : gAdd (rowD a) (rowD b) = some (rowO (a ++ b)) := by
  rw [gAdd_lst (by rw [List.length_map, List.length_map, sizeLine_eq]; omega), ← List.map_append, rowO_of]
theorem cutL_mid {α : Type} (xs : List α) (a b : Nat) : cutL xs (some (a : Int)) (some (b : Int)) = (xs.take b).drop a := by
  unfold cutL
  rw [HT.sIx_nat, HT.sIx_nat, List.drop_take]
  by_cases c : b ≤ xs.length
  · by_cases c2 : a ≤ xs.length
    · rw [show min b xs.length = b from by omega, show min a xs.length = a from by omega]
    · rw [show min b xs.length = b from by omega, show min a xs.length = xs.length from by omega, List.drop_of_length_le (Nat.le_refl _), List.drop_of_length_le (by omega)]
      simp
  · rw [show min b xs.length = xs.length from by omega]
    by_cases c2 : a ≤ xs.length
    · rw [show min a xs.length = a from by omega, List.take_of_length_le (by rw [List.length_drop]; exact Nat.le_refl _), List.take_of_length_le (by rw [List.length_drop]; omega)]
    · rw [show min a xs.length = xs.length from by omega, List.drop_of_length_le (Nat.le_refl _), List.drop_of_length_le (by omega)]
      simp
theorem sl_to (ws : List Wo) (k : Nat) : gSl (rowD ws) none (some (k : Int)) = some (rowO (ws.take k)) := by
  rw [gSl_list, cutL_take, ← List.map_take, rowO_of]
theorem sl_from (ws : List Wo) (k : Nat) : gSl (rowD ws) (some (k : Int)) none = some (rowO (ws.drop k)) := by
  rw [gSl_list, cutL_drop, ← List.map_drop, rowO_of]
theorem sl_mid (ws : List Wo) (a b : Nat) : gSl (rowD ws) (some (a : Int)) (some (b : Int)) = some (rowO ((ws.take b).drop a)) := by
  rw [gSl_list, cutL_mid, ← List.map_take, ← List.map_drop, rowO_of]
/-- a row with a word left out, put in, doubled or exchanged -/
def spoW (row : List Wo) (way t : Nat) (w : Wo) : List Wo := if row = [] ∨ way = 0 then row else
  if way = 1 then row.take t ++ row.drop (t + 1) else
  if way = 2 then row.take t ++ [w] ++ row.drop t else
  if way = 3 then row.take t ++ [row.getD t []] ++ row.drop t else
  row.take t ++ ((row.take (t + 2)).drop (t + 1) ++ [row.getD t []]) ++ row.drop (t + 2)
theorem cntN_one (w : Wo) : cntN [w] ≤ 1 := by
  unfold cntN
  exact List.length_filter_le _ _
theorem cut_row {row : List Wo} {t : Nat} (h : t < row.length) : ∃ a b, row = a ++ row.getD t [] :: b ∧ row.take t = a ∧ row.drop t = row.getD t [] :: b ∧ row.drop (t + 1) = b := by
  refine ⟨row.take t, row.drop (t + 1), ?_, rfl, ?_, rfl⟩
  · have : row.getD t [] = row[t] := by rw [List.getD_eq_getElem?_getD, List.getElem?_eq_getElem h]; rfl
    rw [this, List.getElem_cons_drop, List.take_append_drop]
  · have : row.getD t [] = row[t] := by rw [List.getD_eq_getElem?_getD, List.getElem?_eq_getElem h]; rfl
    rw [this, List.getElem_cons_drop]
theorem spo_ok (row : List Wo) (way t : Nat) (w : Wo) (ht : row ≠ [] → t < row.length) : (∀ x ∈ spoW row way t w, x ∈ row ∨ x = w) ∧ (spoW row way t w).length ≤ row.length + 1 ∧ cntN (spoW row way t w) ≤ cntN row + 1 := by
  unfold spoW
  by_cases c : row = [] ∨ way = 0
  · rw [if_pos c]
    exact ⟨fun x h => .inl h, by omega, by omega⟩
  rw [if_neg c]
  have hl := ht fun z => c (.inl z)
  obtain ⟨a, b, e, e1, e2, e3⟩ := cut_row hl
  generalize row.getD t [] = y at e e2 ⊢
  have cr : cntN row = cntN a + cntN [y] + cntN b := by rw [e, ← cntN_app, ← cntN_app]; simp
  have lr : row.length = a.length + 1 + b.length := by rw [e]; simp; omega
  have c1 := cntN_one w
  have c2 := cntN_one y
  split
  · rw [e1, e3]
    refine ⟨fun x h => .inl ?_, by simp; omega, by rw [cntN_app]; omega⟩
    rw [e]
    rcases List.mem_append.mp h with h | h
    · exact List.mem_append_left _ h
    · exact List.mem_append_right _ (List.mem_cons_of_mem _ h)
  split
  · rw [e1, e2]
    refine ⟨fun x h => ?_, by simp; omega, by
      rw [cntN_app, cntN_app, show y :: b = [y] ++ b from rfl, cntN_app]
      omega⟩
    rw [e]
    rcases List.mem_append.mp h with h | h
    · rcases List.mem_append.mp h with h | h
      · exact .inl (List.mem_append_left _ h)
      · exact .inr (List.mem_singleton.mp h)
    · exact .inl (List.mem_append_right _ h)
  split
  · rw [e1, e2]
    refine ⟨fun x h => .inl ?_, by simp; omega, by
      rw [cntN_app, cntN_app, show y :: b = [y] ++ b from rfl, cntN_app]
      omega⟩
    rw [e]
    rcases List.mem_append.mp h with h | h
    · rcases List.mem_append.mp h with h | h
      · exact List.mem_append_left _ h
      · rw [List.mem_singleton.mp h]; simp
    · exact List.mem_append_right _ h
  · have e4 : (row.take (t + 2)).drop (t + 1) = b.take 1 := by rw [List.drop_take, e3]; congr 1; omega
    have e5 : row.drop (t + 2) = b.drop 1 := by rw [← e3, List.drop_drop]
    rw [e1, e4, e5]
    have cb : cntN b = cntN (b.take 1) + cntN (b.drop 1) := by rw [← cntN_app, List.take_append_drop]
    have lb : b.length = (b.take 1).length + (b.drop 1).length := by rw [← List.length_append, List.take_append_drop]
    refine ⟨fun x h => .inl ?_, by simp only [List.length_append, List.length_singleton]; omega, by
      rw [cntN_app, cntN_app, cntN_app]
      omega⟩
    rw [e]
    rcases List.mem_append.mp h with h | h
    · rcases List.mem_append.mp h with h | h
      · exact List.mem_append_left _ h
      · rcases List.mem_append.mp h with h | h
        · exact List.mem_append_right _ (List.mem_cons_of_mem _ (List.mem_of_mem_take h))
        · rw [List.mem_singleton.mp h]; simp
    · exact List.mem_append_right _ (List.mem_cons_of_mem _ (List.mem_of_mem_drop h))
theorem nice_row {ws : List Wo} (h : ∀ w ∈ ws, KW w) : Nice (rowD ws) := by
  refine nice_list (n := 1) (fun d hd => ?_) (by omega)
  obtain ⟨w, hw, rfl⟩ := List.mem_map.mp hd
  exact ⟨by simp [PyData.canLay0, (kw_vw (h w hw)).2.2.1], by simp [PyData.depth]⟩
theorem spoilt_ok (n : Nat) {row : List Wo} (hr : ∀ w ∈ row, KW w) (hl : row.length ≤ 1000) (way : Nat) (hw : way < 5) (there : Int) (w : Wo) : ∃ t o, (row ≠ [] → t < row.length) ∧ mir (n + 1) 11 [rowD row, .int (way : Nat), .int there, .str (tx w)] = .ok o ∧ viewD o = rowD (spoW row way t w) := by
  obtain ⟨t, ht⟩ : ∃ t : Nat, t = (there % (row.length : Int)).toNat := ⟨_, rfl⟩
  have he : envOf 1 [rowD row, .int (way : Nat), .int there, .str (tx w)] = [some (.d (rowD row)), some (.d (.int (way : Nat))), some (.d (.int there)), some (.d (.str (tx w))), none] := rfl
  have eq0 : gEq (rowD row) (.list []) = some (.bool row.isEmpty) := by
    rw [Mir.eq_nil (nice_row hr)]
    cases row <;> rfl
  have v0 : viewD (.l []) = .list [] := by simp
  by_cases c : row = [] ∨ way = 0
  · refine ⟨t, .d (rowD row), fun h => ?_, ?_, by unfold spoW; rw [if_pos c]; simp⟩
    · have : 0 < row.length := List.length_pos_iff.mpr h
      have := Int.emod_lt_of_pos there (b := (row.length : Int)) (by omega)
      have := Int.emod_nonneg there (b := (row.length : Int)) (by omega)
      omega
    · rw [mir__law_spoilt, run__law_spoilt, he]
      rcases c with rfl | rfl
      · have e1 : ([] : List Wo).isEmpty = true := rfl
        rw [e1] at eq0
        generalize rowD [] = RW at eq0 ⊢
        simp [eq0, v0, sizeLine_eq, finR]
      · generalize row.isEmpty = b at eq0
        generalize rowD row = RW at eq0 ⊢
        cases b <;> simp [eq0, v0, sizeLine_eq, finR]
  · have rn : row ≠ [] := fun z => c (.inl z)
    have wn : way ≠ 0 := fun z => c (.inr z)
    have L0 : 0 < row.length := List.length_pos_iff.mpr rn
    have q1 := Int.emod_lt_of_pos there (b := (row.length : Int)) (by omega)
    have q0 := Int.emod_nonneg there (b := (row.length : Int)) (by omega)
    have tl : t < row.length := by omega
    have te : there % (row.length : Int) = (t : Int) := by omega
    have eb : row.isEmpty = false := by cases row with
      | nil => exact absurd rfl rn
      | cons a b => rfl
    rw [eb] at eq0
    have gl := gLen_row row
    have gm : gMod (.int there) (.int (row.length : Nat)) = some (.int (t : Nat)) := by rw [gMod_int (by omega), te]
    have way0 : ¬ (way : Int) = 0 := by omega
    have st := sl_to row t
    have sf := sl_from row t
    have sf1 := sl_from row (t + 1)
    have sf2 := sl_from row (t + 2)
    have sm := sl_mid row (t + 1) (t + 2)
    have t1 : ((t + 1 : Nat) : Int) = (t : Int) + 1 := by omega
    have t2 : ((t + 2 : Nat) : Int) = (t : Int) + 2 := by omega
    rw [t1] at sf1 sm
    rw [t2] at sf2 sm
    obtain ⟨a, b, e, e1, e2, e3⟩ := cut_row tl
    have ix : gIx (rowD row) (.int (t : Nat)) = some (.str (tx (row.getD t []))) := by
      have := gIx_row e
      rw [← e1, List.length_take, Nat.min_eq_left (by omega)] at this
      exact this
    have sp : spoW row way t w = (if way = 1 then row.take t ++ row.drop (t + 1) else
      if way = 2 then row.take t ++ [w] ++ row.drop t else
      if way = 3 then row.take t ++ [row.getD t []] ++ row.drop t else
      row.take t ++ ((row.take (t + 2)).drop (t + 1) ++ [row.getD t []]) ++ row.drop (t + 2)) := by unfold spoW; rw [if_neg c]
    have l1 : (row.take t).length ≤ 1000 := by rw [List.length_take]; omega
    have l2 : ∀ k, (row.drop k).length ≤ 1000 := fun k => by rw [List.length_drop]; omega
    have l3 : ((row.take (t + 2)).drop (t + 1)).length ≤ 1 := by rw [List.length_drop, List.length_take]; omega
    have one : ∀ x : Wo, shD (.l [.d (.str (tx x))]) = .ok (rowD [x]) := fun x => shD_row [x]
    refine ⟨t, rowO (spoW row way t w), fun _ => tl, ?_, view_row _⟩
    rw [mir__law_spoilt, run__law_spoilt, he]
    have sh := shD_row
    have vw := view_row
    obtain rfl | rfl | rfl | rfl : way = 1 ∨ way = 2 ∨ way = 3 ∨ way = 4 := by omega
    · rw [sp, if_pos rfl]
      have ga := gAdd_row (row.take t) (row.drop (t + 1)) (by have := l2 (t + 1); omega)
      have s1 := sh (row.take t)
      have s2 := sh (row.drop (t + 1))
      generalize rowO (row.take t) = A at st s1
      generalize rowO (row.drop (t + 1)) = B at sf1 s2
      generalize rowO (row.take t ++ row.drop (t + 1)) = C at ga ⊢
      generalize rowD (row.take t) = A' at s1 ga
      generalize rowD (row.drop (t + 1)) = B' at s2 ga
      generalize rowD row = RW at eq0 gl st sf1 ⊢
      simp [eq0, v0, sizeLine_eq, gl, gm, st, sf1, s1, s2, ga, finR, SR.andThen]
    · rw [sp, if_neg (by decide), if_pos rfl]
      have ga := gAdd_row (row.take t) [w] (by simp; omega)
      have gb := gAdd_row (row.take t ++ [w]) (row.drop t) (by have := l2 t; simp at this ⊢; omega)
      have s1 := sh (row.take t)
      have s2 := sh (row.drop t)
      have s3 := one w
      have s4 := sh (row.take t ++ [w])
      generalize rowO (row.take t) = A at st s1
      generalize rowO (row.drop t) = B at sf s2
      generalize rowO (row.take t ++ [w]) = C at ga s4
      generalize rowO (row.take t ++ [w] ++ row.drop t) = E at gb ⊢
      generalize rowD (row.take t) = A' at s1 ga
      generalize rowD (row.drop t) = B' at s2 gb
      generalize rowD (row.take t ++ [w]) = C' at s4 gb
      generalize rowD [w] = D' at s3 ga
      generalize rowD row = RW at eq0 gl st sf ⊢
      simp [eq0, v0, sizeLine_eq, gl, gm, st, sf, s1, s2, s3, s4, ga, gb, finR, SR.andThen]
    · rw [sp, if_neg (by decide), if_neg (by decide), if_pos rfl]
      generalize row.getD t [] = w at ix ⊢
      have ga := gAdd_row (row.take t) [w] (by simp; omega)
      have gb := gAdd_row (row.take t ++ [w]) (row.drop t) (by have := l2 t; simp at this ⊢; omega)
      have s1 := sh (row.take t)
      have s2 := sh (row.drop t)
      have s3 := one w
      have s4 := sh (row.take t ++ [w])
      generalize rowO (row.take t) = A at st s1
      generalize rowO (row.drop t) = B at sf s2
      generalize rowO (row.take t ++ [w]) = C at ga s4
      generalize rowO (row.take t ++ [w] ++ row.drop t) = E at gb ⊢
      generalize rowD (row.take t) = A' at s1 ga
      generalize rowD (row.drop t) = B' at s2 gb
      generalize rowD (row.take t ++ [w]) = C' at s4 gb
      generalize rowD [w] = D' at s3 ga
      generalize rowD row = RW at eq0 gl st sf ix ⊢
      simp [eq0, v0, sizeLine_eq, gl, gm, st, sf, s1, s2, s3, s4, ga, gb, ix, finR, SR.andThen]
    · rw [sp, if_neg (by decide), if_neg (by decide), if_neg (by decide)]
      generalize row.getD t [] = w at ix ⊢
      obtain ⟨M, hM⟩ : ∃ M, M = (row.take (t + 2)).drop (t + 1) := ⟨_, rfl⟩
      rw [← hM] at sm l3 ⊢
      have g0 := gAdd_row M [w] (by simp; omega)
      have ga := gAdd_row (row.take t) (M ++ [w]) (by simp at l1 ⊢; omega)
      have gb := gAdd_row (row.take t ++ (M ++ [w])) (row.drop (t + 2)) (by have := l2 (t + 2); simp at this ⊢; omega)
      have s1 := sh (row.take t)
      have s2 := sh (row.drop (t + 2))
      have s3 := one w
      have s4 := sh (row.take t ++ (M ++ [w]))
      have s5 := sh M
      have s6 := vw (M ++ [w])
      generalize rowO (row.take t) = A at st s1
      generalize rowO (row.drop (t + 2)) = B at sf2 s2
      generalize rowO (row.take t ++ (M ++ [w])) = C at ga s4
      generalize rowO (row.take t ++ (M ++ [w]) ++ row.drop (t + 2)) = E at gb ⊢
      generalize rowO M = M1 at sm s5
      generalize rowO (M ++ [w]) = M2 at g0 s6
      generalize rowD (row.take t) = A' at s1 ga
      generalize rowD (row.drop (t + 2)) = B' at s2 gb
      generalize rowD (row.take t ++ (M ++ [w])) = C' at s4 gb
      generalize rowD [w] = D' at s3 g0
      generalize rowD M = M' at s5 g0
      generalize rowD (M ++ [w]) = M2' at s6 ga
      generalize rowD row = RW at eq0 gl st sf2 sm ix ⊢
      simp [eq0, v0, sizeLine_eq, gl, gm, st, sf2, sm, s1, s2, s3, s4, s5, s6, g0, ga, gb, ix, finR, SR.andThen]
end
end G
set_option Elab.async false
set_option linter.all false
set_option maxRecDepth 100000
set_option maxHeartbeats 4000000
namespace G
open PySem PySem.Spec L2 Mir
noncomputable section
theorem sum_set {α : Type} (f : α → Nat) : ∀ (l : List α) (i : Nat) (x y : α), l[i]? = some y → ((l.set i x).map f).sum + f y = (l.map f).sum + f x
  | [], i, x, y, h => by simp at h
  | a :: l, 0, x, y, h => by
    simp at h
    subst h
    rw [List.set_cons_zero, List.map_cons, List.map_cons, List.sum_cons, List.sum_cons]
    omega
  | a :: l, i + 1, x, y, h => by
    rw [List.set_cons_succ, List.map_cons, List.map_cons, List.sum_cons, List.sum_cons]
    have := sum_set f l i x y (by simpa using h)
    omega
theorem mem_sum {α : Type} (f : α → Nat) : ∀ (l : List α) (y : α), y ∈ l → f y ≤ (l.map f).sum
  | [], y, h => by cases h
  | a :: l, y, h => by
    rw [List.map_cons, List.sum_cons]
    rcases List.mem_cons.mp h with rfl | h
    · omega
    · have := mem_sum f l y h
      omega
abbrev upB : Ev → SR := (sSeq (sSet 4 (eM (eBin gMod (eVar 3) (eBin gPow (eC (.int 10)) (eC (.int 30)))) Ow.d))
    (sApp 1 (eM (eBin gMod (eBin gDiv (eVar 4) (eC (.int 7))) (eM (eCa gMax2 (aCons (eC (.int 1)) (aCons (eB (eCa gLen (aCons (eB (eVarO 1) shD) aNil)) shD) aNil))) viewD)) Ow.d)))
abbrev twB : Ev → SR := (sSeq (sSet 4 (eM (eBin gMod (eBin gIx (eVar 0) (eVar 6)) (eBin gPow (eC (.int 10)) (eC (.int 30)))) Ow.d))
    (sSeq (sSet 5 (eLst (aCons (eBin gIx (eC (.str "abcdefghijklmnopqrstuvwxyz")) (eBin gMod (eVar 4) (eC (.int 26)))) aNil)))
    (sSeq (sIf (eB (eBin gEq (eBin gMod (eBin gDiv (eVar 4) (eC (.int 26))) (eC (.int 2))) (eC (.int 1))) asB)
    (sApp 5 (eCa gStr (aCons (eBin gSub (eBin gMod (eBin gDiv (eVar 4) (eC (.int 52))) (eC (.int 1999))) (eC (.int 999))) aNil)))
    sSkip)
    (sSeq (sIf (eB (eBin gNe (eBin gIx (eB (eVarO 2) shD) (eVar 6)) (eM (eLst aNil) viewD)) asB)
    (sSet 5 (eBinO gAdd (eB (eBinO gAdd (eB (eBinO gAdd (eB (eVarO 5) shD) (eB (eLst (aCons (eC (.str "(")) aNil)) shD)) shD) (eBin gIx (eB (eVarO 2) shD) (eVar 6))) shD) (eB (eLst (aCons (eC (.str ")")) aNil)) shD)))
    sSkip)
    (sPut 2 (eM (eM (eBinO gAdd (eB (eVarO 5) shD) (eBin gIx (eB (eVarO 2) shD) (eBin gIx (eB (eVarO 1) shD) (eVar 6)))) viewD) Ow.d) (eBin gIx (eB (eVarO 1) shD) (eVar 6)))))))
def upsO (us : List Nat) : Ow := .l (us.map fun u => .d (.int (u : Nat)))
def upsD (us : List Nat) : D := .list (us.map fun u => .int (u : Nat))
def belO (bl : List (List Wo)) : Ow := .l (bl.map fun r => .d (rowD r))
def belD (bl : List (List Wo)) : D := .list (bl.map rowD)
theorem sh_ups (us : List Nat) : shD (upsO us) = .ok (upsD us) := unDs_of (fun u : Nat => PyData.int (u : Nat)) us
theorem sh_bel (bl : List (List Wo)) : shD (belO bl) = .ok (belD bl) := unDs_of rowD bl
theorem num30 (c : Int) : ∃ N : Nat, gMod (.int c) (.int (10 ^ 30)) = some (.int (N : Nat)) ∧ (N : Int) < 10 ^ 30 := by
  refine ⟨(c % 10 ^ 30).toNat, ?_, ?_⟩
  · rw [gMod_int (by decide), Int.toNat_of_nonneg (Int.emod_nonneg _ (by decide))]
  · rw [Int.toNat_of_nonneg (Int.emod_nonneg _ (by decide))]
    exact Int.emod_lt_of_pos _ (by decide)
theorem p30 : gPow (.int 10) (.int 30) = some (.int (10 ^ 30)) := gPow10 30 (by decide)
theorem nb30 {N : Nat} (h : (N : Int) < 10 ^ 30) : (N : Int).natAbs < 2 ^ 250 := by
  have : (10 : Int) ^ 30 < 2 ^ 250 := by decide
  have e : (2 : Int) ^ 250 = ((2 ^ 250 : Nat) : Int) := by simp
  rw [e] at this
  generalize (2 : Nat) ^ 250 = B at this ⊢
  generalize (10 : Int) ^ 30 = B' at this h
  omega
theorem ups_turn (cells : D) (us : List Nat) (hl : us.length ≤ 1000) (c : Int) (x4 x5 x6 : Option Ow) (bl : Ow) : ∃ (u : Nat) (y4 : Option Ow), u ≤ us.length ∧ (0 < us.length → u < us.length) ∧ upB [some (.d cells), some (upsO us), some bl, some (.d (.int c)), x4, x5, x6] = .nx [some (.d cells), some (upsO (us ++ [u])), some bl, some (.d (.int c)), y4, x5, x6] := by
  obtain ⟨N, hN, hb⟩ := num30 c
  have nb := nb30 hb
  have d7 : gDiv (.int (N : Nat)) (.int 7) = some (.int ((N / 7 : Nat) : Int)) := (gDiv_small (by decide) (by decide)).trans (by congr 2)
  obtain ⟨M, hM⟩ : ∃ M : Nat, M = max 1 us.length := ⟨_, rfl⟩
  have mp : 0 < M := by omega
  have gm : gMod (.int ((N / 7 : Nat) : Int)) (.int (M : Nat)) = some (.int ((N / 7 % M : Nat) : Int)) := (gMod_int (by omega)).trans (by rw [Int.natCast_emod])
  have lt := Nat.mod_lt (N / 7) mp
  have gl : gLen [upsD us] = some (.d (.int (us.length : Nat))) := by
    show some (Ow.d (.int (us.map fun u : Nat => PyData.int (u : Nat)).length)) = _
    rw [List.length_map]
  have gx : gMax2 [.int 1, .int (us.length : Nat)] = some (.d (.int (M : Nat))) := by
    show some (Ow.d (.int (if (us.length : Int) > 1 then (us.length : Int) else 1))) = _
    have : (if (us.length : Int) > 1 then (us.length : Int) else 1) = (M : Int) := by
      split <;> omega
    rw [this]
  refine ⟨N / 7 % M, some (.d (.int (N : Nat))), by omega, by omega, ?_⟩
  have sh := sh_ups us
  have ap : upsO (us ++ [N / 7 % M]) = .l ((us.map fun u : Nat => Ow.d (.int (u : Nat))) ++ [.d (.int ((N / 7 % M : Nat) : Int))]) := by unfold upsO; rw [List.map_append]; rfl
  have ul : (us.map fun u : Nat => Ow.d (.int (u : Nat))).length < 16777216 := by rw [List.length_map]; omega
  rw [ap]
  unfold upsO at sh ⊢
  generalize (us.map fun u : Nat => Ow.d (.int (u : Nat))) = os at sh ul ⊢
  generalize upsD us = UD at sh gl
  have p := p30
  generalize (10 : Int) ^ 30 = T at hN p
  generalize N / 7 % M = R1 at gm ⊢
  generalize N / 7 = N7 at d7 gm
  simp [p, hN, d7, sh, gl, gx, gm, sizeLine_eq, ul]
def brW (b : List Wo) : List Wo := if b = [] then [] else [40] :: (b ++ [[41]])
theorem tw_turn (cells : D) (us : List Nat) (bl : List (List Wo)) (k u : Nat) (c : Int) (b b' : List Wo) (hc : gIx cells (.int (k : Nat)) = some (.int c)) (hu : us[k]? = some u) (hb : bl[k]? = some b) (hb' : bl[u]? = some b') (kb : ∀ w ∈ b, KW w) (lb : b.length ≤ 500) (lb' : b'.length ≤ 500) (x3 x4 x5 : Option Ow) :
    ∃ (pre : List Wo) (y4 : Option Ow), pre.length ≤ 2 ∧ (∀ w ∈ pre, KW w) ∧ cntN pre ≤ 1 ∧ pre ≠ [] ∧ twB [some (.d cells), some (upsO us), some (belO bl), x3, x4, x5, some (.d (.int (k : Nat)))] =
      .nx [some (.d cells), some (upsO us), some (belO (bl.set u ((pre ++ brW b) ++ b'))), x3, y4, some (rowO (pre ++ brW b)), some (.d (.int (k : Nat)))] := by
  obtain ⟨N, hN, hbn⟩ := num30 c
  have d26 : gMod (.int (N : Nat)) (.int 26) = some (.int ((N % 26 : Nat) : Int)) := (gMod_int (by decide)).trans (by congr 2)
  have q26 : gDiv (.int (N : Nat)) (.int 26) = some (.int ((N / 26 : Nat) : Int)) := (gDiv_small (by decide) (by decide)).trans (by congr 2)
  have q2 : gMod (.int ((N / 26 : Nat) : Int)) (.int 2) = some (.int ((N / 26 % 2 : Nat) : Int)) := (gMod_int (by decide)).trans (by congr 2)
  have q52 : gDiv (.int (N : Nat)) (.int 52) = some (.int ((N / 52 : Nat) : Int)) := (gDiv_small (by decide) (by decide)).trans (by congr 2)
  have q1999 : gMod (.int ((N / 52 : Nat) : Int)) (.int 1999) = some (.int ((N / 52 % 1999 : Nat) : Int)) := (gMod_int (by decide)).trans (by congr 2)
  have al : N % 26 < 26 := Nat.mod_lt _ (by decide)
  have ax := abc_ix al
  have aL : isL (97 + N % 26) = true := by unfold isL; simp; omega
  have nw : NmW [97 + N % 26] := ⟨by simp, fun x hx => by rw [List.mem_singleton.mp hx]; exact aL, by simp⟩
  obtain ⟨j, hj⟩ : ∃ j : Int, j = ((N / 52 % 1999 : Nat) : Int) - 999 := ⟨_, rfl⟩
  have jb : j.natAbs < 10 ^ 60 := by
    have := Nat.mod_lt (N / 52) (y := 1999) (by decide)
    have : (2000 : Nat) < 10 ^ 60 := by decide
    omega
  have gs := gStr_ik (k := j) (Nat.lt_of_lt_of_le jb (by decide))
  have sj : gSub (.int ((N / 52 % 1999 : Nat) : Int)) (.int 999) = some (.int j) := by rw [hj]; rfl
  obtain ⟨pre, hpre⟩ : ∃ pre : List Wo, pre = [97 + N % 26] :: (if N / 26 % 2 = 1 then [ik j] else []) := ⟨_, rfl⟩
  have pl : pre.length ≤ 2 := by rw [hpre]; split <;> simp
  have pk : ∀ w ∈ pre, KW w := by
    rw [hpre]
    intro w hw
    rcases List.mem_cons.mp hw with rfl | hw
    · exact .inl nw
    · split at hw
      · rw [List.mem_singleton.mp hw]; exact .inr (.inl ⟨j, jb, rfl⟩)
      · cases hw
  have pc : cntN pre ≤ 1 := by
    rw [hpre, cntN_cons (nm_name nw)]
    split
    · unfold cntN
      rw [List.filter_cons, nm_ik]
      simp
    · simp [cntN]
  refine ⟨pre, some (.d (.int (N : Nat))), pl, pk, pc, by rw [hpre]; simp, ?_⟩
  -- the name
  refine seq_nx (env1 := [some (.d cells), some (upsO us), some (belO bl), x3, some (.d (.int (N : Nat))), x5, some (.d (.int (k : Nat)))]) (by
    have p := p30
    generalize (10 : Int) ^ 30 = T at hN p
    simp [p, hc, hN]) ?_
  refine seq_nx (env1 := [some (.d cells), some (upsO us), some (belO bl), x3, some (.d (.int (N : Nat))), some (rowO [[97 + N % 26]]), some (.d (.int (k : Nat)))]) (by
    show _ = SR.nx [some (.d cells), some (upsO us), some (belO bl), x3, some (.d (.int (N : Nat))), some (.l [.d (.str (tx [97 + N % 26]))]), some (.d (.int (k : Nat)))]
    generalize N % 26 = a at d26 ax ⊢
    simp [d26, ax, sizeLine_eq]) ?_
  -- the mark
  refine seq_nx (env1 := [some (.d cells), some (upsO us), some (belO bl), x3, some (.d (.int (N : Nat))), some (rowO pre), some (.d (.int (k : Nat)))]) (by
    rw [hpre]
    by_cases c1 : N / 26 % 2 = 1
    · rw [if_pos c1]
      have c1' : ((N / 26 % 2 : Nat) : Int) = 1 := by omega
      show _ = SR.nx [some (.d cells), some (upsO us), some (belO bl), x3, some (.d (.int (N : Nat))), some (.l ([.d (.str (tx [97 + N % 26]))] ++ [.d (.str (tx (ik j)))])), some (.d (.int (k : Nat)))]
      have e5 : rowO [[97 + N % 26]] = .l [.d (.str (tx [97 + N % 26]))] := rfl
      rw [e5]
      generalize N % 26 = a
      rw [c1'] at q2
      generalize N / 26 = a1 at q26 q2
      generalize N / 52 % 1999 = a3 at q1999 sj
      generalize N / 52 = a2 at q52 q1999
      simp [q26, q2, q52, q1999, sj, gs, sizeLine_eq]
    · rw [if_neg c1]
      have c1' : ¬ ((N / 26 % 2 : Nat) : Int) = 1 := by omega
      generalize N / 26 % 2 = a2 at q2 c1'
      generalize N / 26 = a1 at q26 q2
      generalize rowO [[97 + N % 26]] = RO
      have e : gEq (.int (a2 : Nat)) (.int 1) = some (.bool false) := by
        show some (PyData.bool (decide ((a2 : Int) = 1))) = _
        rw [decide_eq_false c1']
      simp [q26, q2, c1', e]) ?_
  clear hpre gs sj hj jb
  -- the branches
  have sb := sh_bel bl
  have ixb : gIx (belD bl) (.int (k : Nat)) = some (rowD b) := atI_natD (by rw [List.getElem?_map, hb]; rfl)
  have ixb' : gIx (belD bl) (.int (u : Nat)) = some (rowD b') := atI_natD (by rw [List.getElem?_map, hb']; rfl)
  have su := sh_ups us
  have ixu : gIx (upsD us) (.int (k : Nat)) = some (.int (u : Nat)) := atI_natD (by rw [List.getElem?_map, hu]; rfl)
  have v0 : viewD (.l []) = .list [] := by simp
  refine seq_nx (env1 := [some (.d cells), some (upsO us), some (belO bl), x3, some (.d (.int (N : Nat))), some (rowO (pre ++ brW b)), some (.d (.int (k : Nat)))]) (by
    have ne : gNe (rowD b) (.list []) = some (.bool (!b.isEmpty)) := by
      rw [Mir.ne_nil (nice_row kb)]
      cases b <;> rfl
    by_cases hb0 : b = []
    · subst hb0
      have e0 : brW [] = [] := rfl
      rw [e0, List.append_nil]
      have e1 : (!([] : List Wo).isEmpty) = false := rfl
      rw [e1] at ne
      generalize rowD [] = RW at ixb ne
      generalize belO bl = BO at sb ⊢
      generalize belD bl = BD at sb ixb
      generalize rowO pre = RO
      generalize upsO us = UO
      simp [sb, ixb, v0, ne, sizeLine_eq]
    · have e1 : (!b.isEmpty) = true := by
        cases b with
        | nil => exact absurd rfl hb0
        | cons x y => rfl
      rw [e1] at ne
      have e0 : brW b = [40] :: (b ++ [[41]]) := if_neg hb0
      have er : pre ++ brW b = ((pre ++ [[40]]) ++ b) ++ [[41]] := by rw [e0]; simp
      rw [er]
      have g1 := gAdd_row pre [[40]] (by simp; omega)
      have g2 := gAdd_row (pre ++ [[40]]) b (by simp; omega)
      have g3 := gAdd_row ((pre ++ [[40]]) ++ b) [[41]] (by simp; omega)
      have s1 := shD_row pre
      have s2 := shD_row (pre ++ [[40]])
      have s3 := shD_row ((pre ++ [[40]]) ++ b)
      have o1 : shD (.l [.d (.str (tx [40]))]) = .ok (rowD [[40]]) := shD_row [[40]]
      have o2 : shD (.l [.d (.str (tx [41]))]) = .ok (rowD [[41]]) := shD_row [[41]]
      generalize rowO ((pre ++ [[40]]) ++ b ++ [[41]]) = R4 at g3 ⊢
      generalize rowO ((pre ++ [[40]]) ++ b) = R3 at g2 s3
      generalize rowO (pre ++ [[40]]) = R2 at g1 s2
      generalize rowO pre = R1 at s1 ⊢
      generalize rowD ((pre ++ [[40]]) ++ b) = D3 at s3 g3
      generalize rowD (pre ++ [[40]]) = D2 at s2 g2
      generalize rowD pre = D1 at s1 g1
      generalize rowD [[40]] = P1 at o1 g1
      generalize rowD [[41]] = P2 at o2 g3
      generalize rowD b = RW at ixb ne g2
      generalize belO bl = BO at sb ⊢
      generalize belD bl = BD at sb ixb
      generalize upsO us = UO
      simp [sb, ixb, v0, ne, sizeLine_eq, op_is, cl_is, s1, s2, s3, o1, o2, g1, g2, g3]) ?_
  -- put above
  have hul := (List.getElem?_eq_some_iff.mp hb').1
  have brl : (brW b).length ≤ b.length + 2 := by unfold brW; split <;> simp
  have ga := gAdd_row (pre ++ brW b) b' (by simp; omega)
  have vw := view_row (pre ++ brW b ++ b')
  have sr := shD_row (pre ++ brW b)
  have hx : ixN (bl.map fun r => Ow.d (rowD r)).length (u : Int) = some u := ixN_nat (by rw [List.length_map]; exact hul)
  have es : belO (bl.set u (pre ++ brW b ++ b')) = .l ((bl.map fun r => Ow.d (rowD r)).set u (.d (rowD (pre ++ brW b ++ b')))) := by
    unfold belO
    rw [List.map_set]
  rw [es]
  unfold belO at sb ⊢
  generalize rowD (pre ++ brW b ++ b') = RF at vw ⊢
  generalize rowO (pre ++ brW b ++ b') = RG at ga vw
  generalize rowD (pre ++ brW b) = RH at ga sr
  generalize rowO (pre ++ brW b) = RI at sr ⊢
  generalize rowD b' = RB at ixb' ga
  generalize (bl.map fun r => Ow.d (rowD r)) = os at hx sb ⊢
  generalize belD bl = BD at sb ixb'
  generalize upsO us = UO at su ⊢
  generalize upsD us = UD at su ixu
  simp [sb, ixb', su, ixu, sr, ga, vw, Mir.putAt, hx]
end
end G
set_option Elab.async false
set_option linter.all false
set_option maxRecDepth 100000
set_option maxHeartbeats 4000000
namespace G
open PySem PySem.Spec L2 Mir
noncomputable section
theorem brW_len (b : List Wo) : (brW b).length ≤ b.length + 2 := by unfold brW; split <;> simp
theorem brW_kw {b : List Wo} (h : ∀ w ∈ b, KW w) : ∀ w ∈ brW b, KW w := by
  intro w hw
  unfold brW at hw
  split at hw
  · cases hw
  · rcases List.mem_cons.mp hw with rfl | hw
    · exact .inr (.inr (.inl rfl))
    · rcases List.mem_append.mp hw with hw | hw
      · exact h w hw
      · rw [List.mem_singleton.mp hw]; exact .inr (.inr (.inr rfl))
theorem brW_cnt (b : List Wo) : cntN (brW b) = cntN b := by
  unfold brW
  split
  · rename_i h; rw [h]
  · have : [40] :: (b ++ [[41]]) = [[40]] ++ (b ++ [[41]]) := rfl
    rw [this, cntN_app, cntN_app]
    have e1 : cntN [[40]] = 0 := by decide
    have e2 : cntN [[41]] = 0 := by decide
    omega
structure BelOk (bl : List (List Wo)) (n k : Nat) : Prop where
  len : bl.length = n
  kw : ∀ b ∈ bl, ∀ w ∈ b, KW w
  sl : ((bl.take k).map List.length).sum ≤ 4 * (n - k)
  sc : ((bl.take k).map cntN).sum ≤ n - k
theorem take_sum1 {α : Type} (f : α → Nat) {xs : List α} {k : Nat} {x : α} (h : xs[k]? = some x) : ((xs.take (k + 1)).map f).sum = ((xs.take k).map f).sum + f x := by
  rw [List.take_add_one, h, List.map_append, List.sum_append]
  simp
theorem treeW_ok (n : Nat) (cs : List Int) (hl : cs.length ≤ 40) : ∃ row, mir (n + 1) 10 [.list (cs.map PyData.int)] = .ok (rowO row) ∧ (∀ w ∈ row, KW w) ∧ row.length ≤ 4 * cs.length ∧ cntN row ≤ cs.length := by
  obtain ⟨CD, hCD⟩ : ∃ d, d = PyData.list (cs.map .int) := ⟨_, rfl⟩
  have cel : ∀ (k : Nat) (c : Int), cs[k]? = some c → gIx CD (.int (k : Nat)) = some (.int c) := fun k c h => by
    rw [hCD]
    exact atI_natD (by rw [List.getElem?_map, h]; rfl)
  have gl : gLen [CD] = some (.d (.int (cs.length : Nat))) := by rw [hCD, gLen_list, List.length_map]
  -- the rows above
  have key1 := forL_ind (g := gtName 3) (f := upB) (cs.map PyData.int)
    (fun i env => ∃ (us : List Nat) (x3 x4 : Option Ow), env = [some (.d CD), some (upsO us), some (belO (List.replicate cs.length [])), x3, x4, none, none] ∧ us.length = i ∧ ∀ (j u : Nat), us[j]? = some u → u ≤ j ∧ (0 < j → u < j)) (fun i d env hd ⟨us, x3, x4, he, hul, hu⟩ => by
      obtain ⟨c, hc, rfl⟩ := map_at hd
      subst he
      have hil := (List.getElem?_eq_some_iff.mp hc).1
      obtain ⟨u, y4, u1, u2, e⟩ := ups_turn CD us (by omega) c x4 none none (belO (List.replicate cs.length []))
      refine ⟨_, rfl, _, .inl e, us ++ [u], _, _, rfl, by simp [hul], fun j v hv => ?_⟩
      by_cases hj : j < us.length
      · rw [List.getElem?_append_left hj] at hv
        exact hu j v hv
      · have hl2 := (List.getElem?_eq_some_iff.mp hv).1
        have : j = us.length := by simp at hl2; omega
        subst this
        simp at hv
        subst hv
        exact ⟨u1, u2⟩)
    [some (.d CD), some (upsO []), some (belO (List.replicate cs.length [])), none, none, none, none] ⟨[], none, none, rfl, rfl, fun j u h => by simp at h⟩
  obtain ⟨env1, f1, us, x3, x4, e1, ul, hu⟩ := key1
  subst e1
  rw [List.length_map] at ul
  -- the words, from the last cell back
  have key2 := forL_ind (g := gtName 6) (f := twB) (rangeCD ((cs.length : Int) - 1) (-1) cs.length)
    (fun i env => ∃ (bl : List (List Wo)) (row : List Wo) (y4 y6 : Option Ow), env = [some (.d CD), some (upsO us), some (belO bl), x3, y4, some (rowO row), y6] ∧ BelOk bl cs.length (cs.length - i) ∧ (∀ w ∈ row, KW w) ∧ row.length ≤ 4 * i ∧ cntN row ≤ i) (fun i d env hd ⟨bl, row, y4, y6, he, ok, _, _, _⟩ => by
      obtain ⟨hi, ed⟩ := rangeCD_at hd
      obtain ⟨k, hk⟩ : ∃ k : Nat, k = cs.length - 1 - i := ⟨_, rfl⟩
      have ed : d = .int (k : Nat) := by
        rw [ed]
        congr 1
        omega
      subst ed he
      have hkl : k < cs.length := by omega
      obtain ⟨c, hc⟩ : ∃ c, cs[k]? = some c := ⟨_, List.getElem?_eq_getElem hkl⟩
      obtain ⟨u, huk⟩ : ∃ u, us[k]? = some u := ⟨_, List.getElem?_eq_getElem (by omega)⟩
      have hub := hu k u huk
      obtain ⟨b, hb⟩ : ∃ b, bl[k]? = some b := ⟨_, List.getElem?_eq_getElem (by rw [ok.len]; omega)⟩
      obtain ⟨b', hb'⟩ : ∃ b', bl[u]? = some b' := ⟨_, List.getElem?_eq_getElem (by rw [ok.len]; omega)⟩
      have ek : cs.length - i = k + 1 := by omega
      have ek2 : cs.length - (i + 1) = k := by omega
      rw [ek] at ok
      have osl := ok.sl
      have osc := ok.sc
      have sl := take_sum1 List.length hb
      have sc := take_sum1 cntN hb
      have kb := ok.kw b (List.mem_of_getElem? hb)
      have kb' := ok.kw b' (List.mem_of_getElem? hb')
      have lb' : b'.length ≤ 4 * (cs.length - (k + 1)) := by
        have hm : b' ∈ bl.take (k + 1) := List.mem_of_getElem? (i := u) (by rw [List.getElem?_take_of_lt (by omega)]; exact hb')
        have := mem_sum List.length _ _ hm
        omega
      obtain ⟨pre, z4, pl, pk, pc, _, e⟩ := tw_turn CD us bl k u c b b' (cel k c hc) huk hb hb' kb (by omega) (by omega) x3 y4 (some (rowO row))
      have bl1 := brW_len b
      have bc1 := brW_cnt b
      have rl : (pre ++ brW b).length ≤ 4 + b.length := by rw [List.length_append]; omega
      have rc : cntN (pre ++ brW b) ≤ 1 + cntN b := by rw [cntN_app]; omega
      have rk : ∀ w ∈ pre ++ brW b, KW w := fun w hw => by
        rcases List.mem_append.mp hw with h | h
        · exact pk w h
        · exact brW_kw kb w h
      refine ⟨_, rfl, _, .inl e, bl.set u (pre ++ brW b ++ b'), pre ++ brW b, _, _, rfl, ⟨by rw [List.length_set]; exact ok.len, fun x hx => ?_, ?_, ?_⟩, rk, by omega, by omega⟩
      · rcases List.mem_or_eq_of_mem_set hx with h | h
        · exact ok.kw x h
        · rw [h]
          intro w hw
          rcases List.mem_append.mp hw with hw | hw
          · exact rk w hw
          · exact kb' w hw
      · rw [ek2, List.take_set]
        by_cases z : u < k
        · have := sum_set List.length (bl.take k) u (pre ++ brW b ++ b') b' (by rw [List.getElem?_take_of_lt z]; exact hb')
          rw [List.length_append (as := pre ++ brW b)] at this
          omega
        · have z2 : (bl.take k).length ≤ u := by rw [List.length_take]; omega
          rw [List.set_eq_of_length_le z2]
          omega
      · rw [ek2, List.take_set]
        by_cases z : u < k
        · have := sum_set cntN (bl.take k) u (pre ++ brW b ++ b') b' (by rw [List.getElem?_take_of_lt z]; exact hb')
          rw [cntN_app (pre ++ brW b)] at this
          omega
        · have z2 : (bl.take k).length ≤ u := by rw [List.length_take]; omega
          rw [List.set_eq_of_length_le z2]
          omega)
    [some (.d CD), some (upsO us), some (belO (List.replicate cs.length [])), x3, x4, some (rowO []), none]
    ⟨List.replicate cs.length [], [], x4, none, rfl, ⟨List.length_replicate, (fun b hb w hw => by
      rw [List.eq_of_mem_replicate hb] at hw
      cases hw), (by
      rw [List.take_replicate, List.map_replicate]
      simp), (by
      rw [List.take_replicate, List.map_replicate]
      simp [cntN])⟩, (fun w hw => by cases hw), (by simp), (by simp [cntN])⟩
  obtain ⟨env2, f2, bl, row, y4, y6, e2, _, rk, rl, rc⟩ := key2
  subst e2
  have hlen : (rangeCD ((cs.length : Int) - 1) (-1) cs.length).length = cs.length := by simp [rangeCD]
  rw [hlen] at rl rc
  refine ⟨row, ?_, rk, rl, rc⟩
  rw [mir__law_tree_words, run__law_tree_words, ← hCD, show envOf 6 [CD] = [some (.d CD), none, none, none, none, none, none] from rfl]
  have lc : eLc (eB (eVar 0) itD) (gtName 3) cYes (eM (eM (eLst aNil) viewD) Ow.d) [3] [some (.d CD), some (upsO []), none, none, none, none, none] = .ok (belO (List.replicate cs.length [])) := by
    refine eLc_of (ds := cs.map .int) (by rw [hCD]; simp) (by rw [List.length_map, sizeLine_eq]; omega) ?_
    rw [lcR_all (g := gtName 3) (c := cYes) (e := eM (eM (eLst aNil) viewD) Ow.d) (fun _ => .d (rowD [])) (cs.map PyData.int) fun d hd => ⟨[some (.d CD), some (upsO []), none, some (.d d), none, none, none], by simp [wipeE], rfl, by simp [sizeLine_eq]⟩]
    congr 1
    rw [List.map_replicate]
    exact List.eq_replicate_iff.mpr ⟨by simp, fun b hb => by
      obtain ⟨_, _, rfl⟩ := List.mem_map.mp hb
      rfl⟩
  refine fin_step (env1 := [some (.d CD), some (upsO []), none, none, none, none, none]) (by
    show _ = SR.nx [some (.d CD), some (.l []), none, none, none, none, none]
    simp [sizeLine_eq]) ?_
  refine fin_step (env1 := [some (.d CD), some (upsO []), some (belO (List.replicate cs.length [])), none, none, none, none]) (by
    rw [sSet_eq, show (List.map (·.2) ([("_law_cell", 3)] : List (Str × Nat))) = [3] from rfl, lc]
    rfl) ?_
  refine fin_step (env1 := [some (.d CD), some (upsO us), some (belO (List.replicate cs.length [])), x3, x4, none, none]) (by
    rw [sFor_eq]
    have : (eB (eVar 0) itD) [some (.d CD), some (upsO []), some (belO (List.replicate cs.length [])), none, none, none, none] = .ok (cs.map PyData.int) := by rw [hCD]; simp
    rw [this, R.st_ok]
    exact f1) ?_
  refine fin_step (env1 := [some (.d CD), some (upsO us), some (belO (List.replicate cs.length [])), x3, x4, some (rowO []), none]) (by
    show _ = SR.nx [some (.d CD), some (upsO us), some (belO (List.replicate cs.length [])), x3, x4, some (.l []), none]
    generalize upsO us = UO
    generalize belO (List.replicate cs.length []) = BO
    simp [sizeLine_eq]) ?_
  have rg := rg3_all cs.length (by omega)
  refine fin_step (env1 := [some (.d CD), some (upsO us), some (belO bl), x3, y4, some (rowO row), y6]) (by
    rw [sFor_eq]
    have e3 : (eB (aCons (eBin gSub (eM (eCa gLen (aCons (eVar 0) aNil)) viewD) (eC (.int 1))) (aCons (eB (eC (.int 1)) gNeg) (aCons (eB (eC (.int 1)) gNeg) aNil))) rg3) [some (.d CD), some (upsO us), some (belO (List.replicate cs.length [])), x3, x4, some (rowO []), none] = .ok (rangeCD ((cs.length : Int) - 1) (-1) cs.length) := by
      generalize upsO us = UO
      generalize belO (List.replicate cs.length []) = BO
      generalize rowO [] = RO
      generalize rangeCD ((cs.length : Int) - 1) (-1) cs.length = RG at rg
      simp [gl, rg]
    rw [e3, R.st_ok]
    exact f2) ?_
  simp [sRetV, finR]
end
end G
set_option Elab.async false
set_option linter.all false
set_option maxRecDepth 100000
set_option maxHeartbeats 4000000
namespace G
open PySem PySem.Spec L2 Mir
noncomputable section
def segR (r : List Wo) : List (Nat × List Nat) := r.map fun w => (1, w)
def segW : List Wo → List (Nat × List Nat)
  | [] => []
  | w :: r => (0, w) :: segR r
theorem segW_w (row : List Wo) : (segW row).map (·.2) = row := by
  cases row with
  | nil => rfl
  | cons w r =>
    rw [segW, List.map_cons, segR, List.map_map]
    congr 1
    exact (List.map_congr_left fun x _ => rfl).trans (List.map_id r)
theorem build_segR : ∀ r : List Wo, build (segR r) 0 = (r.map fun b => [32] ++ b).flatten
  | [] => rfl
  | w :: r => by
    have := build_segR r
    unfold segR at this ⊢
    rw [List.map_cons, build, this, List.map_cons, List.flatten_cons]
    simp
theorem build_segW (row : List Wo) : build (segW row) 0 = glue [32] row := by
  cases row with
  | nil => rfl
  | cons w r => rw [segW, build, build_segR, glue]; simp
theorem calm_segR (r : List Wo) : calm (build (segR r) 0) := by
  cases r with
  | nil => exact calm_nil 0
  | cons w r => exact calm_seg (.inl (by decide))
theorem good_segR : ∀ r : List Wo, (∀ w ∈ r, Wd w) → Good (segR r) 0
  | [], _ => trivial
  | w :: r, h => ⟨h w List.mem_cons_self, fol_calm (calm_segR r), good_segR r fun x hx => h x (List.mem_cons_of_mem _ hx)⟩
theorem good_segW (row : List Wo) (h : ∀ w ∈ row, Wd w) : Good (segW row) 0 := by
  cases row with
  | nil => trivial
  | cons w r => exact ⟨h w List.mem_cons_self, fol_calm (calm_segR r), good_segR r fun x hx => h x (List.mem_cons_of_mem _ hx)⟩
theorem build_len : ∀ segs : List (Nat × List Nat), (∀ s ∈ segs, s.1 ≤ 1 ∧ s.2.length ≤ 100) → (build segs 0).length ≤ 101 * segs.length
  | [], _ => by simp [build]
  | (b, w) :: r, h => by
    have h0 := h (b, w) List.mem_cons_self
    have ih := build_len r fun s hs => h s (List.mem_cons_of_mem _ hs)
    simp only at h0
    rw [build, List.length_append, List.length_append, List.length_replicate, List.length_cons]
    omega
theorem segW_one (row : List Wo) : ∀ s ∈ segW row, s.1 ≤ 1 ∧ s.2 ∈ row := by
  cases row with
  | nil => intro s h; cases h
  | cons w r =>
    intro s h
    rw [segW] at h
    rcases List.mem_cons.mp h with rfl | h
    · exact ⟨Nat.zero_le _, List.mem_cons_self⟩
    · obtain ⟨x, hx, rfl⟩ := List.mem_map.mp h
      exact ⟨Nat.le_refl _, List.mem_cons_of_mem _ hx⟩
theorem told_segs (n : Nat) (segs : List (Nat × List Nat)) (hg : Good segs 0) (hv : ∀ s ∈ segs, KW s.2) (hb : ∀ s ∈ segs, s.1 ≤ 1) (hs : segs.length ≤ 1000) : mir (n + 46) 13 [.str (tx (build segs 0))] = .ok (.d (toldD (readW (segs.map (·.2))))) := by
  have r := readT_ok n segs 0 hg (fun s h => kw_vw (hv s h)) hs (by
    have := build_len segs fun s h => ⟨hb s h, (kw_vw (hv s h)).2.1⟩
    omega)
  exact told_ok (n + 45) _ _ r
theorem told_row (n : Nat) {row : List Wo} (h : ∀ w ∈ row, KW w) (hl : row.length ≤ 1000) : mir (n + 46) 13 [.str (tx (glue [32] row))] = .ok (.d (toldD (readW row))) := by
  have hs : (segW row).length = row.length := by
    have := congrArg List.length (segW_w row)
    rw [List.length_map] at this
    exact this
  have := told_segs n (segW row) (good_segW row fun w hw => kw_wd (h w hw)) (fun s hs => h s.2 (segW_one row s hs).2) (fun s hs => (segW_one row s hs).1) (by omega)
  rw [build_segW, segW_w] at this
  exact this
/-- with few names the reader tells what the law's stack tells -/
theorem read_law {row : List Wo} (h : cntN row < 40) : readW row = lawF row [] [] [] := by
  rw [read_agree h]
  unfold readW
  cases hp : pT 40 row with
  | none => rfl
  | some q =>
    obtain ⟨t, r⟩ := q
    cases r with
    | cons a b => rfl
    | nil =>
      have := pT_size 40 row t [] hp
      simp only
      rw [if_pos (by omega)]
theorem nice_told {o : Option Tr} (h : ∀ t, o = some t → okT t ∧ levT t ≤ 40) : Nice (toldD o) := by
  cases o with
  | none => exact ⟨by decide +kernel, by simp [toldD, PyData.depth, PyData.depthAll]⟩
  | some t =>
    obtain ⟨a, b⟩ := h t rfl
    have c := can_encT t a
    have d := depth_encT t
    refine ⟨?_, ?_⟩
    · show PyData.canLay0 (.tuple [.str "told", encT t]) = true
      have s0 : PyData.strOk (Str.ofString "told") = true := by decide +kernel
      simp [PyData.canLay0, PyData.canLayAll0, c, s0]
    · show PyData.depth (.tuple [.str "told", encT t]) ≤ 130
      simp [PyData.depth, PyData.depthAll]
      omega
theorem readW_ok {row : List Wo} (h : ∀ w ∈ row, KW w) (hl : row.length ≤ 1000) : ∀ t, readW row = some t → okT t ∧ levT t ≤ 40 := by
  intro t e
  unfold readW at e
  cases hp : pT 40 row with
  | none => rw [hp] at e; cases e
  | some q =>
    obtain ⟨u, r⟩ := q
    rw [hp] at e
    cases r with
    | cons a b => cases e
    | nil =>
      simp only at e
      split at e
      · cases e
        exact pT_ok 40 row _ _ (fun w hw => kw_vw (h w hw)) hl hp
      · cases e
end
end G
set_option Elab.async false
set_option linter.all false
set_option maxRecDepth 100000
set_option maxHeartbeats 4000000
namespace G
open PySem PySem.Spec L2 Mir
noncomputable section
def hasB (wide : Nat) : Nat := if wide = 0 then 0 else 1
def gIn0 : Nat → List (Nat × List Nat)
  | 0 => [(0, [97])]
  | w + 1 => (0, [97]) :: (0, [40]) :: (0, [98]) :: (List.replicate w (1, [98]) ++ [(0, [41])])
def gSeg (wide : Nat) : Nat → List (Nat × List Nat)
  | 0 => gIn0 wide
  | d + 1 => (0, [97]) :: (0, [40]) :: (gSeg wide d ++ [(0, [41])])
def bT : Tr := .mk (tx [98]) 0 []
def gTree (wide : Nat) : Nat → Tr
  | 0 => .mk (tx [97]) 0 (List.replicate wide bT)
  | d + 1 => .mk (tx [97]) 0 [gTree wide d]
def gWs (wide : Nat) : Nat → List Wo
  | 0 => [97] :: (if wide = 0 then [] else [40] :: (List.replicate wide [98] ++ [[41]]))
  | d + 1 => [97] :: [40] :: (gWs wide d ++ [[41]])
theorem gSeg_w (wide : Nat) : ∀ d, (gSeg wide d).map (·.2) = gWs wide d
  | 0 => by
    rw [gSeg, gWs]
    cases wide with
    | zero => rfl
    | succ w =>
      rw [if_neg (by omega), gIn0]
      simp [List.replicate_succ]
  | d + 1 => by
    have := gSeg_w wide d
    rw [gSeg, gWs]
    simp [this]
theorem gSeg_mem (wide : Nat) : ∀ d, ∀ s ∈ gSeg wide d, s.1 ≤ 1 ∧ (s.2 = [97] ∨ s.2 = [98] ∨ s.2 = [40] ∨ s.2 = [41])
  | 0, s, h => by
    rw [gSeg] at h
    cases wide with
    | zero =>
      rw [gIn0] at h
      rw [List.mem_singleton.mp h]
      exact ⟨Nat.zero_le _, .inl rfl⟩
    | succ w =>
      rw [gIn0] at h
      rcases List.mem_cons.mp h with rfl | h
      · exact ⟨Nat.zero_le _, .inl rfl⟩
      rcases List.mem_cons.mp h with rfl | h
      · exact ⟨Nat.zero_le _, .inr (.inr (.inl rfl))⟩
      rcases List.mem_cons.mp h with rfl | h
      · exact ⟨Nat.zero_le _, .inr (.inl rfl)⟩
      rcases List.mem_append.mp h with h | h
      · rw [List.eq_of_mem_replicate h]
        exact ⟨Nat.le_refl _, .inr (.inl rfl)⟩
      · rw [List.mem_singleton.mp h]
        exact ⟨Nat.zero_le _, .inr (.inr (.inr rfl))⟩
  | d + 1, s, h => by
    rw [gSeg] at h
    rcases List.mem_cons.mp h with rfl | h
    · exact ⟨Nat.zero_le _, .inl rfl⟩
    rcases List.mem_cons.mp h with rfl | h
    · exact ⟨Nat.zero_le _, .inr (.inr (.inl rfl))⟩
    rcases List.mem_append.mp h with h | h
    · exact gSeg_mem wide d s h
    · rw [List.mem_singleton.mp h]
      exact ⟨Nat.zero_le _, .inr (.inr (.inr rfl))⟩
theorem kw_a : KW [97] := .inl ⟨by simp, fun x hx => by rw [List.mem_singleton.mp hx]; decide, by decide⟩
theorem kw_b : KW [98] := .inl ⟨by simp, fun x hx => by rw [List.mem_singleton.mp hx]; decide, by decide⟩
theorem gSeg_kw (wide d : Nat) : ∀ s ∈ gSeg wide d, KW s.2 := fun s h => by
  rcases (gSeg_mem wide d s h).2 with e | e | e | e
  · rw [e]; exact kw_a
  · rw [e]; exact kw_b
  · rw [e]; exact .inr (.inr (.inl rfl))
  · rw [e]; exact .inr (.inr (.inr rfl))
theorem gSeg_len (wide : Nat) : ∀ d, (gSeg wide d).length ≤ 3 * d + wide + 3
  | 0 => by
    rw [gSeg]
    cases wide with
    | zero => simp [gIn0]
    | succ w => simp [gIn0]
  | d + 1 => by
    have := gSeg_len wide d
    rw [gSeg]
    simp
    omega
theorem good_bs (r : List (Nat × List Nat)) (hg : Good r 0) (hc : calm (build r 0)) : ∀ k, Good (List.replicate k (1, [98]) ++ r) 0 ∧ calm (build (List.replicate k (1, [98]) ++ r) 0)
  | 0 => ⟨hg, hc⟩
  | k + 1 => by
    obtain ⟨a, b⟩ := good_bs r hg hc k
    rw [List.replicate_succ, List.cons_append]
    exact ⟨⟨kw_wd kw_b, fol_calm b, a⟩, calm_seg (.inl (by decide))⟩
theorem good_gSeg (wide : Nat) : ∀ (d : Nat) (r : List (Nat × List Nat)), Good r 0 → calm (build r 0) → Good (gSeg wide d ++ r) 0
  | 0, r, hg, hc => by
    rw [gSeg]
    cases wide with
    | zero => exact ⟨kw_wd kw_a, fol_calm hc, hg⟩
    | succ w =>
      rw [gIn0]
      have e : ((0, [97]) :: (0, [40]) :: (0, [98]) :: (List.replicate w (1, [98]) ++ [(0, [41])])) ++ r = (0, [97]) :: (0, [40]) :: (0, [98]) :: (List.replicate w (1, [98]) ++ ((0, [41]) :: r)) := by simp
      rw [e]
      have g1 : Good ((0, [41]) :: r) 0 := ⟨wd_sign (.inr rfl), fol_sign (.inr rfl), hg⟩
      obtain ⟨a, b⟩ := good_bs _ g1 (calm_seg (.inr (.inr rfl))) w
      exact ⟨kw_wd kw_a, fol_calm (calm_seg (.inr (.inl rfl))), wd_sign (.inl rfl), fol_sign (.inl rfl), kw_wd kw_b, fol_calm b, a⟩
  | d + 1, r, hg, hc => by
    have e : gSeg wide (d + 1) ++ r = (0, [97]) :: (0, [40]) :: (gSeg wide d ++ ((0, [41]) :: r)) := by rw [gSeg]; simp
    rw [e]
    have g1 : Good ((0, [41]) :: r) 0 := ⟨wd_sign (.inr rfl), fol_sign (.inr rfl), hg⟩
    exact ⟨kw_wd kw_a, fol_calm (calm_seg (.inr (.inl rfl))), wd_sign (.inl rfl), fol_sign (.inl rfl), good_gSeg wide d _ g1 (calm_seg (.inr (.inr rfl)))⟩
/-- the text -/
def gIn1 (wide : Nat) : List Nat := if wide = 0 then [97] else [97] ++ [40] ++ glue [32] (List.replicate wide [98]) ++ [41]
theorem build_app0 : ∀ (a b : List (Nat × List Nat)), build (a ++ b) 0 = build a 0 ++ build b 0
  | [], b => by simp [build]
  | (x, w) :: a, b => by rw [List.cons_append, build, build_app0 a b, build]; simp
theorem build_rep (r : List (Nat × List Nat)) : ∀ k, build (List.replicate k (1, [98]) ++ r) 0 = ((List.replicate k [98]).map fun b => [32] ++ b).flatten ++ build r 0
  | 0 => by simp
  | k + 1 => by
    have e : List.replicate (k + 1) [98] = [98] :: List.replicate k [98] := List.replicate_succ
    rw [List.replicate_succ, List.cons_append, build, build_rep r k, e, List.map_cons, List.flatten_cons]
    simp
theorem build_gSeg (wide : Nat) : ∀ d, build (gSeg wide d) 0 = (List.replicate d [97, 40]).flatten ++ gIn1 wide ++ (List.replicate d [41]).flatten
  | 0 => by
    rw [gSeg]
    cases wide with
    | zero => rfl
    | succ w =>
      rw [gIn0, build, build, build, build_rep, gIn1, if_neg (by omega), List.replicate_succ, glue]
      simp [build]
  | d + 1 => by
    rw [gSeg, build, build, build_app0, build_gSeg wide d]
    have e : (List.replicate (d + 1) [41]).flatten = (List.replicate d [41]).flatten ++ [41] := by rw [List.replicate_succ']; simp
    rw [e]
    simp [List.replicate_succ, build]
theorem nm_a : nmW [97] = true := by decide
theorem nm_b : nmW [98] = true := by decide
theorem mark_at {w : Wo} (h : nuW w = false) (r : List Wo) : markW (w :: r) = (0, w :: r) := by
  unfold markW
  simp only [h]
  rfl
def Calm1 (rest : List Wo) : Prop := rest = [] ∨ ∃ r, rest = [41] :: r
theorem mark_calm {rest : List Wo} (h : Calm1 rest) : markW rest = (0, rest) ∧ rest.head? ≠ some [40] := by
  rcases h with rfl | ⟨r, rfl⟩
  · exact ⟨rfl, by simp⟩
  · exact ⟨mark_at (by decide) r, by simp⟩
theorem pT_b (l : Nat) (r : List Wo) (h : ∃ w r', r = w :: r' ∧ (w = [98] ∨ w = [41])) : pT (l + 1) ([98] :: r) = some (bT, r) := by
  obtain ⟨w, r', rfl, hw⟩ := h
  have m : markW (w :: r') = (0, w :: r') := mark_at (by rcases hw with rfl | rfl <;> decide) r'
  rw [pT, if_pos nm_b, m, if_neg (by rcases hw with rfl | rfl <;> simp)]
  rfl
theorem pMs_bs (l : Nat) (rest : List Wo) : ∀ (k n : Nat), k < n → pMs (pT (l + 1)) n (List.replicate k [98] ++ [41] :: rest) = some (List.replicate k bT, [41] :: rest)
  | 0, n + 1, _ => by rw [pMs]; simp
  | k + 1, n + 1, h => by
    rw [List.replicate_succ, List.cons_append, pMs, if_neg (by simp), pT_b l _ (by
      cases k with
      | zero => exact ⟨[41], rest, rfl, .inr rfl⟩
      | succ k => exact ⟨[98], _, by rw [List.replicate_succ, List.cons_append], .inl rfl⟩)]
    simp only
    rw [pMs_bs l rest k n (by omega)]
    simp [List.replicate_succ]
theorem pT_great (wide : Nat) : ∀ (d l : Nat) (rest : List Wo), Calm1 rest → pT l (gWs wide d ++ rest) = if d + 1 + hasB wide ≤ l then some (gTree wide d, rest) else none
  | d, 0, rest, _ => by rw [pT, if_neg (by omega)]
  | 0, l + 1, rest, h => by
    obtain ⟨m, hd⟩ := mark_calm h
    rw [gWs, gTree]
    unfold hasB
    by_cases w0 : wide = 0
    · subst w0
      rw [if_pos rfl, if_pos rfl, if_pos (by omega), List.cons_append, List.nil_append, pT, if_pos nm_a, m, if_neg hd]
      rfl
    · rw [if_neg w0, if_neg w0, List.cons_append, pT, if_pos nm_a]
      have m40 : markW ([40] :: (List.replicate wide [98] ++ [[41]]) ++ rest) = (0, [40] :: (List.replicate wide [98] ++ [41] :: rest)) := by
        rw [List.cons_append, mark_at (by decide), List.append_assoc]
        rfl
      rw [m40]
      rw [if_pos (show (0, [40] :: (List.replicate wide [98] ++ [41] :: rest)).2.head? = some [40] from rfl)]
      simp only [List.tail_cons, List.length_cons]
      cases l with
      | zero =>
        rw [if_neg (by omega)]
        obtain ⟨w, rfl⟩ : ∃ w, wide = w + 1 := ⟨wide - 1, by omega⟩
        rw [pMs, if_neg (by simp [List.replicate_succ]), pT]
      | succ l =>
        rw [if_pos (by omega), pMs_bs l rest wide _ (by simp; omega)]
        simp only
        rw [if_neg (by simp [w0])]
        rfl
  | d + 1, l + 1, rest, h => by
    rw [gWs, gTree, List.cons_append, pT, if_pos nm_a]
    have m40 : markW ([40] :: (gWs wide d ++ [[41]]) ++ rest) = (0, [40] :: (gWs wide d ++ [41] :: rest)) := by
      rw [List.cons_append, mark_at (by decide), List.append_assoc]
      rfl
    rw [m40]
    rw [if_pos (show (0, [40] :: (gWs wide d ++ [41] :: rest)).2.head? = some [40] from rfl)]
    simp only [List.tail_cons, List.length_cons]
    obtain ⟨x, hx⟩ : ∃ x, gWs wide d = [97] :: x := by
      cases d with
      | zero => exact ⟨_, rfl⟩
      | succ d => exact ⟨_, rfl⟩
    obtain ⟨n, hn⟩ : ∃ n, (gWs wide d ++ [41] :: rest).length + 1 = n + 1 + 1 := ⟨(gWs wide d ++ [41] :: rest).length - 1, by rw [List.length_append, List.length_cons]; omega⟩
    rw [hn, pMs, if_neg (by rw [hx]; simp), pT_great wide d l _ (.inr ⟨rest, rfl⟩)]
    by_cases c : d + 1 + hasB wide ≤ l
    · rw [if_pos c, if_pos (by omega)]
      simp only
      rw [pMs, if_pos (show ([41] :: rest).head? = some [41] from rfl)]
      rfl
    · rw [if_neg c, if_neg (by omega)]
theorem gSize (wide : Nat) : ∀ d, sizeT (gTree wide d) = d + 1 + wide
  | 0 => by
    have : ∀ k, sizeTs (List.replicate k bT) = k := fun k => by
      induction k with
      | zero => simp [sizeTs]
      | succ k ih =>
        rw [List.replicate_succ, sizeTs, ih, bT, sizeT, sizeTs]
        omega
    rw [gTree, sizeT, this]
  | d + 1 => by
    rw [gTree, sizeT, sizeTs, sizeTs, gSize wide d]
    omega
theorem read_great (wide d : Nat) : readW (gWs wide d) = if d + 1 + hasB wide ≤ 40 ∧ d + 1 + wide ≤ 200 then some (gTree wide d) else none := by
  have := pT_great wide d 40 [] (.inl rfl)
  rw [List.append_nil] at this
  unfold readW
  rw [this, ← gSize wide d]
  by_cases c : d + 1 + hasB wide ≤ 40
  · rw [if_pos c]
    simp only
    by_cases c2 : sizeT (gTree wide d) ≤ 200
    · rw [if_pos c2, if_pos ⟨c, c2⟩]
    · rw [if_neg c2, if_neg fun z => c2 z.2]
  · rw [if_neg c, if_neg fun z => c z.1]
end
end G
set_option Elab.async false
set_option linter.all false
set_option maxRecDepth 100000
set_option maxHeartbeats 4000000
namespace G
open PySem PySem.Spec L2 Mir
noncomputable section
theorem great_ok (n : Nat) (c : Int) : ∃ d w : Nat, d ≤ 42 ∧ w ≤ 209 ∧ mir (n + 1) 14 [.int c] = .ok (.d (.tuple [.int ((d + 1 : Nat) : Int), .int (w : Nat)])) := by
  obtain ⟨N, hN, hb⟩ : ∃ N : Nat, gMod (.int c) (.int (10 ^ 9)) = some (.int (N : Nat)) ∧ (N : Int) < 10 ^ 9 := by
    refine ⟨(c % 10 ^ 9).toNat, ?_, ?_⟩
    · rw [gMod_int (by decide), Int.toNat_of_nonneg (Int.emod_nonneg _ (by decide))]
    · rw [Int.toNat_of_nonneg (Int.emod_nonneg _ (by decide))]
      exact Int.emod_lt_of_pos _ (by decide)
  have p9 : gPow (.int 10) (.int 9) = some (.int (10 ^ 9)) := gPow10 9 (by decide)
  obtain ⟨T, hT⟩ : ∃ T : Int, T = 10 ^ 9 := ⟨_, rfl⟩
  rw [← hT] at p9 hN
  have m43 : gMod (.int (N : Nat)) (.int 43) = some (.int ((N % 43 : Nat) : Int)) := (gMod_int (by decide)).trans (by congr 2)
  have q43 : gDiv (.int (N : Nat)) (.int 43) = some (.int ((N / 43 : Nat) : Int)) := (gDiv_small (by decide) (by decide)).trans (by congr 2)
  have m210 : gMod (.int ((N / 43 : Nat) : Int)) (.int 210) = some (.int ((N / 43 % 210 : Nat) : Int)) := (gMod_int (by decide)).trans (by congr 2)
  have m5 : gMod (.int ((N / 43 : Nat) : Int)) (.int 5) = some (.int ((N / 43 % 5 : Nat) : Int)) := (gMod_int (by decide)).trans (by congr 2)
  have q4 : gDiv (.int (N : Nat)) (.int 10000) = some (.int ((N / 10000 : Nat) : Int)) := (gDiv_small (by decide) (by decide)).trans (by congr 2)
  have m3 : gMod (.int ((N / 10000 : Nat) : Int)) (.int 3) = some (.int ((N / 10000 % 3 : Nat) : Int)) := (gMod_int (by decide)).trans (by congr 2)
  have m4 : gMod (.int (N : Nat)) (.int 4) = some (.int ((N % 4 : Nat) : Int)) := (gMod_int (by decide)).trans (by congr 2)
  have a1 := Nat.mod_lt N (y := 43) (by decide)
  have a2 := Nat.mod_lt (N / 43) (y := 210) (by decide)
  have a3 := Nat.mod_lt (N / 43) (y := 5) (by decide)
  have a4 := Nat.mod_lt (N / 10000) (y := 3) (by decide)
  have a5 := Nat.mod_lt N (y := 4) (by decide)
  generalize N % 43 = r43 at m43 a1
  generalize N % 4 = r4 at m4 a5
  generalize N / 43 % 210 = r210 at m210 a2
  generalize N / 43 % 5 = r5 at m5 a3
  generalize N / 10000 % 3 = r3 at m3 a4
  generalize N / 43 = n43 at q43 m210 m5
  generalize N / 10000 = n4 at q4 m3
  rw [mir__law_great, run__law_great, show envOf 3 [.int c] = [some (.d (.int c)), none, none, none] from rfl]
  obtain rfl | rfl | rfl : r3 = 0 ∨ r3 = 1 ∨ r3 = 2 := by omega
  · refine ⟨r43, r210, by omega, by omega, ?_⟩
    have e : ((r43 + 1 : Nat) : Int) = 1 + (r43 : Int) := by omega
    rw [e]
    simp [p9, hN, m43, q43, m210, q4, m3, sizeLine_eq, finR, SR.andThen]
  · refine ⟨37 + r4, r210, by omega, by omega, ?_⟩
    have e : ((37 + r4 + 1 : Nat) : Int) = 38 + (r4 : Int) := by omega
    rw [e]
    simp [p9, hN, m43, q43, m210, q4, m3, m4, sizeLine_eq, finR, SR.andThen]
  · refine ⟨r43, 198 + r5 - (r43 + 1), by omega, by omega, ?_⟩
    have e : ((r43 + 1 : Nat) : Int) = 1 + (r43 : Int) := by omega
    have e2 : ((198 + r5 - (r43 + 1) : Nat) : Int) = 198 + (r5 : Int) - (1 + (r43 : Int)) := by omega
    rw [e, e2]
    simp [p9, hN, m43, q43, m210, q4, m3, m5, sizeLine_eq, finR, SR.andThen]
end
end G
set_option Elab.async false
set_option linter.all false
set_option maxRecDepth 100000
set_option maxHeartbeats 4000000
namespace G
open PySem PySem.Spec L2 Mir
noncomputable section
theorem cell_ok (n : Nat) (ns : List Int) (k : Nat) : mir (n + 1) 8 [scD ns, .int (k : Nat)] = .ok (.d (.int (scCell ns k))) := by
  rw [mir__law_cell_at, run__law_cell_at]
  exact cell_fin ns k
theorem sum_le {l : List Nat} (h : ∀ x ∈ l, x ≤ 100) : l.sum ≤ 100 * l.length := by
  induction l with
  | nil => simp
  | cons a l ih =>
    have := h a List.mem_cons_self
    have := ih fun x hx => h x (List.mem_cons_of_mem _ hx)
    rw [List.sum_cons, List.length_cons]
    omega
theorem join_row {row : List Wo} (h : ∀ w ∈ row, w.length ≤ 100) (hl : row.length ≤ 1000) {f g : Ev → R D} {env : Ev} (hf : f env = .ok (.str " ")) (hg : g env = .ok (rowD row)) : eJoin f g env = .ok (.str (tx (glue [32] row))) := by
  rw [eJoin_eq hf hg, sp_is, gJoin_tx]
  · rfl
  · have := sum_le (l := row.map List.length) fun x hx => by
      obtain ⟨w, hw, rfl⟩ := List.mem_map.mp hx
      exact h w hw
    rw [List.length_map] at this
    simp
    omega
def wfD (f : Int → Wo) : D → Ow
  | .int c => .d (wD (f c))
  | _ => .d .none
/-- the words of the cells, one after another -/
theorem words_by (n : Nat) (SC : D) (cs : List Int) (hc : cs.length ≤ 30) (hs : gSl SC (some 5) (some 35) = some (.l ((cs.map PyData.int).map Ow.d))) (x1 x2 x3 x4 x5 x6 x7 x8 x9 : Option Ow) : ∃ row, (∀ w ∈ row, KW w) ∧ row.length ≤ 30 ∧ cntN row ≤ 30 ∧
    eLc (eB (eM (eSl (eVar 0) (eB (eC (.int 5)) asI) (eB (eC (.int 35)) asI)) viewD) itD) (gtName 2) cYes (eB (aCons (eVar 2) aNil) (mir (n + 1) 9)) [2] [some (.d SC), x1, x2, x3, x4, x5, x6, x7, x8, x9] = .ok (rowO row) := by
  obtain ⟨wf, hw⟩ : ∃ wf : Int → Wo, ∀ c, KW (wf c) ∧ mir (n + 1) 9 [.int c] = .ok (.d (.str (tx (wf c)))) := ⟨fun c => (word_by_ok n c).choose, fun c => (word_by_ok n c).choose_spec⟩
  refine ⟨cs.map wf, fun w h => ?_, by rw [List.length_map]; exact hc, ?_, ?_⟩
  · obtain ⟨c, _, rfl⟩ := List.mem_map.mp h
    exact (hw c).1
  · unfold cntN
    refine Nat.le_trans (List.length_filter_le _ _) ?_
    rw [List.length_map]
    exact hc
  · have er : rowO (cs.map wf) = .l ((cs.map PyData.int).map (wfD wf)) := by
      unfold rowO
      rw [List.map_map, List.map_map]
      rfl
    rw [er]
    refine eLc_of (ds := cs.map PyData.int) ?_ (by rw [List.length_map, sizeLine_eq]; omega) ?_
    · have vw : viewD (.l ((cs.map PyData.int).map Ow.d)) = .list (cs.map PyData.int) := by
        rw [List.map_map]
        exact viewD_of PyData.int cs
      generalize (cs.map PyData.int).map Ow.d = os at hs vw
      simp [hs, vw]
    · refine lcR_all (wfD wf) _ fun d hd => ?_
      obtain ⟨c, _, rfl⟩ := List.mem_map.mp hd
      refine ⟨[some (.d SC), x1, some (.d (.int c)), x3, x4, x5, x6, x7, x8, x9], by simp [wipeE], rfl, ?_⟩
      have := (hw c).2
      simp [this, wfD, wD]
end
end G
set_option Elab.async false
set_option linter.all false
set_option maxRecDepth 100000
set_option maxHeartbeats 4000000
namespace G
open PySem PySem.Spec L2 Mir
noncomputable section
abbrev lA (m : Nat → List PyData → R Ow) (s : Ev → SR) : Ev → SR := (sSeq (sSet 1 (eM (eM (eLc (eB (eM (eSl (eVar 0) (eB (eC (.int 5)) asI) (eB (eC (.int 35)) asI)) viewD) itD) (gtName 2) cYes (eB (aCons (eVar 2) aNil) (m 9)) (List.map (·.2) ([("_law_cell", 2)] : List (Str × Nat)))) viewD) Ow.d))
    (sSeq (sIf (eB (eBin gEq (eBin gMod (eM (eB (aCons (eVar 0) (aCons (eC (.int 0)) aNil)) (m 8)) viewD) (eC (.int 2))) (eC (.int 0))) asB)
    (sSet 1 (eM (eM (eB (aCons (eM (eSl (eVar 0) (eB (eC (.int 5)) asI) (eB (eC (.int 35)) asI)) viewD) aNil) (m 10)) viewD) Ow.d))
    sSkip)
    (sSeq (sSet 1 (eM (eM (eB (aCons (eVar 1) (aCons (eBin gMod (eM (eB (aCons (eVar 0) (aCons (eC (.int 1)) aNil)) (m 8)) viewD) (eC (.int 5))) (aCons (eM (eB (aCons (eVar 0) (aCons (eC (.int 2)) aNil)) (m 8)) viewD) (aCons (eM (eB (aCons (eM (eB (aCons (eVar 0) (aCons (eC (.int 3)) aNil)) (m 8)) viewD) aNil) (m 9)) viewD) aNil)))) (m 11)) viewD) Ow.d))
    s)))
/-- the row is drawn -/
theorem partA (n : Nat) (ns : List Int) (hn : ns.length ≤ 63) (s : Ev → SR) : ∃ row : List Wo, (∀ w ∈ row, KW w) ∧ row.length ≤ 200 ∧ cntN row ≤ 31 ∧ ∃ x2, lA (mir (n + 1)) s [some (.d (scD ns)), none, none, none, none, none, none, none, none, none] = s [some (.d (scD ns)), some (.d (rowD row)), x2, none, none, none, none, none, none, none] := by
  obtain ⟨cs, hcs⟩ : ∃ cs : List Int, cs = (ns.take 35).drop 5 := ⟨_, rfl⟩
  have cl : cs.length ≤ 30 := by rw [hcs, List.length_drop, List.length_take]; omega
  have hs : gSl (scD ns) (some 5) (some 35) = some (.l ((cs.map PyData.int).map Ow.d)) := by
    have := cutL_mid (ns.map PyData.int) 5 35
    have e5 : ((5 : Nat) : Int) = 5 := rfl
    have e35 : ((35 : Nat) : Int) = 35 := rfl
    rw [e5, e35] at this
    show gSl (.list (ns.map PyData.int)) _ _ = _
    rw [gSl_list, this, ← List.map_take, ← List.map_drop, hcs]
  have c0 : mir (n + 1) 8 [scD ns, .int 0] = .ok (.d (.int (scCell ns 0))) := cell_ok n ns 0
  have c1 : mir (n + 1) 8 [scD ns, .int 1] = .ok (.d (.int (scCell ns 1))) := cell_ok n ns 1
  have c2 : mir (n + 1) 8 [scD ns, .int 2] = .ok (.d (.int (scCell ns 2))) := cell_ok n ns 2
  have c3 : mir (n + 1) 8 [scD ns, .int 3] = .ok (.d (.int (scCell ns 3))) := cell_ok n ns 3
  obtain ⟨row0, k0, l0, n0, e0⟩ := words_by n (scD ns) cs cl hs none none none none none none none none none
  have v0 := view_row row0
  -- behind the if
  obtain ⟨row1, k1, l1, n1, e1⟩ : ∃ row1 : List Wo, (∀ w ∈ row1, KW w) ∧ row1.length ≤ 160 ∧ cntN row1 ≤ 30 ∧ (sIf (eB (eBin gEq (eBin gMod (eM (eB (aCons (eVar 0) (aCons (eC (.int 0)) aNil)) (mir (n + 1) 8)) viewD) (eC (.int 2))) (eC (.int 0))) asB)
    (sSet 1 (eM (eM (eB (aCons (eM (eSl (eVar 0) (eB (eC (.int 5)) asI) (eB (eC (.int 35)) asI)) viewD) aNil) (mir (n + 1) 10)) viewD) Ow.d))
    sSkip) [some (.d (scD ns)), some (.d (rowD row0)), none, none, none, none, none, none, none, none] = .nx [some (.d (scD ns)), some (.d (rowD row1)), none, none, none, none, none, none, none, none] := by
    have m2 : gMod (.int (scCell ns 0)) (.int 2) = some (.int (scCell ns 0 % 2)) := gMod_int (by decide)
    by_cases c : scCell ns 0 % 2 = 0
    · obtain ⟨row1, f1, f2, f3, f4⟩ := treeW_ok n cs (by omega)
      refine ⟨row1, f2, by omega, by omega, ?_⟩
      have vw : viewD (.l ((cs.map PyData.int).map Ow.d)) = .list (cs.map PyData.int) := by
        rw [List.map_map]
        exact viewD_of PyData.int cs
      have v1 := view_row row1
      generalize rowO row1 = RO at f1 v1
      generalize rowD row1 = RW at v1 ⊢
      generalize rowD row0 = RW0
      generalize PyData.list (cs.map PyData.int) = CL at vw f1
      generalize (cs.map PyData.int).map Ow.d = os at hs vw
      generalize scD ns = SC at c0 hs ⊢
      simp [c0, m2, c, hs, vw, f1, v1]
    · refine ⟨row0, k0, by omega, by omega, ?_⟩
      generalize rowD row0 = RW0
      generalize scD ns = SC at c0 ⊢
      simp [c0, m2, c]
  obtain ⟨w3, kw3, ew3⟩ := word_by_ok n (scCell ns 3)
  obtain ⟨way, hway⟩ : ∃ way : Nat, way = (scCell ns 1 % 5).toNat := ⟨_, rfl⟩
  have q0 := Int.emod_nonneg (scCell ns 1) (b := 5) (by decide)
  have q1 := Int.emod_lt_of_pos (scCell ns 1) (b := 5) (by decide)
  have m5 : gMod (.int (scCell ns 1)) (.int 5) = some (.int (way : Nat)) := by
    rw [gMod_int (by decide), hway, Int.toNat_of_nonneg q0]
  obtain ⟨t, o, ht, eo, vo⟩ := spoilt_ok n k1 (by omega) way (by omega) (scCell ns 2) w3
  obtain ⟨s1, s2, s3⟩ := spo_ok row1 way t w3 ht
  refine ⟨spoW row1 way t w3, fun w hw => ?_, by omega, by omega, none, ?_⟩
  · rcases s1 w hw with h | h
    · exact k1 w h
    · rw [h]; exact kw3
  refine seq_nx (env1 := [some (.d (scD ns)), some (.d (rowD row0)), none, none, none, none, none, none, none, none]) (by
    rw [sSet_eq, show (List.map (·.2) ([("_law_cell", 2)] : List (Str × Nat))) = [2] from rfl, eM_eq, eM_eq, e0, R.map_ok, R.map_ok, R.st_ok, v0]
    rfl) ?_
  refine seq_nx e1 ?_
  refine seq_nx (env1 := [some (.d (scD ns)), some (.d (rowD (spoW row1 way t w3))), none, none, none, none, none, none, none, none]) (by
    clear e1 e0 hs s1 s2 s3 hway
    generalize rowD (spoW row1 way t w3) = RF at vo ⊢
    generalize rowD row1 = RW1 at eo ⊢
    generalize scD ns = SC at c0 c1 c2 c3 ⊢
    simp [c1, m5, c2, c3, ew3, eo, vo]) rfl
end
end G
set_option Elab.async false
set_option linter.all false
set_option maxRecDepth 100000
set_option maxHeartbeats 4000000
namespace G
open PySem PySem.Spec L2 Mir
noncomputable section
theorem none_tree (t : Tr) : isNone (encT t) = false := by
  obtain ⟨nm, k, bs⟩ := t
  rw [encT_mk]
  rfl
/-- the row's text is read as is due -/
theorem partB (n : Nat) {row : List Wo} (hr : ∀ w ∈ row, KW w) (hl : row.length ≤ 200) (hc : cntN row ≤ 31) (SC : D) (x2 : Option Ow) (s : Ev → SR) : ∃ x3,
    (sSeq (sSet 3 (eM (eTup (aCons (eC (.str "told")) (aCons (eM (eB (aCons (eVar 1) aNil) (mir (n + 46) 12)) viewD) aNil))) Ow.d))
    (sSeq (sIf (eB (eBin gIsN (eBin gIx (eVar 3) (eC (.int 1))) (eC .none)) asB)
    (sSet 3 (eM (eTup (aCons (eC (.str "refused")) (aCons (eC (.bool true)) aNil))) Ow.d))
    sSkip)
    (sSeq (sIf (tOrE (eB (eBin gNe (eM (eB (aCons (eJoin (eC (.str " ")) (eVar 1)) aNil) (mir (n + 46) 13)) viewD) (eVar 3)) asB) (eB (eBin gNe (eM (eB (aCons (eJoin (eC (.str " ")) (eVar 1)) aNil) (mir (n + 46) 13)) viewD) (eVar 3)) asB))
    (sRet (eM (eC (.bool false)) Ow.d))
    sSkip)
    s))) [some (.d SC), some (.d (rowD row)), x2, none, none, none, none, none, none, none] = s [some (.d SC), some (.d (rowD row)), x2, x3, none, none, none, none, none, none] := by
  have vw : ∀ w ∈ row, VW w := fun w h => kw_vw (hr w h)
  have lt := lawTree_ok (n + 45) vw (by omega) (by omega)
  have tr := told_row n hr (by omega)
  have ra := read_law (row := row) (by omega)
  obtain ⟨o, ho⟩ : ∃ o, o = lawF row [] [] [] := ⟨_, rfl⟩
  rw [ra, ← ho] at tr
  rw [← ho] at lt
  have nice : Nice (toldD o) := nice_told fun t e => readW_ok hr (by omega) t (by rw [ra, ← ho]; exact e)
  have ne := gNe_self nice
  refine ⟨some (.d (toldD o)), ?_⟩
  refine seq_nx (env1 := [some (.d SC), some (.d (rowD row)), x2, some (.d (.tuple [.str "told", optD o])), none, none, none, none, none, none]) (by
    generalize optD o = OD at lt ⊢
    generalize rowD row = RW at lt ⊢
    simp [lt, sizeLine_eq]) ?_
  refine seq_nx (env1 := [some (.d SC), some (.d (rowD row)), x2, some (.d (toldD o)), none, none, none, none, none, none]) (by
    cases o with
    | none =>
      have ix : gIx (.tuple [.str "told", optD none]) (.int 1) = some .none := rfl
      have nn : isNone PyData.none = true := rfl
      unfold toldD
      generalize rowD row = RW
      generalize (PyData.tuple [.str "told", optD none]) = TT at ix ⊢
      simp [ix, nn, sizeLine_eq]
    | some t =>
      have ix : gIx (.tuple [.str "told", encT t]) (.int 1) = some (encT t) := rfl
      have nn := none_tree t
      show (sIf _ _ _) [some (.d SC), some (.d (rowD row)), x2, some (.d (.tuple [.str "told", encT t])), none, none, none, none, none, none] = SR.nx [some (.d SC), some (.d (rowD row)), x2, some (.d (.tuple [.str "told", encT t])), none, none, none, none, none, none]
      generalize rowD row = RW
      generalize (PyData.tuple [.str "told", encT t]) = TT at ix ⊢
      generalize encT t = ET at ix nn
      simp [ix, nn]) ?_
  refine seq_nx (env1 := [some (.d SC), some (.d (rowD row)), x2, some (.d (toldD o)), none, none, none, none, none, none]) (by
    have jr := join_row (row := row) (f := eC (.str " ")) (g := eVar 1) (env := [some (.d SC), some (.d (rowD row)), x2, some (.d (toldD o)), none, none, none, none, none, none]) (fun w h => (vw w h).2.1) (by omega) rfl rfl
    generalize toldD o = TD at ne jr tr ⊢
    generalize rowD row = RW at jr ⊢
    generalize tx (glue [32] row) = TX at jr tr
    simp [jr, tr, ne]) rfl
/-- the great tree -/
theorem partC (n : Nat) (ns : List Int) (RW x2 x3 : Option Ow) :
    finR ((sSeq (sAsg (gtTup 2 (gtCons (gtName 4) (gtCons (gtName 5) gtNil))) (eM (eB (aCons (eM (eB (aCons (eVar 0) (aCons (eC (.int 4)) aNil)) (mir (n + 46) 8)) viewD) aNil) (mir (n + 46) 14)) viewD))
    (sSeq (sSet 6 (eM (eM (eBinO gAdd (eBin gMulZ (eC (.str "a(")) (eBin gSub (eVar 4) (eC (.int 1)))) (eC (.str "a"))) viewD) Ow.d))
    (sSeq (sIf (eB (eBin gGt (eVar 5) (eC (.int 0))) asB)
    (sSet 6 (eM (eM (eBinO gAdd (eB (eBinO gAdd (eB (eBinO gAdd (eVar 6) (eC (.str "("))) shD) (eJoin (eC (.str " ")) (eB (eRep (eLst (aCons (eC (.str "b")) aNil)) (eVar 5)) shD))) shD) (eC (.str ")"))) viewD) Ow.d))
    sSkip)
    (sSeq (sSet 7 (eM (eM (eB (aCons (eM (eBinO gAdd (eVar 6) (eBin gMulZ (eC (.str ")")) (eBin gSub (eVar 4) (eC (.int 1))))) viewD) aNil) (mir (n + 46) 13)) viewD) Ow.d))
    (sSeq (sIf (tOrE (eB (eBin gGt (eM (eBinO gAdd (eVar 4) (eB (eCa gInt (aCons (eBin gGt (eVar 5) (eC (.int 0))) aNil)) shD)) viewD) (eC (.int 40))) asB) (eB (eBin gGt (eM (eBinO gAdd (eVar 4) (eVar 5)) viewD) (eC (.int 200))) asB))
    (sRet (eM (eBin gEq (eVar 7) (eTup (aCons (eC (.str "refused")) (aCons (eC (.bool true)) aNil)))) Ow.d))
    sSkip)
    (sSeq (sSet 8 (eM (eTup (aCons (eC (.str "a")) (aCons (eC (.int 0)) (aCons (eM (eBinO gRepZ (eTup (aCons (eTup (aCons (eC (.str "b")) (aCons (eC (.int 0)) (aCons (eTup aNil) aNil)))) aNil)) (eVar 5)) viewD) aNil)))) Ow.d))
    (sSeq (sFor (eB (aCons (eBin gSub (eVar 4) (eC (.int 1))) aNil) rg1) (gtName 9)
    (sSet 8 (eM (eTup (aCons (eC (.str "a")) (aCons (eC (.int 0)) (aCons (eTup (aCons (eVar 8) aNil)) aNil)))) Ow.d)))
    (sRet (eM (eBin gEq (eVar 7) (eTup (aCons (eC (.str "told")) (aCons (eVar 8) aNil)))) Ow.d))))))))) [some (.d (scD ns)), RW, x2, x3, none, none, none, none, none, none]) = .ok (.d (.bool true)) := by
  obtain ⟨d, w, hd, hw, eg⟩ := great_ok (n + 45) (scCell ns 4)
  have c4 : mir (n + 46) 8 [scD ns, .int 4] = .ok (.d (.int (scCell ns 4))) := cell_ok (n + 45) ns 4
  have eg : mir (n + 46) 14 [.int (scCell ns 4)] = .ok (.d (.tuple [.int ((d + 1 : Nat) : Int), .int (w : Nat)])) := eg
  refine fin_step (env1 := [some (.d (scD ns)), RW, x2, x3, some (.d (.int ((d + 1 : Nat) : Int))), some (.d (.int (w : Nat))), none, none, none, none]) (by
    generalize scD ns = SC at c4 ⊢
    simp [c4, eg]) ?_
  -- the text
  obtain ⟨P, hP⟩ : ∃ P : List Nat, P = (List.replicate d [97, 40]).flatten := ⟨_, rfl⟩
  obtain ⟨Q, hQ⟩ : ∃ Q : List Nat, Q = (List.replicate d [41]).flatten := ⟨_, rfl⟩
  have pl : P.length ≤ 84 := by rw [hP]; simp; omega
  have ql : Q.length ≤ 42 := by rw [hQ]; simp; omega
  have a_is : (Str.ofString "a") = tx [97] := by rw [tx_of (Str.ofString "a")]; congr 1
  have b_is : (Str.ofString "b") = tx [98] := by rw [tx_of (Str.ofString "b")]; congr 1
  have ao_is : (Str.ofString "a(") = tx [97, 40] := by rw [tx_of (Str.ofString "a(")]; congr 1
  have sub1 : gSub (.int ((d + 1 : Nat) : Int)) (.int 1) = some (.int (d : Nat)) := by
    show some (PyData.int (((d + 1 : Nat) : Int) - 1)) = _
    congr 2
    omega
  have r1 : gMulZ (.str (tx [97, 40])) (.int (d : Nat)) = some (.str (tx P)) := by
    rw [gMulZ_str (by omega) (by rw [tx_len, sizeLine_eq]; simp; omega), hP]
    rfl
  have r2 : gMulZ (.str (tx [41])) (.int (d : Nat)) = some (.str (tx Q)) := by
    rw [gMulZ_str (by omega) (by rw [tx_len, sizeLine_eq]; simp; omega), hQ]
    rfl
  have g1 := gAdd_tx (a := P) (b := [97]) (by simp; omega)
  refine fin_step (env1 := [some (.d (scD ns)), RW, x2, x3, some (.d (.int ((d + 1 : Nat) : Int))), some (.d (.int (w : Nat))), some (.d (.str (tx (P ++ [97])))), none, none, none]) (by
    generalize scD ns = SC
    generalize ((d + 1 : Nat) : Int) = D1 at sub1 ⊢
    simp [sub1, r1, a_is, ao_is, g1]) ?_
  have inl : (gIn1 w).length ≤ 1000 := by
    unfold gIn1
    split
    · simp
    · obtain ⟨w', rfl⟩ : ∃ w', w = w' + 1 := ⟨w - 1, by omega⟩
      rw [List.replicate_succ, glue]
      simp
      omega
  refine fin_step (env1 := [some (.d (scD ns)), RW, x2, x3, some (.d (.int ((d + 1 : Nat) : Int))), some (.d (.int (w : Nat))), some (.d (.str (tx (P ++ gIn1 w)))), none, none, none]) (by
    by_cases w0 : w = 0
    · subst w0
      have : gIn1 0 = [97] := rfl
      rw [this]
      generalize scD ns = SC
      generalize ((d + 1 : Nat) : Int) = D1
      simp
    · have wp : (0 : Int) < (w : Int) := by omega
      have gi : gIn1 w = [97] ++ [40] ++ glue [32] (List.replicate w [98]) ++ [41] := if_neg w0
      have e : P ++ gIn1 w = (((P ++ [97]) ++ [40]) ++ glue [32] (List.replicate w [98])) ++ [41] := by rw [gi]; simp
      rw [gi] at inl
      obtain ⟨GL, hGL⟩ : ∃ GL, GL = glue [32] (List.replicate w [98]) := ⟨_, rfl⟩
      rw [← hGL] at e inl
      rw [e]
      have l2 : GL.length ≤ 1000 := by simp at inl; omega
      have g2 := gAdd_tx (a := P ++ [97]) (b := [40]) (by simp; omega)
      have g3 := gAdd_tx (a := (P ++ [97]) ++ [40]) (b := GL) (by simp; omega)
      have g4 := gAdd_tx (a := ((P ++ [97]) ++ [40]) ++ GL) (b := [41]) (by simp; omega)
      have rp := rep_one (.str (tx [98])) w (by omega)
      have sh : shD (.l (List.replicate w (.d (.str (tx [98]))))) = .ok (rowD (List.replicate w [98])) := by
        have := shD_row (List.replicate w [98])
        unfold rowO at this
        rw [List.map_replicate] at this
        exact this
      have jr := join_row (row := List.replicate w [98]) (f := eC (.str " ")) (g := (eB (eRep (eLst (aCons (eC (.str "b")) aNil)) (eVar 5)) shD)) (env := [some (.d (scD ns)), RW, x2, x3, some (.d (.int ((d + 1 : Nat) : Int))), some (.d (.int (w : Nat))), some (.d (.str (tx (P ++ [97])))), none, none, none]) (fun x h => by rw [List.eq_of_mem_replicate h]; decide) (by rw [List.length_replicate]; omega) rfl (by
        generalize rowD (List.replicate w [98]) = RD at sh ⊢
        generalize Ow.l (List.replicate w (.d (.str (tx [98])))) = OL at rp sh
        generalize scD ns = SC
        generalize ((d + 1 : Nat) : Int) = D1
        unfold eRep
        simp [sizeLine_eq, b_is, rp, sh])
      rw [← hGL] at jr
      generalize tx (((P ++ [97]) ++ [40]) ++ GL ++ [41]) = T5 at g4 ⊢
      generalize tx (((P ++ [97]) ++ [40]) ++ GL) = T4 at g3 g4
      generalize tx ((P ++ [97]) ++ [40]) = T3 at g2 g3
      generalize tx (P ++ [97]) = T2 at g2 jr ⊢
      generalize tx GL = TG at jr g3
      generalize scD ns = SC at jr ⊢
      generalize ((d + 1 : Nat) : Int) = D1 at jr ⊢
      simp [wp, w0, show 0 < w by omega, op_is, cl_is, g2, g3, g4, jr]) ?_
  -- read
  have td := told_segs n (gSeg w d) (by
    have := good_gSeg w d [] trivial (calm_nil 0)
    rw [List.append_nil] at this
    exact this) (gSeg_kw w d) (fun s hs => (gSeg_mem w d s hs).1) (by have := gSeg_len w d; omega)
  rw [gSeg_w, build_gSeg, ← hP, ← hQ] at td
  have g5 := gAdd_tx (a := P ++ gIn1 w) (b := Q) (by rw [List.length_append]; omega)
  refine fin_step (env1 := [some (.d (scD ns)), RW, x2, x3, some (.d (.int ((d + 1 : Nat) : Int))), some (.d (.int (w : Nat))), some (.d (.str (tx (P ++ gIn1 w)))), some (.d (toldD (readW (gWs w d)))), none, none]) (by
    generalize tx (P ++ gIn1 w ++ Q) = T5 at g5 td
    generalize tx (P ++ gIn1 w) = T4 at g5 ⊢
    generalize toldD (readW (gWs w d)) = TD at td ⊢
    generalize scD ns = SC
    generalize ((d + 1 : Nat) : Int) = D1 at sub1 ⊢
    simp [sub1, cl_is, r2, g5, td]) ?_
  have rg := read_great w d
  have gb : gInt [.bool (decide ((0 : Int) < (w : Int)))] = some (.d (.int (hasB w : Nat))) := by
    rw [gInt_bool]
    unfold hasB
    by_cases w0 : w = 0
    · subst w0; rfl
    · rw [if_neg w0, if_pos (by simp; omega)]
      rfl
  have gt1 : gGt (.int (w : Nat)) (.int 0) = some (.bool (decide ((0 : Int) < (w : Int)))) := rfl
  have ad1 : gAdd (.int ((d + 1 : Nat) : Int)) (.int (hasB w : Nat)) = some (.d (.int ((d + 1 + hasB w : Nat) : Int))) := by
    show some (Ow.d (.int (((d + 1 : Nat) : Int) + (hasB w : Nat)))) = _
    congr 3
  have ad2 : gAdd (.int ((d + 1 : Nat) : Int)) (.int (w : Nat)) = some (.d (.int ((d + 1 + w : Nat) : Int))) := by
    show some (Ow.d (.int (((d + 1 : Nat) : Int) + (w : Nat)))) = _
    congr 3
  have gt2 : gGt (.int ((d + 1 + hasB w : Nat) : Int)) (.int 40) = some (.bool (decide (40 < d + 1 + hasB w))) := by
    show some (PyData.bool (decide ((40 : Int) < ((d + 1 + hasB w : Nat) : Int)))) = _
    congr 2
    exact decide_eq_decide.mpr ⟨fun h => by omega, fun h => by omega⟩
  have gt3 : gGt (.int ((d + 1 + w : Nat) : Int)) (.int 200) = some (.bool (decide (200 < d + 1 + w))) := by
    show some (PyData.bool (decide ((200 : Int) < ((d + 1 + w : Nat) : Int)))) = _
    congr 2
    exact decide_eq_decide.mpr ⟨fun h => by omega, fun h => by omega⟩
  by_cases fit : d + 1 + hasB w ≤ 40 ∧ d + 1 + w ≤ 200
  · rw [rg, if_pos fit]
    rw [decide_eq_false (by omega)] at gt2 gt3
    refine fin_step (env1 := [some (.d (scD ns)), RW, x2, x3, some (.d (.int ((d + 1 : Nat) : Int))), some (.d (.int (w : Nat))), some (.d (.str (tx (P ++ gIn1 w)))), some (.d (toldD (some (gTree w d)))), none, none]) (by
      generalize decide ((0 : Int) < (w : Int)) = bw at gt1 gb
      generalize toldD (some (gTree w d)) = TD
      generalize ((d + 1 + hasB w : Nat) : Int) = D2 at ad1 gt2
      generalize ((d + 1 + w : Nat) : Int) = D3 at ad2 gt3
      generalize ((d + 1 : Nat) : Int) = D1 at ad1 ad2 ⊢
      generalize ((hasB w : Nat) : Int) = HB at gb ad1
      generalize scD ns = SC
      simp [gt1, gb, ad1, gt2, ad2, gt3]) ?_
    have rz : gRepZ (.tuple [.tuple [.str (tx [98]), .int 0, .tuple []]]) (.int (w : Nat)) = some (.d (.tuple (List.replicate w (encT bT)))) := by
      rw [gRepZ_of (by omega) (by simp) (by simp)]
      simp [bT, encT_mk]
    have t0 : encT (gTree w 0) = .tuple [.str (tx [97]), .int 0, .tuple (List.replicate w (encT bT))] := by
      rw [gTree, encT_mk, List.map_replicate]
    refine fin_step (env1 := [some (.d (scD ns)), RW, x2, x3, some (.d (.int ((d + 1 : Nat) : Int))), some (.d (.int (w : Nat))), some (.d (.str (tx (P ++ gIn1 w)))), some (.d (toldD (some (gTree w d)))), some (.d (encT (gTree w 0))), none]) (by
      rw [t0]
      generalize toldD (some (gTree w d)) = TD
      generalize ((d + 1 : Nat) : Int) = D1
      generalize scD ns = SC
      generalize (PyData.tuple (List.replicate w (encT bT))) = TR at rz ⊢
      simp [a_is, b_is, sizeLine_eq, rz]) ?_
    have key := forL_ind (g := gtName 9) (f := sSet 8 (eM (eTup (aCons (eC (.str "a")) (aCons (eC (.int 0)) (aCons (eTup (aCons (eVar 8) aNil)) aNil)))) Ow.d)) (rangeD 0 d)
      (fun i env => ∃ x9, env = [some (.d (scD ns)), RW, x2, x3, some (.d (.int ((d + 1 : Nat) : Int))), some (.d (.int (w : Nat))), some (.d (.str (tx (P ++ gIn1 w)))), some (.d (toldD (some (gTree w d)))), some (.d (encT (gTree w i))), x9]) (fun i dd env hi ⟨x9, he⟩ => by
        subst he
        refine ⟨_, rfl, [some (.d (scD ns)), RW, x2, x3, some (.d (.int ((d + 1 : Nat) : Int))), some (.d (.int (w : Nat))), some (.d (.str (tx (P ++ gIn1 w)))), some (.d (toldD (some (gTree w d)))), some (.d (encT (gTree w (i + 1)))), some (.d dd)], .inl ?_, _, rfl⟩
        have t1 : encT (gTree w (i + 1)) = .tuple [.str (tx [97]), .int 0, .tuple [encT (gTree w i)]] := by
          rw [gTree, encT_mk]
          rfl
        rw [t1]
        generalize encT (gTree w i) = EI
        generalize toldD (some (gTree w d)) = TD
        generalize ((d + 1 : Nat) : Int) = D1
        generalize scD ns = SC
        simp [a_is, sizeLine_eq]) _ ⟨none, rfl⟩
    obtain ⟨env', e1, x9, e2⟩ := key
    subst e2
    have hlen : (rangeD 0 d).length = d := by simp [rangeD]
    rw [hlen] at e1
    have rg1' : rg1 [.int (d : Nat)] = .ok (rangeD 0 d) := by
      have : rg1 [.int (d : Nat)] = .ok (rangeD 0 ((d : Nat) : Int).toNat) := guard_ok (by omega)
      rw [this, Int.toNat_natCast]
    refine fin_step (env1 := _) (by
      rw [sFor_eq]
      have : (eB (aCons (eBin gSub (eVar 4) (eC (.int 1))) aNil) rg1) [some (.d (scD ns)), RW, x2, x3, some (.d (.int ((d + 1 : Nat) : Int))), some (.d (.int (w : Nat))), some (.d (.str (tx (P ++ gIn1 w)))), some (.d (toldD (some (gTree w d)))), some (.d (encT (gTree w 0))), none] = .ok (rangeD 0 d) := by
        generalize toldD (some (gTree w d)) = TD
        generalize encT (gTree w 0) = EI
        generalize ((d + 1 : Nat) : Int) = D1 at sub1 ⊢
        generalize scD ns = SC
        simp [sub1, rg1']
      rw [this, R.st_ok]
      exact e1) ?_
    have nice : Nice (toldD (some (gTree w d))) := by
      refine nice_told fun t et => ?_
      cases et
      refine readW_ok (row := gWs w d) (fun x hx => ?_) ?_ (gTree w d) (by rw [rg, if_pos fit])
      · rw [← gSeg_w] at hx
        obtain ⟨s, hs, rfl⟩ := List.mem_map.mp hx
        exact gSeg_kw w d s hs
      · rw [← gSeg_w, List.length_map]
        have := gSeg_len w d
        omega
    have eq := gEq_self nice
    have te : toldD (some (gTree w d)) = .tuple [.str "told", encT (gTree w d)] := rfl
    rw [te] at eq ⊢
    generalize encT (gTree w d) = EI at eq ⊢
    generalize ((d + 1 : Nat) : Int) = D1
    generalize scD ns = SC
    simp [sizeLine_eq, eq, finR]
  · rw [rg, if_neg fit]
    have eq := gEq_self (nice_told (o := none) fun t h => by cases h)
    have te : toldD none = .tuple [.str "refused", .bool true] := rfl
    rw [te] at eq ⊢
    by_cases c1 : 40 < d + 1 + hasB w
    · rw [decide_eq_true c1] at gt2
      generalize decide ((0 : Int) < (w : Int)) = bw at gt1 gb
      generalize ((d + 1 + hasB w : Nat) : Int) = D2 at ad1 gt2
      generalize ((d + 1 : Nat) : Int) = D1 at ad1 ⊢
      generalize ((hasB w : Nat) : Int) = HB at gb ad1
      generalize scD ns = SC
      simp [gt1, gb, ad1, gt2, sizeLine_eq, eq, finR, SR.andThen]
    · rw [decide_eq_false c1] at gt2
      rw [decide_eq_true (by omega)] at gt3
      generalize decide ((0 : Int) < (w : Int)) = bw at gt1 gb
      generalize ((d + 1 + hasB w : Nat) : Int) = D2 at ad1 gt2
      generalize ((d + 1 + w : Nat) : Int) = D3 at ad2 gt3
      generalize ((d + 1 : Nat) : Int) = D1 at ad1 ad2 ⊢
      generalize ((hasB w : Nat) : Int) = HB at gb ad1
      generalize scD ns = SC
      simp [gt1, gb, ad1, gt2, ad2, gt3, sizeLine_eq, eq, finR, SR.andThen]
theorem law_true (L : Nat) (hL : 60 ≤ L) (ns : List Int) (hn : ns.length ≤ 63) : mir L 15 [.list (ns.map PyData.int)] = .ok (.d (.bool true)) := by
  obtain ⟨n, rfl⟩ : ∃ n, L = n + 47 := ⟨L - 47, by omega⟩
  rw [show n + 47 = (n + 46) + 1 from rfl, mir_law, run_law]
  rw [show envOf 9 [PyData.list (ns.map PyData.int)] = [some (.d (scD ns)), none, none, none, none, none, none, none, none, none] from rfl]
  obtain ⟨row, h1, h2, h3, x2, e⟩ := partA (n + 45) ns hn _
  refine (congrArg finR e).trans ?_
  obtain ⟨x3, e2⟩ := partB n h1 h2 h3 (scD ns) x2 _
  exact (congrArg finR e2).trans (partC n ns _ x2 x3)
end
end G
open PySem PySem.W PyProof.Rows
set_option maxRecDepth 100000 in
set_option maxHeartbeats 0 in
theorem PySem.Challenge.cw_turnery_k06_texts_that_are_no_tree_holds : PySem.Challenge.rw_turnery_k06_texts_that_are_no_tree.Holds := by
  w_on; o_law; k_head; (case hw => w_witness2)
  k_fill
  refine Mir.law_end (l := PySem.Challenge.rw_turnery_k06_texts_that_are_no_tree) (m := G.mir 70 15) 70 "_law_script" rfl rfl ⟨rfl, by decide, by decide⟩ (fun w h Y => PySem.W.kIn_of Y) (fun ns h _ => G.law_true 70 (by decide) ns h) ?F
  case F =>
    intro w mg fa h KX Gn hmg
    refine' G.all_mk 70 KX Gn hmg ?a0 ?l0 ?c0 ?k0 ?a1 ?l1 ?c1 ?k1 ?a2 ?l2 ?c2 ?k2 ?a3 ?l3 ?c3 ?k3 ?a4 ?l4 ?c4 ?k4 ?a5 ?l5 ?c5 ?k5 ?a6 ?l6 ?c6 ?k6 ?a7 ?l7 ?c7 ?k7 ?a8 ?l8 ?c8 ?k8 ?a9 ?l9 ?c9 ?k9 ?a10 ?l10 ?c10 ?k10 ?a11 ?l11 ?c11 ?k11 ?a12 ?l12 ?c12 ?k12 ?a13 ?l13 ?c13 ?k13 ?a14 ?l14 ?c14 ?k14 ?a15 ?l15 ?c15 ?k15 ?z_ValueError ?z_int ?z_isinstance ?z_len ?z_max ?z_range ?z_str ?z_tuple ?e_NoText ?e_TurnError ?xb_NoText ?xt_NoText ?xd_NoText ?xs_NoText ?xb_TurnError ?xt_TurnError ?xd_TurnError ?xs_TurnError ?xe_NoText ?xk_NoText ?y0_NoText ?y1_NoText ?y2_NoText ?y3_NoText ?y4_NoText ?y5_NoText ?hci_NoText_ValueError ?hci_NoText_TurnError ?hcm_NoText_NoText ?hkn_TurnError ?g_FIGURES ?r_FIGURES ?g_LETTERS ?r_LETTERS ?g_SIGNS ?r_SIGNS
    (case a0 => k_is)
    (case l0 => k_is)
    (case c0 => k_is)
    (case k0 => k_is)
    (case a1 => k_is)
    (case l1 => k_is)
    (case c1 => k_is)
    (case k1 => k_is)
    (case a2 => k_is)
    (case l2 => k_is)
    (case c2 => k_is)
    (case k2 => k_is)
    (case a3 => k_is)
    (case l3 => k_is)
    (case c3 => k_is)
    (case k3 => k_is)
    (case a4 => k_is)
    (case l4 => k_is)
    (case c4 => k_is)
    (case k4 => k_is)
    (case a5 => k_is)
    (case l5 => k_is)
    (case c5 => k_is)
    (case k5 => k_is)
    (case a6 => k_is)
    (case l6 => k_is)
    (case c6 => k_is)
    (case k6 => k_is)
    (case a7 => k_is)
    (case l7 => k_is)
    (case c7 => k_is)
    (case k7 => k_is)
    (case a8 => k_is)
    (case l8 => k_is)
    (case c8 => k_is)
    (case k8 => k_is)
    (case a9 => k_is)
    (case l9 => k_is)
    (case c9 => k_is)
    (case k9 => k_is)
    (case a10 => k_is)
    (case l10 => k_is)
    (case c10 => k_is)
    (case k10 => k_is)
    (case a11 => k_is)
    (case l11 => k_is)
    (case c11 => k_is)
    (case k11 => k_is)
    (case a12 => k_is)
    (case l12 => k_is)
    (case c12 => k_is)
    (case k12 => k_is)
    (case a13 => k_is)
    (case l13 => k_is)
    (case c13 => k_is)
    (case k13 => k_is)
    (case a14 => k_is)
    (case l14 => k_is)
    (case c14 => k_is)
    (case k14 => k_is)
    (case a15 => k_is)
    (case l15 => k_is)
    (case c15 => k_is)
    (case k15 => k_is)
    (case z_ValueError => k_is)
    (case z_int => k_is)
    (case z_isinstance => k_is)
    (case z_len => k_is)
    (case z_max => k_is)
    (case z_range => k_is)
    (case z_str => k_is)
    (case z_tuple => k_is)
    (case e_NoText => k_is)
    (case e_TurnError => k_is)
    (case xb_NoText => k_is)
    (case xt_NoText => k_is)
    (case xd_NoText => k_is)
    (case xs_NoText => k_is)
    (case xb_TurnError => k_is)
    (case xt_TurnError => k_is)
    (case xd_TurnError => k_is)
    (case xs_TurnError => k_is)
    (case xe_NoText => k_exc)
    (case xk_NoText => k_is)
    (case y0_NoText => k_is)
    (case y1_NoText => k_is)
    (case y2_NoText => k_is)
    (case y3_NoText => k_is)
    (case y4_NoText => k_is)
    (case y5_NoText => k_is)
    (case hci_NoText_ValueError => k_is)
    (case hci_NoText_TurnError => k_is)
    (case hcm_NoText_NoText => k_is)
    (case hkn_TurnError => k_is)
    (case g_FIGURES => k_is)
    (case g_LETTERS => k_is)
    (case g_SIGNS => k_is)
    (case r_FIGURES => exact ⟨_, rfl⟩)
    (case r_LETTERS => exact ⟨_, rfl⟩)
    (case r_SIGNS => exact ⟨_, rfl⟩)


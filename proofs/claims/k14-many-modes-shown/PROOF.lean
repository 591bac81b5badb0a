import PyProof.Rows.All
import Wide.All
import OpenK.AllK
import Wide.FinOn
import HandS.ForMost
import HandS.ForExc
import HandS.Walk
import HandS.TupAny
import HandS.Wide
import HandS.IsInst
import KE.KDictKeyed
import PyProof.P3Eq
import PyProof.NeData
import PyProof.Rows.SeqMore
import KE.GoesNew
import KE.GoesMore
import KE.GoesEnum
import HandS.Zip
import PyProof.AutoSeq1
import HandS.More
import KE.SortData
import HandS.EndBits
import HandS.Steps
import HandS.Rev
import PyProof.StrOps2
import HandS.Text
import HandS.Dict
import KE.KDictSum
import HandS.ExcIs
import HandS.TryOnly
import HandS.RevRange
import HandS.List
import PyProof.StrCalls
import KE.DataMinMax
import HandS.Style
import HandS.TupMul
import HandS.TupLen
import KE.KDictZip
import HandS.ListItems
import HandS.NoneIn
import HandS.Deep
import HandS.Conv
import HandS.SetKeys
import PyProof.Rows.SetFrom
import HandS.DictTup
import PySem.Challenge.RW_turnery_k14_many_modes_shown
set_option Elab.async false
set_option linter.all false
set_option maxRecDepth 100000
set_option maxHeartbeats 4000000
noncomputable section
namespace Mir
open PySem PySem.Spec L2

abbrev D := PyData
/-- what stands in the program's heap, and the world -/
structure Kw where
  K : PySem.W.Frag
  w : World
instance : CoeOut Kw PySem.W.Frag := ⟨Kw.K⟩
/-- a value in a mirror: data that stays, or a list or a dict that the def owns -/
inductive Ow where
  | d (x : D)
  | l (xs : List Ow)
  | m (kvs : List (D × D))
  /-- a tuple with own things in it -/
  | t (xs : List Ow)
  /-- a dict whose keys are whole numbers and texts, and one whose keys are tuples; its values may be own -/
  | k (ks : List D) (xs : List Ow)
  | n (ks : List D) (xs : List Ow)
  /-- an instance of a class, its fields by names -/
  | o (c : Str) (ns : List Str) (xs : List Ow)
abbrev Ev := List (Option Ow)
abbrev _root_.L2.Cx.KK (X : L2.Cx) : Kw := ⟨X.K, X.w⟩

/-- a pure outcome: none (not mirrored), a value, an exception's class -/
inductive R (α : Type) where
  | no
  | ok (a : α)
  | ex (c : Str)
def R.bind {α β : Type} : R α → (α → R β) → R β
  | .no, _ => .no
  | .ok a, f => f a
  | .ex c, _ => .ex c
@[simp] theorem R.bind_ok {α β : Type} (a : α) (f : α → R β) : (R.ok a).bind f = f a := rfl
@[simp] theorem R.bind_no {α β : Type} (f : α → R β) : (R.no : R α).bind f = .no := rfl
@[simp] theorem R.bind_ex {α β : Type} (c : Str) (f : α → R β) : (R.ex c : R α).bind f = .ex c := rfl
def R.map {α β : Type} (f : α → β) (r : R α) : R β := r.bind fun a => .ok (f a)
@[simp] theorem R.map_ok {α β : Type} (a : α) (f : α → β) : (R.ok a).map f = .ok (f a) := rfl
/-- r where c holds (by a choice that nothing reckons with) -/
def guard (c : Prop) {α : Type} (r : R α) : R α := @ite _ c (Classical.propDecidable c) r .no
@[simp] theorem guard_pos {c : Prop} {α : Type} {r : R α} (h : c) : guard c r = r := @if_pos _ (Classical.propDecidable c) h _ _ _

/-- how an exception of a class, and any instance, is told as data -/
def excD (c : Str) : D := .dict [(.none, .str c)]
def insD : D := .dict [(.none, .none)]
mutual
def viewD : Ow → D
  | .d x => x
  | .l xs => .list (viewAll xs)
  | .m kvs => .dict kvs
  | .t xs => .tuple (viewAll xs)
  | .k ks xs => .dict (ks.zip (viewAll xs))
  | .n ks xs => .dict (ks.zip (viewAll xs))
  | .o _ _ _ => insD
def viewAll : List Ow → List D
  | [] => []
  | x :: xs => viewD x :: viewAll xs
end
@[simp] theorem viewD_d (x : D) : viewD (.d x) = x := by unfold viewD; rfl
@[simp] theorem viewD_m (kvs : List (D × D)) : viewD (.m kvs) = .dict kvs := by rw [viewD]
@[simp] theorem viewD_l (xs : List Ow) : viewD (.l xs) = .list (viewAll xs) := by rw [viewD]
@[simp] theorem viewD_t (xs : List Ow) : viewD (.t xs) = .tuple (viewAll xs) := by rw [viewD]
@[simp] theorem viewD_k (ks : List D) (xs : List Ow) : viewD (.k ks xs) = .dict (ks.zip (viewAll xs)) := by rw [viewD]
@[simp] theorem viewD_n (ks : List D) (xs : List Ow) : viewD (.n ks xs) = .dict (ks.zip (viewAll xs)) := by rw [viewD]
@[simp] theorem viewD_o (c : Str) (ns : List Str) (xs : List Ow) : viewD (.o c ns xs) = insD := by rw [viewD]
@[simp] theorem viewAll_nil : viewAll [] = [] := by rw [viewAll]
@[simp] theorem viewAll_cons (x : Ow) (xs : List Ow) : viewAll (x :: xs) = viewD x :: viewAll xs := by rw [viewAll]
theorem viewAll_map : ∀ xs : List Ow, viewAll xs = xs.map viewD
  | [] => by rw [viewAll]; rfl
  | x :: xs => by rw [viewAll, viewAll_map xs]; rfl
@[simp] theorem viewAll_mapd : ∀ xs : List D, viewAll (xs.map Ow.d) = xs
  | [] => by simp
  | x :: xs => by simp [viewAll_mapd xs]

/-- a dict's key as data -/
def keyD : Key → D
  | .inl i => .int i
  | .inr z => .str z
/-- an exception of a class of the program's own -/
def excO (K : Kw) (a : Addr) (c : Str) : HO := .ext fun h => ∃ C oe vs, PySem.W.nsIn K.K mainGlobals c = some (some (.ref C)) ∧ h.get? a = some oe ∧ Zc (.ref C) none oe ∧ oe.data = .fields vs
/-- a dict whose keys are tuples, nested ones among them -/
def rowN (w : World) (x : NestedKey × Addr × Value) : DictEntry := ⟨x.1.hash w, .ref x.2.1, x.2.2⟩
def RelN (p : NestedKey × Addr × V) (q : NestedKey × Addr × Value) : Prop := p.1 = q.1 ∧ p.2.1 = q.2.1 ∧ RelV p.2.2 q.2.2
def dnO (w : World) (a : Addr) (kvs : List (NestedKey × Addr × V)) : HO := .ext fun h => kvs.length ≤ sizeLine ∧ (a == sysModules) = false ∧ ∃ xs : List (NestedKey × Addr × Value), Paired RelN kvs xs ∧
  ∃ o es ep, h.get? a = some o ∧ o.ExactDict ∧ o.data = .dict es ep ∧ es.toList = xs.map (rowN w) ∧ (xs.map (·.1)).Nodup
mutual
inductive Dp (K : Kw) (H : Hp) : V → PyData → Prop
  | non : Dp K H .non .none
  | bl (b : Bool) : Dp K H (.bl b) (.bool b)
  | int (i : Int) : Dp K H (.int i) (.int i)
  | str (x : Str) : Dp K H (.str x) (.str x)
  | lst {a : Addr} {xs : List V} {ds : List PyData} : SqL K.K H a xs → DpAll K H xs ds → Dp K H (.ref a) (.list ds)
  | tup {a : Addr} {xs : List V} {ds : List PyData} : SqT K.K H a xs → DpAll K H xs ds → Dp K H (.ref a) (.tuple ds)
  | dct {a : Addr} {kvs : List (Key × V)} {ps : List (PyData × PyData)} : Rd H a (.dK kvs) → DpKv K H kvs ps → Dp K H (.ref a) (.dict ps)
  | dcn {a : Addr} {kvs : List (NestedKey × Addr × V)} {ps : List (PyData × PyData)} : Rd H a (dnO K.w a kvs) → DpKn K H kvs ps → Dp K H (.ref a) (.dict ps)
  | exc {a : Addr} {c : Str} : Rd H a (excO K a c) → Dp K H (.ref a) (.dict [(.none, .str c)])
  | ins {a C dx : Addr} {fs : List (Str × V)} : H a = some (.ins C dx fs) → Dp K H (.ref a) (.dict [(.none, .none)])
inductive DpAll (K : Kw) (H : Hp) : List V → List PyData → Prop
  | nil : DpAll K H [] []
  | cons {v : V} {vs : List V} {d : PyData} {ds : List PyData} : Dp K H v d → DpAll K H vs ds → DpAll K H (v :: vs) (d :: ds)
inductive DpKv (K : Kw) (H : Hp) : List (Key × V) → List (PyData × PyData) → Prop
  | nil : DpKv K H [] []
  | cons {k : Key} {v : V} {kvs : List (Key × V)} {d : PyData} {ps : List (PyData × PyData)} : Dp K H v d → DpKv K H kvs ps → DpKv K H ((k, v) :: kvs) ((keyD k, d) :: ps)
inductive DpKn (K : Kw) (H : Hp) : List (NestedKey × Addr × V) → List (PyData × PyData) → Prop
  | nil : DpKn K H [] []
  | cons {k : NestedKey} {b : Addr} {v : V} {kvs : List (NestedKey × Addr × V)} {d : PyData} {ps : List (PyData × PyData)} : Dp K H (.ref b) k.data → k.depth ≤ 8 → Dp K H v d → DpKn K H kvs ps → DpKn K H ((k, b, v) :: kvs) ((k.data, d) :: ps)
end
section
variable {K : Kw}
theorem Same.rd {H H' : Hp} {a : Addr} {u : HO} (e : Same H H') (h : Rd H a u) : Rd H' a u := by
  rcases h with h | ⟨o, h⟩
  · exact .inl (e _ _ h)
  · exact .inr ⟨o, e _ _ h⟩
theorem SqT_mono {K : PySem.W.Frag} {H H' : Hp} {a : Addr} {xs : List V} (e : Same H H') (h : SqT K H a xs) : SqT K H' a xs := by
  rcases h with (h | ⟨o, h⟩) | h
  · exact .inl (.inl (e _ _ h))
  · exact .inl (.inr ⟨o, e _ _ h⟩)
  · exact .inr h
mutual
theorem Dp.mono {H H' : Hp} (e : Same H H') : ∀ (d : D) (v : V), Dp K H v d → Dp K H' v d
  | .none, _, h => by cases h; exact .non
  | .bool b, _, h => by cases h; exact .bl b
  | .int b, _, h => by cases h; exact .int b
  | .str b, _, h => by cases h; exact .str b
  | .list ds, _, h => by
    cases h with
    | lst hs ha => exact .lst (e.seq hs) (DpAll.mono e ds _ ha)
  | .tuple ds, _, h => by
    cases h with
    | tup hs ha => exact .tup (SqT_mono e hs) (DpAll.mono e ds _ ha)
  | .dict ps, _, h => by
    cases h with
    | dct hs ha => exact .dct (Same.rd e hs) (DpKv.mono e ps _ ha)
    | dcn hs ha => exact .dcn (Same.rd e hs) (DpKn.mono e ps _ ha)
    | exc hs => exact .exc (Same.rd e hs)
    | ins hs => exact .ins (e _ _ hs)
theorem DpAll.mono {H H' : Hp} (e : Same H H') : ∀ (ds : List D) (vs : List V), DpAll K H vs ds → DpAll K H' vs ds
  | [], _, h => by cases h; exact .nil
  | d :: ds, _, h => by
    cases h with
    | cons h1 h2 => exact .cons (Dp.mono e d _ h1) (DpAll.mono e ds _ h2)
theorem DpKv.mono {H H' : Hp} (e : Same H H') : ∀ (ps : List (D × D)) (kvs : List (Key × V)), DpKv K H kvs ps → DpKv K H' kvs ps
  | [], _, h => by cases h; exact .nil
  | (x, d) :: ps, _, h => by
    cases h with
    | cons h1 h2 => exact .cons (Dp.mono e d _ h1) (DpKv.mono e ps _ h2)
theorem DpKn.mono {H H' : Hp} (e : Same H H') : ∀ (ps : List (D × D)) (kvs : List (NestedKey × Addr × V)), DpKn K H kvs ps → DpKn K H' kvs ps
  | [], _, h => by cases h; exact .nil
  | (x, d) :: ps, _, h => by
    cases h with
    | cons h0 h1 h2 h3 => exact .cons (Dp.mono e _ _ h0) h1 (Dp.mono e d _ h2) (DpKn.mono e ps _ h3)
end
mutual
/-- as the kit has it, where no dict is within -/
theorem Dp.kit {H : Hp} : ∀ (d : D) (v : V), Dp K H v d → d.canLay0 = true → L2.Dp K.K H v d
  | .none, _, h, _ => by cases h; exact .non
  | .bool b, _, h, _ => by cases h; exact .bl b
  | .int b, _, h, _ => by cases h; exact .int b
  | .str b, _, h, _ => by cases h; exact .str b
  | .list ds, _, h, c => by
    cases h with
    | lst hs ha => exact .lst hs (DpAll.kit ds _ ha (by rw [PyData.canLay0] at c; exact c))
  | .tuple ds, _, h, c => by
    cases h with
    | tup hs ha => exact .tup hs (DpAll.kit ds _ ha (by rw [PyData.canLay0] at c; exact c))
  | .dict _, _, _, c => by rw [PyData.canLay0] at c; cases c
theorem DpAll.kit {H : Hp} : ∀ (ds : List D) (vs : List V), DpAll K H vs ds → PyData.canLayAll0 ds = true → L2.DpAll K.K H vs ds
  | [], _, h, _ => by cases h; exact .nil
  | d :: ds, _, h, c => by
    rw [PyData.canLayAll0, Bool.and_eq_true] at c
    cases h with
    | cons h1 h2 => exact .cons (Dp.kit d _ h1 c.1) (DpAll.kit ds _ h2 c.2)
end
theorem dpUp {H H' : Hp} {v : V} {d : D} (h : Dp K H v d) (e : Same H H') : Dp K H' v d := Dp.mono e d v h
theorem dpaUp {H H' : Hp} {v : List V} {d : List D} (h : DpAll K H v d) (e : Same H H') : DpAll K H' v d := DpAll.mono e d v h
theorem DpAll.len {H : Hp} : ∀ {vs : List V} {ds : List D}, DpAll K H vs ds → vs.length = ds.length
  | _, [], h => by cases h; rfl
  | _, d :: ds, h => by
    cases h with
    | cons h1 h2 => simp [DpAll.len h2]
theorem DpAll.get {H : Hp} : ∀ {vs : List V} {ds : List D} {i : Nat} {d : D}, DpAll K H vs ds → ds[i]? = some d → ∃ v, vs[i]? = some v ∧ Dp K H v d
  | _, [], i, d, h, e => by simp at e
  | _, x :: ds, 0, d, h, e => by
    cases h with
    | cons h1 h2 => simp at e; subst e; exact ⟨_, rfl, h1⟩
  | _, x :: ds, i + 1, d, h, e => by
    cases h with
    | cons h1 h2 =>
      obtain ⟨v, q, r⟩ := DpAll.get (i := i) h2 (by simpa using e)
      exact ⟨v, by simpa using q, r⟩
theorem DpAll.getV {H : Hp} : ∀ {vs : List V} {ds : List D} {i : Nat} {v : V}, DpAll K H vs ds → vs[i]? = some v → ∃ d, ds[i]? = some d ∧ Dp K H v d
  | _, [], i, v, h, e => by cases h; simp at e
  | _, x :: ds, 0, v, h, e => by
    cases h with
    | cons h1 h2 => simp at e; subst e; exact ⟨_, rfl, h1⟩
  | _, x :: ds, i + 1, v, h, e => by
    cases h with
    | cons h1 h2 =>
      obtain ⟨d, q, r⟩ := DpAll.getV (i := i) h2 (by simpa using e)
      exact ⟨d, by simpa using q, r⟩
theorem DpAll.append {H : Hp} : ∀ {vs ws : List V} {ds es : List D}, DpAll K H vs ds → DpAll K H ws es → DpAll K H (vs ++ ws) (ds ++ es)
  | _, _, [], _, h, g => by cases h; exact g
  | _, _, d :: ds, _, h, g => by
    cases h with
    | cons h1 h2 => exact .cons h1 (DpAll.append h2 g)
theorem DpAll.take {H : Hp} : ∀ {vs : List V} {ds : List D} (n : Nat), DpAll K H vs ds → DpAll K H (vs.take n) (ds.take n)
  | _, [], n, h => by cases h; simp; exact .nil
  | _, d :: ds, 0, h => by simp; exact .nil
  | _, d :: ds, n + 1, h => by
    cases h with
    | cons h1 h2 => exact .cons h1 (DpAll.take n h2)
theorem DpAll.drop {H : Hp} : ∀ {vs : List V} {ds : List D} (n : Nat), DpAll K H vs ds → DpAll K H (vs.drop n) (ds.drop n)
  | _, [], n, h => by cases h; simp; exact .nil
  | _, d :: ds, 0, h => h
  | _, d :: ds, n + 1, h => by
    cases h with
    | cons h1 h2 => exact DpAll.drop n h2
theorem DpAll.ints {H : Hp} : ∀ {vs : List V} (ns : List Int), DpAll K H vs (ns.map PyData.int) → vs = ns.map V.int
  | _, [], h => by cases h; rfl
  | _, n :: ns, h => by
    cases h with
    | cons h1 h2 => cases h1; simp [DpAll.ints ns h2]
theorem DpAll.of_ints {H : Hp} : ∀ (ns : List Int), DpAll K H (ns.map V.int) (ns.map PyData.int)
  | [] => .nil
  | n :: ns => .cons (.int n) (DpAll.of_ints ns)

/-- frozen facts F, the tracked heap H, behind a step that changes nothing that stood -/
structure Ext (F H F' H' : Hp) : Prop where
  ff : Same F F'
  hh : Same H H'
  fn : ∀ b o, F' b = some o → F b = some o ∨ H b = none
  fh : Same F' H'
theorem Ext.refl {F H : Hp} (h : Same F H) : Ext F H F H := ⟨Same.refl _, Same.refl _, fun _ _ h => .inl h, h⟩
theorem Ext.trans {F H F1 H1 F2 H2 : Hp} (a : Ext F H F1 H1) (b : Ext F1 H1 F2 H2) : Ext F H F2 H2 :=
  ⟨a.ff.trans b.ff, a.hh.trans b.hh, fun c o h => by
    rcases b.fn c o h with q | q
    · exact a.fn c o q
    · exact .inr (a.hh.free q), b.fh⟩
theorem free_of {F H : Hp} (s : Same F H) {p : Addr} (h : H p = none) : F p = none := s.free h
theorem same_upd {H : Hp} {p : Addr} (h : H p = none) (o : HO) : Same H (upd H p o) := fun b u q => by rw [upd_ne (ne_of_none q h)]; exact q
theorem same_upd2 {F H : Hp} (s : Same F H) {p : Addr} (h : H p = none) (o : HO) : Same (upd F p o) (upd H p o) := fun b u q => by
  by_cases e : b = p
  · subst e; rw [upd_same] at q ⊢; exact q
  · rw [upd_ne e] at q ⊢; exact s _ _ q
/-- a new object, frozen at once -/
theorem Ext.frz {F H : Hp} (s : Same F H) {p : Addr} (h : H p = none) (o : HO) : Ext F H (upd F p o) (upd H p o) :=
  ⟨same_upd (free_of s h) o, same_upd h o, fun b u q => by
    by_cases e : b = p
    · subst e; exact .inr h
    · rw [upd_ne e] at q; exact .inl q, same_upd2 s h o⟩
/-- a new object of the def's own -/
theorem Ext.own {F H : Hp} (s : Same F H) {p : Addr} (h : H p = none) (o : HO) : Ext F H F (upd H p o) :=
  ⟨Same.refl _, same_upd h o, fun _ _ q => .inl q, s.trans (same_upd h o)⟩

mutual
inductive OwnAt (K : Kw) (F H : Hp) : V → Ow → List Addr → Prop
  | d {v : V} {x : D} : Dp K F v x → OwnAt K F H v (.d x) []
  | l {a : Addr} {vs : List V} {os : List Ow} {fp : List Addr} : F a = none → H a = some (.lst vs) → OwnAll K F H vs os fp → OwnAt K F H (.ref a) (.l os) (a :: fp)
  | m {a : Addr} {kvs : List (Key × V)} {ps : List (D × D)} : F a = none → H a = some (.dK kvs) → DpKv K F kvs ps → OwnAt K F H (.ref a) (.m ps) [a]
  | t {a : Addr} {vs : List V} {os : List Ow} {fp : List Addr} : SqT K.K F a vs → OwnAll K F H vs os fp → OwnAt K F H (.ref a) (.t os) fp
  | k {a : Addr} {kvs : List (Key × V)} {os : List Ow} {fp : List Addr} : F a = none → H a = some (.dK kvs) → OwnAll K F H (kvs.map (·.2)) os fp → OwnAt K F H (.ref a) (.k (kvs.map fun p => keyD p.1) os) (a :: fp)
  | n {a : Addr} {kvs : List (NestedKey × Addr × V)} {os : List Ow} {fp : List Addr} : F a = none → H a = some (dnO K.w a kvs) → (∀ p ∈ kvs, Dp K F (.ref p.2.1) p.1.data ∧ p.1.depth ≤ 8) → OwnAll K F H (kvs.map (·.2.2)) os fp → OwnAt K F H (.ref a) (.n (kvs.map (·.1.data)) os) (a :: fp)
  | o {c : Str} {a C dx : Addr} {fs : List (Str × V)} {os : List Ow} {fp : List Addr} : PySem.W.nsIn K.K mainGlobals c = some (some (.ref C)) → F a = none → F dx = none → H a = some (.ins C dx fs) → H dx = some (.own a) → OwnAll K F H (fs.map (·.2)) os fp → OwnAt K F H (.ref a) (.o c (fs.map (·.1)) os) (a :: dx :: fp)
inductive OwnAll (K : Kw) (F H : Hp) : List V → List Ow → List Addr → Prop
  | nil : OwnAll K F H [] [] []
  | cons {v : V} {vs : List V} {o : Ow} {os : List Ow} {fp fps : List Addr} : OwnAt K F H v o fp → OwnAll K F H vs os fps → OwnAll K F H (v :: vs) (o :: os) (fp ++ fps)
end
/-- the step of a statement: what is owned (fp) may change -/
structure StepS (F H : Hp) (fp : List Addr) (F' H' : Hp) (fp' : List Addr) : Prop where
  ff : Same F F'
  fr : ∀ b o, H b = some o → b ∉ fp → H' b = some o
  fn : ∀ b o, F' b = some o → F b = some o ∨ b ∈ fp ∨ H b = none
  sub : ∀ b ∈ fp', b ∈ fp ∨ H b = none
theorem StepS.of_ext {F H F' H' : Hp} (e : Ext F H F' H') (fp : List Addr) : StepS F H fp F' H' fp :=
  ⟨e.ff, fun b o h _ => e.hh b o h, fun b o h => (e.fn b o h).imp id .inr, fun b h => .inl h⟩
theorem StepS.trans {F H F1 H1 F2 H2 : Hp} {fp fp1 fp2 : List Addr} (a : StepS F H fp F1 H1 fp1) (b : StepS F1 H1 fp1 F2 H2 fp2) : StepS F H fp F2 H2 fp2 := by
  have nn : ∀ c, H1 c = none → c ∈ fp ∨ H c = none := fun c h => by
    cases q : H c with
    | none => exact .inr rfl
    | some o =>
      by_cases hc : c ∈ fp
      · exact .inl hc
      · rw [a.fr c o q hc] at h; cases h
  refine ⟨a.ff.trans b.ff, fun c o h hc => b.fr c o (a.fr c o h hc) fun z => ?_, fun c o h => ?_, fun c h => ?_⟩
  · rcases a.sub c z with q | q
    · exact hc q
    · rw [h] at q; cases q
  · rcases b.fn c o h with q | q | q
    · exact a.fn c o q
    · exact .inr (a.sub c q)
    · exact .inr (nn c q)
  · rcases b.sub c h with q | q
    · exact a.sub c q
    · exact nn c q
theorem StepS.mono {F H F1 H1 : Hp} {fp fp' fp1 : List Addr} (a : StepS F H fp F1 H1 fp1) (h : ∀ b ∈ fp, b ∈ fp') : StepS F H fp' F1 H1 fp1 :=
  ⟨a.ff, fun b o q n => a.fr b o q fun z => n (h b z), fun b o q => (a.fn b o q).imp id (.imp (h b) id), fun b q => (a.sub b q).imp (h b) id⟩
theorem StepS.subset {F H F1 H1 : Hp} {fp fp1 fp2 : List Addr} (a : StepS F H fp F1 H1 fp1) (h : ∀ b ∈ fp2, b ∈ fp1) : StepS F H fp F1 H1 fp2 :=
  ⟨a.ff, a.fr, a.fn, fun b q => a.sub b (h b q)⟩
theorem StepS.none_of {F H F' H' : Hp} {fx fy : List Addr} {a : Addr} {o : HO} (s : StepS F H fx F' H' fy) (h1 : F a = none) (h2 : H a = some o) (na : a ∉ fx) : F' a = none := by
  cases q : F' a with
  | none => rfl
  | some u =>
    rcases s.fn a u q with z | z | z
    · rw [h1] at z; cases z
    · exact absurd z na
    · rw [h2] at z; cases z

mutual
/-- what is owned apart from what changes stays -/
theorem OwnAt.keep {F H F' H' : Hp} {fx fy : List Addr} (s : StepS F H fx F' H' fy) : ∀ (o : Ow) (v : V) (fp : List Addr), OwnAt K F H v o fp → (∀ b ∈ fp, b ∉ fx) → OwnAt K F' H' v o fp
  | .d x, v, fp, h, _ => by
    cases h with
    | d q => exact .d (dpUp q s.ff)
  | .l os, v, fp, h, n => by
    cases h with
    | @l a vs _ fps h1 h2 h3 =>
      have na : a ∉ fx := n a List.mem_cons_self
      refine .l ?_ (s.fr _ _ h2 na) (OwnAll.keep s os vs fps h3 fun b hb => n b (List.mem_cons_of_mem _ hb))
      cases q : F' a with
      | none => rfl
      | some u =>
        rcases s.fn a u q with z | z | z
        · rw [h1] at z; cases z
        · exact absurd z na
        · rw [h2] at z; cases z
  | .m ps, v, fp, h, n => by
    cases h with
    | @m a kvs _ h1 h2 h3 =>
      have na : a ∉ fx := n a List.mem_cons_self
      refine .m ?_ (s.fr _ _ h2 na) (DpKv.mono s.ff ps _ h3)
      cases q : F' a with
      | none => rfl
      | some u =>
        rcases s.fn a u q with z | z | z
        · rw [h1] at z; cases z
        · exact absurd z na
        · rw [h2] at z; cases z
  | .t os, v, fp, h, n => by
    cases h with
    | @t a vs _ _ h1 h2 => exact .t (SqT_mono s.ff h1) (OwnAll.keep s os vs fp h2 n)
  | .k _ os, v, fp, h, n => by
    cases h with
    | @k a kvs _ fps h1 h2 h3 =>
      have na : a ∉ fx := n a List.mem_cons_self
      refine .k (s.none_of h1 h2 na) (s.fr _ _ h2 na) (OwnAll.keep s os _ fps h3 fun b hb => n b (List.mem_cons_of_mem _ hb))
  | .n _ os, v, fp, h, n => by
    cases h with
    | @n a kvs _ fps h1 h2 h3 h4 =>
      have na : a ∉ fx := n a List.mem_cons_self
      refine .n (s.none_of h1 h2 na) (s.fr _ _ h2 na) (fun p hp => ⟨Dp.mono s.ff _ _ (h3 p hp).1, (h3 p hp).2⟩) (OwnAll.keep s os _ fps h4 fun b hb => n b (List.mem_cons_of_mem _ hb))
  | .o _ _ os, v, fp, h, n => by
    cases h with
    | @o c a C dx fs _ fps h0 h1 h2 h3 h4 h5 =>
      have na : a ∉ fx := n a List.mem_cons_self
      have nd : dx ∉ fx := n dx (List.mem_cons_of_mem _ List.mem_cons_self)
      exact .o h0 (s.none_of h1 h3 na) (s.none_of h2 h4 nd) (s.fr _ _ h3 na) (s.fr _ _ h4 nd) (OwnAll.keep s os _ fps h5 fun b hb => n b (List.mem_cons_of_mem _ (List.mem_cons_of_mem _ hb)))
theorem OwnAll.keep {F H F' H' : Hp} {fx fy : List Addr} (s : StepS F H fx F' H' fy) : ∀ (os : List Ow) (vs : List V) (fp : List Addr), OwnAll K F H vs os fp → (∀ b ∈ fp, b ∉ fx) → OwnAll K F' H' vs os fp
  | [], vs, fp, h, _ => by cases h; exact .nil
  | o :: os, vs, fp, h, n => by
    cases h with
    | cons h1 h2 => exact .cons (OwnAt.keep s o _ _ h1 fun b hb => n b (List.mem_append_left _ hb)) (OwnAll.keep s os _ _ h2 fun b hb => n b (List.mem_append_right _ hb))
end
theorem OwnAt.ext {F H F' H' : Hp} {v : V} {o : Ow} {fp : List Addr} (h : OwnAt K F H v o fp) (e : Ext F H F' H') : OwnAt K F' H' v o fp :=
  OwnAt.keep (StepS.of_ext e []) o v fp h fun _ _ => by simp
theorem OwnAll.ext {F H F' H' : Hp} {v : List V} {o : List Ow} {fp : List Addr} (h : OwnAll K F H v o fp) (e : Ext F H F' H') : OwnAll K F' H' v o fp :=
  OwnAll.keep (StepS.of_ext e []) o v fp h fun _ _ => by simp
mutual
theorem OwnAt.there {F H : Hp} : ∀ (o : Ow) (v : V) (fp : List Addr), OwnAt K F H v o fp → ∀ b ∈ fp, F b = none ∧ ∃ o, H b = some o
  | .d x, v, fp, h, b, hb => by cases h; cases hb
  | .l os, v, fp, h, b, hb => by
    cases h with
    | l h1 h2 h3 =>
      rcases List.mem_cons.mp hb with e | e
      · subst e; exact ⟨h1, _, h2⟩
      · exact OwnAll.there os _ _ h3 b e
  | .m ps, v, fp, h, b, hb => by
    cases h with
    | m h1 h2 h3 =>
      rw [List.mem_singleton] at hb
      subst hb; exact ⟨h1, _, h2⟩
  | .t os, v, fp, h, b, hb => by
    cases h with
    | t h1 h2 => exact OwnAll.there os _ _ h2 b hb
  | .k _ os, v, fp, h, b, hb => by
    cases h with
    | k h1 h2 h3 =>
      rcases List.mem_cons.mp hb with e | e
      · subst e; exact ⟨h1, _, h2⟩
      · exact OwnAll.there os _ _ h3 b e
  | .n _ os, v, fp, h, b, hb => by
    cases h with
    | n h1 h2 h3 h4 =>
      rcases List.mem_cons.mp hb with e | e
      · subst e; exact ⟨h1, _, h2⟩
      · exact OwnAll.there os _ _ h4 b e
  | .o _ _ os, v, fp, h, b, hb => by
    cases h with
    | o h0 h1 h2 h3 h4 h5 =>
      rcases List.mem_cons.mp hb with e | e
      · subst e; exact ⟨h1, _, h3⟩
      · rcases List.mem_cons.mp e with e | e
        · subst e; exact ⟨h2, _, h4⟩
        · exact OwnAll.there os _ _ h5 b e
theorem OwnAll.there {F H : Hp} : ∀ (o : List Ow) (v : List V) (fp : List Addr), OwnAll K F H v o fp → ∀ b ∈ fp, F b = none ∧ ∃ o, H b = some o
  | [], v, fp, h, b, hb => by cases h; cases hb
  | o :: os, v, fp, h, b, hb => by
    cases h with
    | cons h1 h2 =>
      rcases List.mem_append.mp hb with e | e
      · exact OwnAt.there o _ _ h1 b e
      · exact OwnAll.there os _ _ h2 b e
end
theorem dpKv_zip {H : Hp} : ∀ {kvs : List (Key × V)} {ds : List D}, DpAll K H (kvs.map (·.2)) ds → DpKv K H kvs ((kvs.map fun p => keyD p.1).zip ds)
  | [], _, h => by cases h; exact .nil
  | p :: kvs, _, h => by
    cases h with
    | cons h1 h2 => exact .cons h1 (dpKv_zip h2)
theorem dpKn_zip {H : Hp} : ∀ {kvs : List (NestedKey × Addr × V)} {ds : List D}, (∀ p ∈ kvs, Dp K H (.ref p.2.1) p.1.data ∧ p.1.depth ≤ 8) → DpAll K H (kvs.map (·.2.2)) ds → DpKn K H kvs ((kvs.map (·.1.data)).zip ds)
  | [], _, _, h => by cases h; exact .nil
  | p :: kvs, _, g, h => by
    cases h with
    | cons h1 h2 => exact .cons (g p List.mem_cons_self).1 (g p List.mem_cons_self).2 h1 (dpKn_zip (fun q hq => g q (List.mem_cons_of_mem _ hq)) h2)
mutual
theorem OwnAt.view {F H : Hp} (s : Same F H) : ∀ (o : Ow) (v : V) (fp : List Addr), OwnAt K F H v o fp → Dp K H v (viewD o)
  | .d x, v, fp, h => by
    cases h with
    | d q => rw [viewD]; exact dpUp q s
  | .l os, v, fp, h => by
    cases h with
    | l h1 h2 h3 => rw [viewD]; exact .lst (SqL.of h2) (OwnAll.view s os _ _ h3)
  | .m ps, v, fp, h => by
    cases h with
    | m h1 h2 h3 => rw [viewD]; exact .dct (.inl h2) (DpKv.mono s ps _ h3)
  | .t os, v, fp, h => by
    cases h with
    | t h1 h2 => rw [viewD]; exact .tup (SqT_mono s h1) (OwnAll.view s os _ _ h2)
  | .k _ os, v, fp, h => by
    cases h with
    | k h1 h2 h3 => rw [viewD]; exact .dct (.inl h2) (dpKv_zip (OwnAll.view s os _ _ h3))
  | .n _ os, v, fp, h => by
    cases h with
    | n h1 h2 h3 h4 => rw [viewD]; exact .dcn (.inl h2) (dpKn_zip (fun p hp => ⟨Dp.mono s _ _ (h3 p hp).1, (h3 p hp).2⟩) (OwnAll.view s os _ _ h4))
  | .o _ _ os, v, fp, h => by
    cases h with
    | o h0 h1 h2 h3 h4 h5 => rw [viewD]; exact .ins h3
theorem OwnAll.view {F H : Hp} (s : Same F H) : ∀ (o : List Ow) (v : List V) (fp : List Addr), OwnAll K F H v o fp → DpAll K H v (viewAll o)
  | [], v, fp, h => by cases h; rw [viewAll]; exact .nil
  | o :: os, v, fp, h => by
    cases h with
    | cons h1 h2 => rw [viewAll]; exact .cons (OwnAt.view s o _ _ h1) (OwnAll.view s os _ _ h2)
end
theorem OwnAll.len {F H : Hp} : ∀ {os : List Ow} {vs : List V} {fp : List Addr}, OwnAll K F H vs os fp → vs.length = os.length
  | [], _, _, h => by cases h; rfl
  | o :: os, _, _, h => by
    cases h with
    | cons h1 h2 => simp [OwnAll.len h2]
/-- F with the objects at fp as they stand in H -/
def frzAt (F H : Hp) (fp : List Addr) : Hp := fun b => if b ∈ fp then H b else F b
theorem frzAt_same {F H : Hp} {fp : List Addr} (n : ∀ b ∈ fp, F b = none) : Same F (frzAt F H fp) := fun b o h => by
  have : b ∉ fp := fun z => by rw [n b z] at h; cases h
  simp [frzAt, this, h]
theorem frzAt_in {F H : Hp} {fp : List Addr} (s : Same F H) : Same (frzAt F H fp) H := fun b o h => by
  unfold frzAt at h
  split at h
  · exact h
  · exact s _ _ h
theorem frzAt_of {F H : Hp} {fp : List Addr} {b : Addr} {o : HO} (h : frzAt F H fp b = some o) : F b = some o ∨ b ∈ fp := by
  unfold frzAt at h
  split at h
  · exact .inr ‹_›
  · exact .inl h
mutual
theorem OwnAt.frz {F H : Hp} {fx : List Addr} (nx : ∀ b ∈ fx, F b = none) : ∀ (o : Ow) (v : V) (fp : List Addr), OwnAt K F H v o fp → (∀ b ∈ fp, b ∈ fx) → Dp K (frzAt F H fx) v (viewD o)
  | .d x, v, fp, h, _ => by
    cases h with
    | d q => rw [viewD]; exact dpUp q (frzAt_same nx)
  | .l os, v, fp, h, hs => by
    cases h with
    | @l a _ _ _ h1 h2 h3 =>
      rw [viewD]
      have e : frzAt F H fx a = some (.lst _) := (if_pos (hs a List.mem_cons_self)).trans h2
      exact .lst (SqL.of e) (OwnAll.frz nx os _ _ h3 fun b hb => hs b (List.mem_cons_of_mem _ hb))
  | .m ps, v, fp, h, hs => by
    cases h with
    | @m a _ _ h1 h2 h3 =>
      rw [viewD]
      have e : frzAt F H fx a = some (.dK _) := (if_pos (hs a List.mem_cons_self)).trans h2
      exact .dct (.inl e) (DpKv.mono (frzAt_same nx) ps _ h3)
  | .t os, v, fp, h, hs => by
    cases h with
    | t h1 h2 => rw [viewD]; exact .tup (SqT_mono (frzAt_same nx) h1) (OwnAll.frz nx os _ _ h2 hs)
  | .k _ os, v, fp, h, hs => by
    cases h with
    | @k a _ _ _ h1 h2 h3 =>
      rw [viewD]
      have e : frzAt F H fx a = some (.dK _) := (if_pos (hs a List.mem_cons_self)).trans h2
      exact .dct (.inl e) (dpKv_zip (OwnAll.frz nx os _ _ h3 fun b hb => hs b (List.mem_cons_of_mem _ hb)))
  | .n _ os, v, fp, h, hs => by
    cases h with
    | @n a _ _ _ h1 h2 h3 h4 =>
      rw [viewD]
      have e : frzAt F H fx a = some (dnO _ _ _) := (if_pos (hs a List.mem_cons_self)).trans h2
      exact .dcn (.inl e) (dpKn_zip (fun p hp => ⟨Dp.mono (frzAt_same nx) _ _ (h3 p hp).1, (h3 p hp).2⟩) (OwnAll.frz nx os _ _ h4 fun b hb => hs b (List.mem_cons_of_mem _ hb)))
  | .o _ _ os, v, fp, h, hs => by
    cases h with
    | @o c a C dx fs _ _ h0 h1 h2 h3 h4 h5 =>
      rw [viewD]
      have e : frzAt F H fx a = some (.ins _ _ _) := (if_pos (hs a List.mem_cons_self)).trans h3
      exact .ins e
theorem OwnAll.frz {F H : Hp} {fx : List Addr} (nx : ∀ b ∈ fx, F b = none) : ∀ (o : List Ow) (v : List V) (fp : List Addr), OwnAll K F H v o fp → (∀ b ∈ fp, b ∈ fx) → DpAll K (frzAt F H fx) v (viewAll o)
  | [], v, fp, h, _ => by cases h; rw [viewAll]; exact .nil
  | o :: os, v, fp, h, hs => by
    cases h with
    | cons h1 h2 => rw [viewAll]; exact .cons (OwnAt.frz nx o _ _ h1 fun b hb => hs b (List.mem_append_left _ hb)) (OwnAll.frz nx os _ _ h2 fun b hb => hs b (List.mem_append_right _ hb))
end
/-- a fresh owned value made data -/
theorem Ext.freeze {F H F' H' : Hp} {v : V} {o : Ow} {fp : List Addr} (e : Ext F H F' H') (h : OwnAt K F' H' v o fp) (n : ∀ b ∈ fp, H b = none) :
    ∃ F2, Ext F H F2 H' ∧ Dp K F2 v (viewD o) := by
  have nx : ∀ b ∈ fp, F' b = none := fun b hb => (OwnAt.there o v fp h b hb).1
  refine ⟨frzAt F' H' fp, ⟨e.ff.trans (frzAt_same nx), e.hh, fun b u q => ?_, frzAt_in e.fh⟩, OwnAt.frz nx o v fp h fun _ z => z⟩
  rcases frzAt_of q with z | z
  · exact e.fn b u z
  · exact .inr (n b z)

inductive EnvAt (K : Kw) (F H : Hp) : St → Ev → List Addr → Prop
  | nil : EnvAt K F H [] [] []
  | non {x : Option V} {σ : St} {env : Ev} {fp : List Addr} : EnvAt K F H σ env fp → EnvAt K F H (x :: σ) (none :: env) fp
  | som {v : V} {o : Ow} {σ : St} {env : Ev} {fp fps : List Addr} : OwnAt K F H v o fp → EnvAt K F H σ env fps → EnvAt K F H (some v :: σ) (some o :: env) (fp ++ fps)
theorem EnvAt.keep {F H F' H' : Hp} {fx fy : List Addr} (s : StepS F H fx F' H' fy) : ∀ {σ : St} {env : Ev} {fp : List Addr}, EnvAt K F H σ env fp → (∀ b ∈ fp, b ∉ fx) → EnvAt K F' H' σ env fp := by
  intro σ env fp h
  induction h with
  | nil => intro _; exact .nil
  | non h ih => intro n; exact .non (ih n)
  | som h1 h2 ih => intro n; exact .som (OwnAt.keep s _ _ _ h1 fun b hb => n b (List.mem_append_left _ hb)) (ih fun b hb => n b (List.mem_append_right _ hb))
theorem EnvAt.ext {F H F' H' : Hp} {σ : St} {env : Ev} {fp : List Addr} (h : EnvAt K F H σ env fp) (e : Ext F H F' H') : EnvAt K F' H' σ env fp :=
  h.keep (StepS.of_ext e []) fun _ _ => by simp
theorem EnvAt.there {F H : Hp} {σ : St} {env : Ev} {fp : List Addr} (h : EnvAt K F H σ env fp) : ∀ b ∈ fp, F b = none ∧ ∃ o, H b = some o := by
  induction h with
  | nil => intro b hb; cases hb
  | non h ih => exact ih
  | som h1 h2 ih =>
    intro b hb
    rcases List.mem_append.mp hb with e | e
    · exact OwnAt.there _ _ _ h1 b e
    · exact ih b e
theorem EnvAt.len {F H : Hp} {σ : St} {env : Ev} {fp : List Addr} (h : EnvAt K F H σ env fp) : σ.length = env.length := by
  induction h with
  | nil => rfl
  | non h ih => simp [ih]
  | som h1 h2 ih => simp [ih]
/-- a slot read: its own footprint, and the others' -/
theorem EnvAt.get {F H : Hp} {σ : St} {env : Ev} {fp : List Addr} (h : EnvAt K F H σ env fp) : ∀ {i : Nat} {o : Ow}, env[i]? = some (some o) → ∃ v fo, σ[i]? = some (some v) ∧ OwnAt K F H v o fo ∧ (∀ b ∈ fo, b ∈ fp) := by
  induction h with
  | nil => intro i o e; simp at e
  | non h ih =>
    intro i o e
    cases i with
    | zero => simp at e
    | succ i => simpa using ih (i := i) (by simpa using e)
  | @som v o' σ' env' fp1 fps h1 h2 ih =>
    intro i o e
    cases i with
    | zero =>
      simp at e; subst e
      exact ⟨v, fp1, rfl, h1, fun b hb => List.mem_append_left _ hb⟩
    | succ i =>
      obtain ⟨v2, fo, a, b, c⟩ := ih (i := i) (by simpa using e)
      exact ⟨v2, fo, by simpa using a, b, fun b hb => List.mem_append_right _ (c b hb)⟩
/-- a slot changed: the rest keeps; fo what stood there, fr the rest (F, H may have moved by a step within fo) -/
theorem EnvAt.put {F H : Hp} {σ : St} {env : Ev} {fp : List Addr} (h : EnvAt K F H σ env fp) : ∀ {i : Nat}, i < env.length → fp.Nodup → ∃ fr fo, (∀ b ∈ fr, b ∈ fp) ∧ (∀ b ∈ fo, b ∈ fp) ∧ fr.Nodup ∧ fo.Nodup ∧ (∀ b ∈ fo, b ∉ fr) ∧
    (∀ o, env[i]? = some (some o) → ∃ v, σ[i]? = some (some v) ∧ OwnAt K F H v o fo) ∧
    ∀ (F' H' : Hp) (fx fy : List Addr), StepS F H fx F' H' fy → (∀ b ∈ fr, b ∉ fx) → (∀ (x : Option V), EnvAt K F' H' (σ.set i x) (env.set i none) fr) ∧ ∀ (v : V) (o : Ow) (fn : List Addr), OwnAt K F' H' v o fn → fn.Nodup → (∀ b ∈ fn, b ∉ fr) → ∃ fp', fp'.Nodup ∧ (∀ b ∈ fp', b ∈ fn ∨ b ∈ fr) ∧ EnvAt K F' H' (σ.set i (some v)) (env.set i (some o)) fp' := by
  induction h with
  | nil => intro i hi; simp at hi
  | @non x σ' env' fps h ih =>
    intro i hi hn
    cases i with
    | zero =>
      refine ⟨fps, [], fun b z => z, (fun b z => nomatch z), hn, List.nodup_nil, fun b z => (nomatch z), fun o e => by simp at e, fun F' H' fx fy s n => ⟨fun x => .non (h.keep s n), fun v o fn ho hd hx => ?_⟩⟩
      refine ⟨fn ++ fps, ?_, fun b hb => List.mem_append.mp hb, .som ho (h.keep s n)⟩
      rw [List.nodup_append]
      exact ⟨hd, hn, fun a ha b hb e => hx a ha (e ▸ hb)⟩
    | succ i =>
      obtain ⟨fr, fo, a1, a2, a3, a3', a4, a5, a6⟩ := ih (i := i) (by simpa using hi) hn
      refine ⟨fr, fo, a1, a2, a3, a3', a4, by simpa using a5, fun F' H' fx fy s n => ⟨fun x => .non ((a6 F' H' fx fy s n).1 x), fun v o fn ho hd hx => ?_⟩⟩
      obtain ⟨fp', b1, b2, b3⟩ := (a6 F' H' fx fy s n).2 v o fn ho hd hx
      exact ⟨fp', b1, b2, .non b3⟩
  | @som v0 o0 σ' env' f1 fps h1 h2 ih =>
    intro i hi hn
    rw [List.nodup_append] at hn
    obtain ⟨n1, n2, n3⟩ := hn
    cases i with
    | zero =>
      refine ⟨fps, f1, fun b z => List.mem_append_right _ z, fun b z => List.mem_append_left _ z, n2, n1, fun b z q => n3 b z b q rfl, fun o e => ?_, fun F' H' fx fy s n => ⟨fun x => .non (h2.keep s n), fun v o fn ho hd hx => ?_⟩⟩
      · simp at e; subst e; exact ⟨v0, rfl, h1⟩
      · refine ⟨fn ++ fps, ?_, fun b hb => List.mem_append.mp hb, .som ho (h2.keep s n)⟩
        rw [List.nodup_append]
        exact ⟨hd, n2, fun a ha b hb e => hx a ha (e ▸ hb)⟩
    | succ i =>
      obtain ⟨fr, fo, a1, a2, a3, a3', a4, a5, a6⟩ := ih (i := i) (by simpa using hi) n2
      have dis : ∀ b ∈ f1, b ∉ fr := fun b z q => n3 b z b (a1 b q) rfl
      have key : ∀ (F' H' : Hp) (fx fy : List Addr), StepS F H fx F' H' fy → (∀ b ∈ f1 ++ fr, b ∉ fx) → OwnAt K F' H' v0 o0 f1 := fun F' H' fx fy s n => OwnAt.keep s _ _ _ h1 fun b hb => n b (List.mem_append_left _ hb)
      refine ⟨f1 ++ fr, fo, fun b z => ?_, fun b z => List.mem_append_right _ (a2 b z), ?_, a3', fun b z q => ?_, by simpa using a5, fun F' H' fx fy s n => ⟨fun x => .som (key F' H' fx fy s n) ((a6 F' H' fx fy s fun b hb => n b (List.mem_append_right _ hb)).1 x), fun v o fn ho hd hx => ?_⟩⟩
      · rcases List.mem_append.mp z with z | z
        · exact List.mem_append_left _ z
        · exact List.mem_append_right _ (a1 b z)
      · rw [List.nodup_append]; exact ⟨n1, a3, fun a ha b hb e => dis a ha (e ▸ hb)⟩
      · rcases List.mem_append.mp q with q | q
        · exact n3 b q b (a2 b z) rfl
        · exact a4 b z q
      · obtain ⟨fp', b1, b2, b3⟩ := (a6 F' H' fx fy s fun b hb => n b (List.mem_append_right _ hb)).2 v o fn ho hd fun b hb q => hx b hb (List.mem_append_right _ q)
        have dj : ∀ b ∈ f1, b ∉ fp' := fun b z q => by
          rcases b2 b q with r | r
          · exact hx b r (List.mem_append_left _ z)
          · exact dis b z r
        refine ⟨f1 ++ fp', ?_, fun b hb => ?_, .som (key F' H' fx fy s n) b3⟩
        · rw [List.nodup_append]; exact ⟨n1, b1, fun a ha b hb e => dj a ha (e ▸ hb)⟩
        · rcases List.mem_append.mp hb with r | r
          · exact .inr (List.mem_append_left _ r)
          · exact (b2 b r).imp id (List.mem_append_right _)

structure Sat (K : Kw) (F H : Hp) (σ : St) (env : Ev) (fp : List Addr) : Prop where
  fh : Same F H
  en : EnvAt K F H σ env fp
  nd : fp.Nodup
theorem Sat.ext {F H F' H' : Hp} {σ : St} {env : Ev} {fp : List Addr} (s : Sat K F H σ env fp) (e : Ext F H F' H') : Sat K F' H' σ env fp := ⟨e.fh, s.en.ext e, s.nd⟩
end
end Mir
end
set_option Elab.async false
set_option linter.all false
set_option maxRecDepth 100000
set_option maxHeartbeats 4000000
noncomputable section
namespace Mir
open PySem PySem.Spec L2

def Post (X : Cx) (W : WX) {α β : Type} (P : Hp → α → β → Hp → Hp → Prop) (F H : Hp) (σ : L2.St) : R α → (β → Hp → Prop) → Prop
  | .no, _ => False
  | .ok a, Q => ∀ v F' H', Ext F H F' H' → P H a v F' H' → Q v H'
  | .ex c, _ => ∀ C F' H', X.mg c = some (.ref C) → Ext F H F' H' → W (.ref C) none σ H'
class Anti {α β : Type} (P : Hp → α → β → Hp → Hp → Prop) : Prop where
  anti : ∀ {H H1 : Hp} {a : α} {v : β} {F' H' : Hp}, Same H H1 → P H1 a v F' H' → P H a v F' H'
def PVw (K : Kw) (_ : Hp) (d : D) (v : V) (_ H' : Hp) : Prop := Dp K H' v d
def PFz (K : Kw) (_ : Hp) (d : D) (v : V) (F' _ : Hp) : Prop := Dp K F' v d
def POw (K : Kw) (H : Hp) (r : Ow) (v : V) (F' H' : Hp) : Prop := ∃ fp, OwnAt K F' H' v r fp ∧ fp.Nodup ∧ ∀ b ∈ fp, H b = none
/-- a list or tuple whose items are frozen, though it may itself change; other data -/
def PSq (K : Kw) (_ : Hp) (d : D) (v : V) (F' H' : Hp) : Prop := match d with
  | .list ds => ∃ a vs, v = .ref a ∧ SqL K H' a vs ∧ DpAll K F' vs ds
  | d => Dp K F' v d
def PTb (_ : Hp) (b : Bool) (v : Bool) (_ _ : Hp) : Prop := v = b
def PAv (K : Kw) (_ : Hp) (ds : List D) (vs : List V) (_ H' : Hp) : Prop := DpAll K H' vs ds
def PAf (K : Kw) (_ : Hp) (ds : List D) (vs : List V) (F' _ : Hp) : Prop := DpAll K F' vs ds
variable {K : Kw}
instance : Anti (PVw K) := ⟨fun _ h => h⟩
instance : Anti (PFz K) := ⟨fun _ h => h⟩
instance : Anti (PSq K) := ⟨fun {_ _ _ _ _ _} _ h => h⟩
instance : Anti PTb := ⟨fun _ h => h⟩
instance : Anti (PAv K) := ⟨fun _ h => h⟩
instance : Anti (PAf K) := ⟨fun _ h => h⟩
instance : Anti (POw K) := ⟨fun s ⟨fp, a, b, c⟩ => ⟨fp, a, b, fun x hx => s.free (c x hx)⟩⟩

/-- the semantics: t (a reading) is implied by the mirror f -/
def Sm (X : Cx) (W : WX) {α β : Type} (P : Hp → α → β → Hp → Hp → Prop) (t : L2.St → Hp → (β → Hp → Prop) → Prop) (f : Ev → R α) : Prop :=
  ∀ F H σ env fp Q, Sat X.KK F H σ env fp → Post X W P F H σ (f env) Q → t σ H Q
section
variable {X : Cx} {W : WX} {α β γ δ : Type}
theorem Post.ext {P : Hp → α → β → Hp → Hp → Prop} [Anti P] {F H F1 H1 : Hp} {σ : L2.St} {r : R α} {Q : β → Hp → Prop} (h : Post X W P F H σ r Q) (e : Ext F H F1 H1) : Post X W P F1 H1 σ r Q := by
  cases r with
  | no => exact h
  | ok a => exact fun v F' H' e' p => h v F' H' (e.trans e') (Anti.anti e.hh p)
  | ex c => exact fun C F' H' m e' => h C F' H' m (e.trans e')
/-- evaluate one part, go on -/
theorem Sm.go {P : Hp → α → β → Hp → Hp → Prop} {P2 : Hp → γ → δ → Hp → Hp → Prop} [Anti P2] {t : L2.St → Hp → (β → Hp → Prop) → Prop} {f : Ev → R α} (s : Sm X W P t f) {g : α → R γ} {F H : Hp} {σ : L2.St} {env : Ev} {fp : List Addr} {Q : δ → Hp → Prop} {T : β → Hp → Prop}
    (sat : Sat X.KK F H σ env fp) (h : Post X W P2 F H σ ((f env).bind g) Q) (k : ∀ a v F1 H1, Sat X.KK F1 H1 σ env fp → P H a v F1 H1 → Ext F H F1 H1 → Post X W P2 F1 H1 σ (g a) Q → T v H1) : t σ H T := by
  refine s F H σ env fp T sat ?_
  cases e : f env with
  | no => rw [e] at h; exact h
  | ok a =>
    rw [e] at h
    exact fun v F' H' x p => k a v F' H' (sat.ext x) p x (Post.ext (show Post X W P2 F H σ (g a) Q from h) x)
  | ex c => rw [e] at h; exact h
theorem Post.thru {β' : Type} {P : Hp → α → β → Hp → Hp → Prop} {P2 : Hp → γ → β' → Hp → Hp → Prop} {F H : Hp} {σ : L2.St} {r : R α} {g : α → R γ} {Q : β → Hp → Prop} {Q2 : β' → Hp → Prop} (h : Post X W P2 F H σ (r.bind g) Q2)
    (k : ∀ a, r = .ok a → Post X W P2 F H σ (g a) Q2 → ∀ v F' H', Ext F H F' H' → P H a v F' H' → Q v H') : Post X W P F H σ r Q := by
  cases r with
  | no => exact h
  | ok a => exact k a rfl h
  | ex c => exact h
theorem Sm.map {P : Hp → α → β → Hp → Hp → Prop} {P2 : Hp → γ → β → Hp → Hp → Prop} {t : L2.St → Hp → (β → Hp → Prop) → Prop} {f : Ev → R α} (s : Sm X W P t f) {g : α → R γ} (k : ∀ H a v F' H', Same F' H' → P H a v F' H' → ∃ c, g a = .ok c ∧ P2 H c v F' H') :
    Sm X W P2 t fun env => (f env).bind g := by
  intro F H σ env fp Q sat h
  refine s F H σ env fp Q sat (Post.thru h fun a _ h' v F' H' x p => ?_)
  obtain ⟨c, hc, q⟩ := k H a v F' H' x.fh p
  rw [hc] at h'
  exact h' v F' H' x q
end

def eB {α β : Type} (f : Ev → R α) (g : α → R β) (env : Ev) : R β := (f env).bind g
def eM {α β : Type} (f : Ev → R α) (g : α → β) (env : Ev) : R β := (f env).map g

section
variable (X : Cx) (W : WX)
def DV (e : Expr) (f : Ev → R D) : Prop := ∃ t, PE X e t ∧ Sm X W (PVw X.KK) t f
def DF (e : Expr) (f : Ev → R D) : Prop := ∃ t, PE X e t ∧ Sm X W (PFz X.KK) t f
def DE (e : Expr) (f : Ev → R Ow) : Prop := ∃ t, PE X e t ∧ Sm X W (POw X.KK) t f
def DL (e : Expr) (f : Ev → R D) : Prop := ∃ t, PE X e t ∧ Sm X W (PSq X.KK) t f
def DT (e : Expr) (f : Ev → R Bool) : Prop := ∃ t, PT X e t ∧ Sm X W PTb t f
def DW (e : Expr) (f : Ev → R Bool) : Prop := ∃ t, PW X e t ∧ Sm X W PTb t f
def DA (es : List Expr) (f : Ev → R (List D)) : Prop := ∃ t, PA X es t ∧ Sm X W (PAf X.KK) t f
end
def unD : Ow → Option D
  | .d x => some x
  | .l _ => none
  | _ => none
def unDs : List Ow → Option (List D)
  | [] => some []
  | o :: os => (unD o).bind fun x => (unDs os).map fun xs => x :: xs
@[simp] theorem unDs_map : ∀ ds : List D, unDs (ds.map Ow.d) = some ds
  | [] => rfl
  | d :: ds => by simp [unDs, unD, unDs_map ds]
theorem unDs_eq : ∀ {os : List Ow} {ds : List D}, unDs os = some ds → os = ds.map Ow.d
  | [], ds, h => by simp [unDs] at h; subst h; rfl
  | .d x :: os, ds, h => by
    simp only [unDs, unD, Option.bind_some, Option.map_eq_some_iff] at h
    obtain ⟨xs, h1, h2⟩ := h
    subst h2
    rw [unDs_eq h1]; rfl
  | .l _ :: os, ds, h => by simp [unDs, unD] at h
  | .m _ :: os, ds, h => by simp [unDs, unD] at h
  | .t _ :: os, ds, h => by simp [unDs, unD] at h
  | .k _ _ :: os, ds, h => by simp [unDs, unD] at h
  | .n _ _ :: os, ds, h => by simp [unDs, unD] at h
  | .o _ _ _ :: os, ds, h => by simp [unDs, unD] at h
def shD : Ow → R D
  | .d x => .ok x
  | .l os => match unDs os with
    | some ds => .ok (.list ds)
    | none => .no
  | _ => .no
@[simp] theorem shD_d (x : D) : shD (.d x) = .ok x := rfl
@[simp] theorem shD_l (ds : List D) : shD (.l (ds.map Ow.d)) = .ok (.list ds) := by simp [shD]
@[simp] theorem shD_nil : shD (.l []) = .ok (.list []) := rfl
theorem OwnAll.dp {F H : Hp} : ∀ {ds : List D} {vs : List V} {fp : List Addr}, OwnAll K F H vs (ds.map Ow.d) fp → DpAll K F vs ds ∧ fp = []
  | [], _, _, h => by cases h; exact ⟨.nil, rfl⟩
  | d :: ds, _, _, h => by
    cases h with
    | cons h1 h2 =>
      cases h1 with
      | d q =>
        obtain ⟨a, b⟩ := OwnAll.dp (ds := ds) h2
        exact ⟨.cons q a, by rw [b]; rfl⟩
theorem OwnAll.of_dp {F H : Hp} : ∀ {ds : List D} {vs : List V}, DpAll K F vs ds → OwnAll K F H vs (ds.map Ow.d) []
  | [], _, h => by cases h; exact .nil
  | d :: ds, _, h => by
    cases h with
    | cons h1 h2 => exact .cons (fp := []) (.d h1) (OwnAll.of_dp h2)
theorem PSq.of {F H : Hp} {v : V} {d : D} {H0 : Hp} (s : Same F H) (h : Dp K F v d) : PSq K H0 d v F H := by
  cases d with
  | list ds =>
    cases h with
    | lst hs ha => exact ⟨_, _, rfl, s.seq hs, ha⟩
  | _ => exact h
theorem PSq.view {F H : Hp} {v : V} {d : D} {H0 : Hp} (s : Same F H) (h : PSq K H0 d v F H) : Dp K H v d := by
  cases d with
  | list ds =>
    obtain ⟨a, vs, rfl, h1, h2⟩ := h
    exact .lst h1 (dpaUp h2 s)
  | _ => exact dpUp (show Dp K F v _ from h) s
theorem PSq.ext {F H F1 H1 : Hp} {v : V} {d : D} {H0 H2 : Hp} (e : Ext F H F1 H1) (h : PSq K H0 d v F H) : PSq K H2 d v F1 H1 := by
  cases d with
  | list ds =>
    obtain ⟨a, vs, rfl, h1, h2⟩ := h
    exact ⟨_, _, rfl, e.hh.seq h1, dpaUp h2 e.ff⟩
  | _ => exact dpUp (show Dp K F v _ from h) e.ff
theorem own_seq {F H : Hp} {v : V} {o : Ow} {fp : List Addr} {d : D} {H0 : Hp} (s : Same F H) (h : OwnAt K F H v o fp) (e : shD o = .ok d) : PSq K H0 d v F H := by
  cases o with
  | d x =>
    cases h with
    | d p =>
      cases e
      exact .of s p
  | l os =>
    cases h with
    | l h1 h2 h3 =>
      have e' : (match unDs os with | some ds => (R.ok (.list ds) : R D) | none => .no) = .ok d := e
      clear e
      cases u : unDs os with
      | none => rw [u] at e'; cases e'
      | some ds =>
        rw [u] at e'
        cases e'
        rw [unDs_eq u] at h3
        exact ⟨_, _, rfl, SqL.of h2, (OwnAll.dp h3).1⟩
  | _ => cases e
theorem shD_ex (o : Ow) (c : Str) : shD o ≠ .ex c := fun e => by
  cases o with
  | d x => cases e
  | l os =>
    have e' : (match unDs os with | some ds => (R.ok (.list ds) : R D) | none => .no) = .ex c := e
    split at e' <;> cases e'
  | _ => cases e
theorem shD_ok {X : Cx} {W : WX} {β : Type} {P : Hp → D → β → Hp → Hp → Prop} {F H : Hp} {σ : L2.St} {o : Ow} {Q : β → Hp → Prop} (h : Post X W P F H σ (shD o) Q) : ∃ r, shD o = .ok r := by
  cases e2 : shD o with
  | no => rw [e2] at h; exact h.elim
  | ex c => exact absurd e2 (shD_ex o c)
  | ok r => exact ⟨r, rfl⟩
section
variable {X : Cx} {W : WX} {e a b : Expr} {es : List Expr} {pos : Pos}
theorem dv_df {f : Ev → R D} (h : DF X W e f) : DV X W e f := by
  obtain ⟨t, p, s⟩ := h
  refine ⟨t, p, fun F H σ env fp Q sat h => s F H σ env fp Q sat ?_⟩
  cases e : f env with
  | no => rw [e] at h; exact h
  | ex c => rw [e] at h; exact h
  | ok d => rw [e] at h; exact fun v F' H' x q => h v F' H' x (dpUp q x.fh)
theorem dv_de {f : Ev → R Ow} (h : DE X W e f) : DV X W e (eM f viewD) := by
  obtain ⟨t, p, s⟩ := h
  refine ⟨t, p, Sm.map s fun H o v F' H' sm ⟨fp, q, _⟩ => ⟨viewD o, rfl, OwnAt.view sm o v fp q⟩⟩
theorem de_df {f : Ev → R D} (h : DF X W e f) : DE X W e (eM f Ow.d) := by
  obtain ⟨t, p, s⟩ := h
  refine ⟨t, p, Sm.map s fun H d v F' H' sm q => ⟨.d d, rfl, [], .d q, List.nodup_nil, fun b z => nomatch z⟩⟩
theorem df_de {f : Ev → R Ow} (h : DE X W e f) : DF X W e (eM f viewD) := by
  obtain ⟨t, p, s⟩ := h
  refine ⟨t, p, fun F H σ env fp Q sat h => s F H σ env fp Q sat (Post.thru h fun d _ h' v F' H' x ⟨fp, q, _, n⟩ => ?_)⟩
  obtain ⟨F2, x2, q2⟩ := x.freeze q n
  exact h' v F2 H' x2 q2
theorem dl_df {f : Ev → R D} (h : DF X W e f) : DL X W e f := by
  obtain ⟨t, p, s⟩ := h
  refine ⟨t, p, fun F H σ env fp Q sat h => s F H σ env fp Q sat ?_⟩
  cases e : f env with
  | no => rw [e] at h; exact h
  | ex c => rw [e] at h; exact h
  | ok d => rw [e] at h; exact fun v F' H' x q => h v F' H' x (.of x.fh q)
theorem dl_de {f : Ev → R Ow} (h : DE X W e f) : DL X W e (eB f shD) := by
  obtain ⟨t, p, s⟩ := h
  refine ⟨t, p, fun F H σ env fp Q sat h => s F H σ env fp Q sat (Post.thru h fun d _ h' v F' H' x ⟨fp, q, _, n⟩ => ?_)⟩
  obtain ⟨r, e2⟩ := shD_ok h'
  rw [e2] at h'
  exact h' v F' H' x (own_seq x.fh q e2)
def eVar (i : Nat) (env : Ev) : R D := match env[i]? with
  | some (some (.d x)) => .ok x
  | _ => .no
def eVarO (i : Nat) (env : Ev) : R Ow := match env[i]? with
  | some (some o) => .ok o
  | _ => .no
theorem eVar_ok {P : Hp → D → V → Hp → Hp → Prop} {F H : Hp} {σ : L2.St} {i : Nat} {env : Ev} {Q : VK} (h : Post X W P F H σ (eVar i env) Q) : ∃ d, env[i]? = some (some (.d d)) ∧ eVar i env = .ok d := by
  unfold eVar at h ⊢
  split at h
  · rename_i d he
    exact ⟨d, he, rfl⟩
  · exact h.elim
theorem eVarO_ok {γ : Type} {P : Hp → γ → V → Hp → Hp → Prop} {F H : Hp} {σ : L2.St} {i : Nat} {env : Ev} {Q : VK} {g : Ow → R γ} (h : Post X W P F H σ ((eVarO i env).bind g) Q) : ∃ d, env[i]? = some (some d) ∧ eVarO i env = .ok d ∧ Post X W P F H σ (g d) Q := by
  unfold eVarO at h ⊢
  cases e : env[i]? with
  | none => rw [e] at h; exact h.elim
  | some o =>
    cases o with
    | none => rw [e] at h; exact h.elim
    | some o => rw [e] at h; exact ⟨o, rfl, rfl, h⟩
theorem df_var (i : Nat) {x : Str} (hN : X.N[i]? = some x := by rfl) (hv : Vis X.env.scope x := by first | exact Or.inl rfl | exact Or.inr (Or.inl rfl) | exact Or.inr (Or.inr rfl)) (hd : (x == ("__debug__" : Str)) = false := by decide)
    (hcd : (x == ("__classdict__" : Str)) = false := by decide) : DF X W (.Name x pos) (eVar i) := by
  refine ⟨_, pe_var hN hv hd hcd, fun F H σ env fp Q sat h => ?_⟩
  obtain ⟨d, he, e2⟩ := eVar_ok h
  rw [e2] at h
  obtain ⟨v, fo, h1, h2, _⟩ := sat.en.get he
  cases h2 with
  | d q => exact ⟨v, h1, h v F H (.refl sat.fh) q⟩
def eC (d : D) (_ : Ev) : R D := .ok d
theorem df_int {i j} : DF X W (.Constant (.int i) j pos) (eC (.int i)) := ⟨_, pe_int, fun F H σ env fp Q sat h => h _ F H (.refl sat.fh) (.int i)⟩
theorem df_bl {i j} : DF X W (.Constant (.bool i) j pos) (eC (.bool i)) := ⟨_, pe_bl, fun F H σ env fp Q sat h => h _ F H (.refl sat.fh) (.bl i)⟩
theorem df_str {i j} : DF X W (.Constant (.str i) j pos) (eC (.str i)) := ⟨_, pe_str, fun F H σ env fp Q sat h => h _ F H (.refl sat.fh) (.str i)⟩
/-- a text constant of the module's top -/
theorem df_gstr {x : Str} {z : Str} {u : Value} (hg : Gl X x) (hm : X.mg x = some u) (r : RelV (.str z) u) (hd : (x == ("__debug__" : Str)) = false := by decide) : DF X W (.Name x pos) (eC (.str z)) :=
  ⟨_, pe_glob hg hm r hd, fun F H σ env fp Q sat h => h _ F H (.refl sat.fh) (.str z)⟩
def aNil (_ : Ev) : R (List D) := .ok []
def aCons (f : Ev → R D) (g : Ev → R (List D)) (env : Ev) : R (List D) := (f env).bind fun d => (g env).map fun ds => d :: ds
theorem da_nil : DA X W [] aNil := ⟨_, pa_nil, fun F H σ env fp Q sat h => h _ F H (.refl sat.fh) .nil⟩
theorem da_cons {f : Ev → R D} {g : Ev → R (List D)} (hf : DF X W e f) (hg : DA X W es g) (hs : starEach (e :: es) X.env = (false, eval e X.env) :: starEach es X.env := by rfl) : DA X W (e :: es) (aCons f g) := by
  obtain ⟨t, p, s⟩ := hf
  obtain ⟨t', p', s'⟩ := hg
  refine ⟨_, pa_cons p p' hs, fun F H σ env fp Q sat h => ?_⟩
  refine s.go sat h fun d v F1 H1 sat1 q _ h1 => ?_
  refine s'.go sat1 h1 fun ds vs F2 H2 sat2 q' x2 h2 => ?_
  exact h2 _ F2 H2 (.refl sat2.fh) (.cons (dpUp q x2.ff) q')
def eTup (f : Ev → R (List D)) (env : Ev) : R D := (f env).bind fun ds => guard (ds.length ≤ sizeLine) (.ok (.tuple ds))
def eLst (f : Ev → R (List D)) (env : Ev) : R Ow := (f env).bind fun ds => guard (ds.length ≤ sizeLine) (.ok (.l (ds.map Ow.d)))
theorem guard_post {P : Hp → α → β → Hp → Hp → Prop} {F H : Hp} {σ : L2.St} {c : Prop} {r : R α} {Q : β → Hp → Prop} (h : Post X W P F H σ (guard c r) Q) : c ∧ Post X W P F H σ r Q := by
  unfold guard at h
  split at h
  · exact ⟨‹_›, h⟩
  · exact h.elim
theorem df_tup {x1} {f : Ev → R (List D)} (hf : DA X W es f) : DF X W (.Tuple es x1 pos) (eTup f) := by
  obtain ⟨t, p, s⟩ := hf
  refine ⟨_, pe_tup p, fun F H σ env fp Q sat h => ?_⟩
  refine s.go sat h fun ds vs F1 H1 sat1 q _ h1 => ?_
  obtain ⟨hl, h2⟩ := guard_post h1
  refine ⟨by rw [DpAll.len q]; exact hl, fun p hp => ?_⟩
  have x := Ext.frz sat1.fh hp (.tup vs)
  exact h2 _ _ _ x (.tup (SqT.of upd_same) (dpaUp q x.ff))
theorem de_lst {f : Ev → R (List D)} (hf : DA X W es f) : DE X W (.List es pos) (eLst f) := by
  obtain ⟨t, p, s⟩ := hf
  refine ⟨_, pe_lst p, fun F H σ env fp Q sat h => ?_⟩
  refine s.go sat h fun ds vs F1 H1 sat1 q _ h1 => ?_
  obtain ⟨hl, h2⟩ := guard_post h1
  refine ⟨by rw [DpAll.len q]; exact hl, fun p hp => ?_⟩
  have x := Ext.own sat1.fh hp (.lst vs)
  exact h2 _ _ _ x ⟨[p], .l (free_of sat1.fh hp) upd_same (OwnAll.of_dp q), by simp, by simpa using hp⟩

def R.of {α : Type} : Option α → R α
  | some a => .ok a
  | none => .no
@[simp] theorem R.of_some (a : α) : R.of (some a) = .ok a := rfl
@[simp] theorem R.of_none : R.of (none : Option α) = .no := rfl
/-- data in, flat data out, the heap as it was -/
def OpS (K : Kw) (r : R2) (g : D → D → Option D) : Prop := ∀ H x y dx dy d Q, Dp K H x dx → Dp K H y dy → g dx dy = some d → (∀ v, (∀ F, Dp K F v d) → Q v H) → r x y H Q
def eBin (g : D → D → Option D) (f h : Ev → R D) (env : Ev) : R D := (f env).bind fun x => (h env).bind fun y => R.of (g x y)
theorem post_of {P : Hp → α → β → Hp → Hp → Prop} {F H : Hp} {σ : L2.St} {o : Option α} {Q : β → Hp → Prop} (h : Post X W P F H σ (R.of o) Q) : ∃ a, o = some a ∧ ∀ v F' H', Ext F H F' H' → P H a v F' H' → Q v H' := by
  cases o with
  | none => exact h.elim
  | some a => exact ⟨a, rfl, h⟩
theorem op_sm {r : R2} {g : D → D → Option D} (hs : OpS X.KK r g) {ta tb : TE} {f h : Ev → R D} (sa : Sm X W (PVw X.KK) ta f) (sb : Sm X W (PVw X.KK) tb h) : Sm X W (PFz X.KK) (tOp r ta tb) (eBin g f h) := by
  intro F H σ env fp Q sat hp
  refine sa.go sat hp fun d v F1 H1 sat1 q _ h1 => ?_
  refine sb.go sat1 h1 fun d' v' F2 H2 sat2 q' x2 h2 => ?_
  obtain ⟨z, hz, h3⟩ := post_of h2
  exact hs H2 v v' d d' z Q (dpUp q x2.hh) q' hz fun u hu => h3 u F2 H2 (.refl sat2.fh) (hu _)
theorem df_bin {op : Operator} {r : R2} {g : D → D → Option D} (ho : OpR X (binaryOp op) r) (hs : OpS X.KK r g) {f h : Ev → R D} (ha : DV X W a f) (hb : DV X W b h) : DF X W (.BinOp a op b pos) (eBin g f h) := by
  obtain ⟨ta, pa, sa⟩ := ha
  obtain ⟨tb, pb, sb⟩ := hb
  exact ⟨_, pe_op ho pa pb, op_sm hs sa sb⟩
theorem df_cmp {op : CmpOp} {r : R2} {g : D → D → Option D} (ho : OpR X (compareOp op) r) (hs : OpS X.KK r g) {f h : Ev → R D} (ha : DV X W a f) (hb : DV X W b h) (hm : behindInMarks op b = false := by first | exact nomark _ | rfl) :
    DF X W (.Compare a [op] [b] pos) (eBin g f h) := by
  obtain ⟨ta, pa, sa⟩ := ha
  obtain ⟨tb, pb, sb⟩ := hb
  exact ⟨_, pe_cmpR ho pa pb hm, op_sm hs sa sb⟩
def asB : D → R Bool
  | .bool b => .ok b
  | _ => .no
@[simp] theorem asB_bool (b : Bool) : asB (.bool b) = .ok b := rfl
theorem tb_sm {t : TE} {f : Ev → R D} (s : Sm X W (PVw X.KK) t f) : Sm X W PTb (fun σ H Q => t σ H fun x H' => ∃ k, x = .bl k ∧ Q k H') (eB f asB) := by
  intro F H σ env fp Q sat hp
  refine s.go sat hp fun d v F1 H1 sat1 q _ h1 => ?_
  cases d with
  | bool b =>
    cases q
    exact ⟨b, rfl, h1 b F1 H1 (.refl sat1.fh) rfl⟩
  | _ => exact h1.elim
theorem dt_cmp {op : CmpOp} {r : R2} {g : D → D → Option D} (ho : OpR X (compareOp op) r) (hs : OpS X.KK r g) {f h : Ev → R D} (ha : DV X W a f) (hb : DV X W b h) (hm : behindInMarks op b = false := by first | exact nomark _ | rfl) :
    DT X W (.Compare a [op] [b] pos) (eB (eBin g f h) asB) := by
  obtain ⟨ta, pa, sa⟩ := ha
  obtain ⟨tb, pb, sb⟩ := hb
  refine ⟨_, pt_cmpR ho pa pb hm, tb_sm ?_⟩
  intro F H σ env fp Q sat hp
  refine op_sm hs sa sb F H σ env fp Q sat ?_
  cases e : eBin g f h env with
  | no => rw [e] at hp; exact hp
  | ex c => rw [e] at hp; exact hp
  | ok d => rw [e] at hp; exact fun v F' H' x q => hp v F' H' x (dpUp q x.fh)
theorem dt_val {f : Ev → R D} (h : DV X W e f) (he : ∀ whole, isTrue e X.env whole = (do let v ← whole; standAt e.pos; holding [v] (truthy v)) := by intro _; rfl) : DT X W e (eB f asB) := by
  obtain ⟨t, p, s⟩ := h
  exact ⟨_, pt_val p he, tb_sm s⟩
def tNotE (f : Ev → R Bool) (env : Ev) : R Bool := (f env).map (!·)
theorem dt_not {f : Ev → R Bool} (h : DT X W a f) : DT X W (.UnaryOp .Not a pos) (tNotE f) := by
  obtain ⟨t, p, s⟩ := h
  refine ⟨_, pt_not p, fun F H σ env fp Q sat hp => ?_⟩
  refine s.go sat hp fun b v F1 H1 sat1 q _ h1 => ?_
  obtain rfl : v = b := q
  exact h1 _ F1 H1 (.refl sat1.fh) rfl
def tAndE (f g : Ev → R Bool) (env : Ev) : R Bool := (f env).bind fun b => if b = true then g env else .ok false
def tOrE (f g : Ev → R Bool) (env : Ev) : R Bool := (f env).bind fun b => if b = true then .ok true else g env
theorem dw_and1 {f : Ev → R Bool} (h : DT X W a f) : DW X W (.BoolOp .And [a] pos) f := by
  obtain ⟨t, p, s⟩ := h
  exact ⟨_, pw_and1 p, s⟩
theorem dw_or1 {f : Ev → R Bool} (h : DT X W a f) : DW X W (.BoolOp .Or [a] pos) f := by
  obtain ⟨t, p, s⟩ := h
  exact ⟨_, pw_or1 p, s⟩
theorem dw_and {rest : List Expr} {f g : Ev → R Bool} (h : DT X W a f) (h2 : DW X W (.BoolOp .And (b :: rest) pos) g) : DW X W (.BoolOp .And (a :: b :: rest) pos) (tAndE f g) := by
  obtain ⟨t, p, s⟩ := h
  obtain ⟨t', p', s'⟩ := h2
  refine ⟨_, pw_and p p', fun F H σ env fp Q sat hp => ?_⟩
  refine s.go sat hp fun b v F1 H1 sat1 q _ h1 => ?_
  obtain rfl : v = b := q
  cases v with
  | true => exact s' F1 H1 σ env fp Q sat1 h1
  | false => exact h1 false F1 H1 (.refl sat1.fh) rfl
theorem dw_or {rest : List Expr} {f g : Ev → R Bool} (h : DT X W a f) (h2 : DW X W (.BoolOp .Or (b :: rest) pos) g) : DW X W (.BoolOp .Or (a :: b :: rest) pos) (tOrE f g) := by
  obtain ⟨t, p, s⟩ := h
  obtain ⟨t', p', s'⟩ := h2
  refine ⟨_, pw_or p p', fun F H σ env fp Q sat hp => ?_⟩
  refine s.go sat hp fun b v F1 H1 sat1 q _ h1 => ?_
  obtain rfl : v = b := q
  cases v with
  | false => exact s' F1 H1 σ env fp Q sat1 h1
  | true => exact h1 true F1 H1 (.refl sat1.fh) rfl
theorem dt_dw {f : Ev → R Bool} (h : DW X W a f) : DT X W a f := by
  obtain ⟨t, p, s⟩ := h
  exact ⟨_, p.pt, s⟩
def eAnd (f g : Ev → R D) (env : Ev) : R D := ((f env).bind asB).bind fun b => if b = true then g env else .ok (.bool false)
def eOr (f g : Ev → R D) (env : Ev) : R D := ((f env).bind asB).bind fun b => if b = true then .ok (.bool true) else g env
def eNot (f : Ev → R D) (env : Ev) : R D := ((f env).bind asB).bind fun b => .ok (.bool !b)
theorem R.bind_assoc {α β γ : Type} (r : R α) (f : α → R β) (g : β → R γ) : (r.bind f).bind g = r.bind fun a => (f a).bind g := by cases r <;> rfl
theorem df_one {op} {f : Ev → R D} (h : DF X W a f) : DF X W (.BoolOp op [a] pos) f := by
  obtain ⟨t, p, s⟩ := h
  exact ⟨_, pe_one p, s⟩
theorem df_and {rest : List Expr} {f g : Ev → R D} (h : DV X W a f) (h2 : DF X W (.BoolOp .And (b :: rest) pos) g) : DF X W (.BoolOp .And (a :: b :: rest) pos) (eAnd f g) := by
  obtain ⟨t, p, s⟩ := h
  obtain ⟨t', p', s'⟩ := h2
  refine ⟨_, pe_and p p', fun F H σ env fp Q sat hp => ?_⟩
  unfold eAnd at hp
  rw [R.bind_assoc] at hp
  refine s.go sat hp fun d v F1 H1 sat1 q _ h1 => ?_
  cases d with
  | bool b =>
    cases q
    refine ⟨b, rfl, ?_⟩
    cases b with
    | true => exact s' F1 H1 σ env fp Q sat1 h1
    | false => exact h1 _ F1 H1 (.refl sat1.fh) (.bl false)
  | _ => exact h1.elim
theorem df_or {rest : List Expr} {f g : Ev → R D} (h : DV X W a f) (h2 : DF X W (.BoolOp .Or (b :: rest) pos) g) : DF X W (.BoolOp .Or (a :: b :: rest) pos) (eOr f g) := by
  obtain ⟨t, p, s⟩ := h
  obtain ⟨t', p', s'⟩ := h2
  refine ⟨_, pe_or p p', fun F H σ env fp Q sat hp => ?_⟩
  unfold eOr at hp
  rw [R.bind_assoc] at hp
  refine s.go sat hp fun d v F1 H1 sat1 q _ h1 => ?_
  cases d with
  | bool b =>
    cases q
    refine ⟨b, rfl, ?_⟩
    cases b with
    | false => exact s' F1 H1 σ env fp Q sat1 h1
    | true => exact h1 _ F1 H1 (.refl sat1.fh) (.bl true)
  | _ => exact h1.elim
theorem df_not {f : Ev → R D} (h : DV X W a f) : DF X W (.UnaryOp .Not a pos) (eNot f) := by
  obtain ⟨t, p, s⟩ := h
  refine ⟨_, pe_not p, fun F H σ env fp Q sat hp => ?_⟩
  unfold eNot at hp
  rw [R.bind_assoc] at hp
  refine s.go sat hp fun d v F1 H1 sat1 q _ h1 => ?_
  cases d with
  | bool b =>
    cases q
    exact ⟨b, rfl, h1 _ F1 H1 (.refl sat1.fh) (.bl _)⟩
  | _ => exact h1.elim
def eIf (c : Ev → R Bool) (f g : Ev → R D) (env : Ev) : R D := (c env).bind fun b => if b = true then f env else g env
theorem df_if {c : Expr} {fc : Ev → R Bool} {f g : Ev → R D} (hc : DT X W c fc) (ha : DF X W a f) (hb : DF X W b g) : DF X W (.IfExp c a b pos) (eIf fc f g) := by
  obtain ⟨t, p, s⟩ := hc
  obtain ⟨ta, pa, sa⟩ := ha
  obtain ⟨tb, pb, sb⟩ := hb
  refine ⟨_, pe_ifExp p pa pb, fun F H σ env fp Q sat hp => ?_⟩
  refine s.go sat hp fun b v F1 H1 sat1 q _ h1 => ?_
  obtain rfl : v = b := q
  cases v with
  | true => exact sa F1 H1 σ env fp Q sat1 h1
  | false => exact sb F1 H1 σ env fp Q sat1 h1
end
end Mir
end
set_option Elab.async false
set_option linter.all false
set_option maxRecDepth 100000
set_option maxHeartbeats 4000000
noncomputable section
namespace Mir
open PySem PySem.Spec L2

section
variable {K : Kw}
theorem dp_int {H : Hp} {v : V} {i : Int} (h : Dp K H v (.int i)) : v = .int i := by cases h; rfl
theorem dp_str {H : Hp} {v : V} {z : Str} (h : Dp K H v (.str z)) : v = .str z := by cases h; rfl
theorem dp_bool {H : Hp} {v : V} {z : Bool} (h : Dp K H v (.bool z)) : v = .bl z := by cases h; rfl
theorem dp_tup {H : Hp} {v : V} {ds : List D} (h : Dp K H v (.tuple ds)) : ∃ a vs, v = .ref a ∧ SqT K H a vs ∧ DpAll K H vs ds := by cases h with | tup a b => exact ⟨_, _, rfl, a, b⟩
theorem dp_lst {H : Hp} {v : V} {ds : List D} (h : Dp K H v (.list ds)) : ∃ a vs, v = .ref a ∧ SqL K H a vs ∧ DpAll K H vs ds := by cases h with | lst a b => exact ⟨_, _, rfl, a, b⟩

open Classical in
def gI (C : Int → Int → Prop) (f : Int → Int → Int) : D → D → Option D
  | .int i, .int j => if C i j then some (.int (f i j)) else none
  | _, _ => none
def gI0 (f : Int → Int → Int) : D → D → Option D
  | .int i, .int j => some (.int (f i j))
  | _, _ => none
def gIB (f : Int → Int → Bool) : D → D → Option D
  | .int i, .int j => some (.bool (f i j))
  | _, _ => none
theorem opS_I {C : Int → Int → Prop} {f : Int → Int → Int} : OpS K (rI C fun i j => .int (f i j)) (gI C f) := by
  intro H x y dx dy d Q hx hy e q
  unfold gI at e
  split at e
  · rename_i i j
    split at e
    · rename_i c
      cases e
      cases dp_int hx
      cases dp_int hy
      exact ⟨i, j, rfl, rfl, c, q _ fun _ => .int _⟩
    · cases e
  · cases e
theorem opS_I0 {f : Int → Int → Int} : OpS K (rI0 fun i j => .int (f i j)) (gI0 f) := by
  intro H x y dx dy d Q hx hy e q
  unfold gI0 at e
  split at e
  · cases e
    cases dp_int hx
    cases dp_int hy
    exact ⟨_, _, rfl, rfl, q _ fun _ => .int _⟩
  · cases e
theorem opS_IB {f : Int → Int → Bool} : OpS K (rI0 fun i j => .bl (f i j)) (gIB f) := by
  intro H x y dx dy d Q hx hy e q
  unfold gIB at e
  split at e
  · cases e
    cases dp_int hx
    cases dp_int hy
    exact ⟨_, _, rfl, rfl, q _ fun _ => .bl _⟩
  · cases e
def gSub := gI0 fun i j => i - j
def gMul := gI (fun i j => CMul i j ∨ CMulW i j) fun i j => i * j
def gDiv := gI CDivW fun i j => i / j
def gMod := gI (fun _ j => 0 < j) fun i j => i % j
def gPow := gI CPow fun i j => i ^ j.toNat
def gLt := gIB fun i j => decide (i < j)
def gLe := gIB fun i j => decide (i ≤ j)
def gGt := gIB fun i j => decide (j < i)
def gGe := gIB fun i j => decide (j ≤ i)
@[simp] theorem gSub_int (i j : Int) : gSub (.int i) (.int j) = some (.int (i - j)) := rfl
theorem gDiv_int {i j : Int} (h : CDivW i j) : gDiv (.int i) (.int j) = some (.int (i / j)) := if_pos h
theorem gMod_int {i j : Int} (h : 0 < j) : gMod (.int i) (.int j) = some (.int (i % j)) := if_pos h
theorem gPow_int {i j : Int} (h : CPow i j) : gPow (.int i) (.int j) = some (.int (i ^ j.toNat)) := if_pos h
@[simp] theorem gLt_int (i j : Int) : gLt (.int i) (.int j) = some (.bool (decide (i < j))) := rfl
@[simp] theorem gLe_int (i j : Int) : gLe (.int i) (.int j) = some (.bool (decide (i ≤ j))) := rfl
@[simp] theorem gGt_int (i j : Int) : gGt (.int i) (.int j) = some (.bool (decide (j < i))) := rfl
@[simp] theorem gGe_int (i j : Int) : gGe (.int i) (.int j) = some (.bool (decide (j ≤ i))) := rfl
end

section
variable {X : Cx} {W : WX} {e a b : Expr} {es : List Expr} {pos : Pos} {f g : Ev → R D}
theorem df_sub (ha : DV X W a f) (hb : DV X W b g) : DF X W (.BinOp a .Sub b pos) (eBin gSub f g) := df_bin op_sub opS_I0 ha hb
theorem op_mulV : OpR X (binaryOp .Mult) (rI (fun i j => CMul i j ∨ CMulW i j) fun i j => .int (i * j)) := by
  intro pins s σ H x y v u Q I rx ry h
  obtain ⟨i, j, e1, e2, c, q⟩ := h
  rcases c with c | c
  · exact op_mul pins s σ H x y v u Q I rx ry ⟨i, j, e1, e2, c, q⟩
  · exact op_mulW pins s σ H x y v u Q I rx ry ⟨i, j, e1, e2, c, q⟩
theorem df_div (ha : DV X W a f) (hb : DV X W b g) : DF X W (.BinOp a .FloorDiv b pos) (eBin gDiv f g) := df_bin op_fdivW opS_I ha hb
theorem df_mod (ha : DV X W a f) (hb : DV X W b g) : DF X W (.BinOp a .Mod b pos) (eBin gMod f g) := df_bin op_mod opS_I ha hb
theorem df_pow (ha : DV X W a f) (hb : DV X W b g) : DF X W (.BinOp a .Pow b pos) (eBin gPow f g) := df_bin op_pow opS_I ha hb
theorem df_lt (ha : DV X W a f) (hb : DV X W b g) : DF X W (.Compare a [.Lt] [b] pos) (eBin gLt f g) := df_cmp op_lt opS_IB ha hb
theorem dt_lt (ha : DV X W a f) (hb : DV X W b g) : DT X W (.Compare a [.Lt] [b] pos) (eB (eBin gLt f g) asB) := dt_cmp op_lt opS_IB ha hb
theorem dt_gt (ha : DV X W a f) (hb : DV X W b g) : DT X W (.Compare a [.Gt] [b] pos) (eB (eBin gGt f g) asB) := dt_cmp op_gt opS_IB ha hb
theorem dt_ge (ha : DV X W a f) (hb : DV X W b g) : DT X W (.Compare a [.GtE] [b] pos) (eB (eBin gGe f g) asB) := dt_cmp op_ge opS_IB ha hb
def gNeg : D → R D
  | .int i => .ok (.int (-i))
  | _ => .no
theorem df_neg (ha : DV X W a f) : DF X W (.UnaryOp .USub a pos) (eB f gNeg) := by
  obtain ⟨t, p, s⟩ := ha
  refine ⟨_, pe_un un_neg p, fun F H σ env fp Q sat hp => ?_⟩
  refine s.go sat hp fun d v F1 H1 sat1 q _ h1 => ?_
  cases d with
  | int i => cases dp_int q; exact ⟨i, rfl, h1 _ F1 H1 (.refl sat1.fh) (.int _)⟩
  | _ => exact h1.elim

def scalD : D → Bool
  | .none => true
  | .bool _ => true
  | .int _ => true
  | .str _ => true
  | _ => false
/-- a bool beside an int is left to the deep rule -/
def scal2 : D → D → Bool
  | .bool _, .int _ => false
  | .int _, .bool _ => false
  | a, b => scalD a && scalD b
def eqOk (a b : D) : Bool := a.canLay0 && b.canLay0 && decide (a.depth ≤ 130)
def gEq (a b : D) : Option D := if (scal2 a b || eqOk a b) = true then some (.bool (PyData.eqv a b)) else none
def gNe (a b : D) : Option D := if (scal2 a b || eqOk a b) = true then some (.bool (!PyData.eqv a b)) else none
def rEqA (K : Kw) (neg : Bool) : R2 := fun x y H Q => ∃ d e, Dp K H x d ∧ Dp K H y e ∧ eqOk d e = true ∧ Q (.bl (if neg then !PyData.eqv d e else PyData.eqv d e)) H
theorem eqOk_cases {a b : D} (h : eqOk a b = true) : a.canLay0 = true ∧ b.canLay0 = true ∧ a.depth ≤ 130 := by
  unfold eqOk at h
  simp only [Bool.and_eq_true, decide_eq_true_eq] at h
  exact ⟨h.1.1, h.1.2, h.2⟩
theorem op_eqA (hu : X.A.units + 140 < cLine) : OpR X (compareOp .Eq) (rEqA X.KK false) := by
  intro pins s σ H x y v u Q I rx ry h
  obtain ⟨d, e, hd, he, sd, q⟩ := h
  obtain ⟨as, r1⟩ := L2.Dp.reads I d x v (Dp.kit _ _ hd (eqOk_cases sd).1) rx
  obtain ⟨bs, r2⟩ := L2.Dp.reads I e y u (Dp.kit _ _ he (eqOk_cases sd).2.1) ry
  obtain ⟨c1, c2, c3⟩ := eqOk_cases sd
  exact SeqAt.compareEq_reads r1 r2 c1 c2 (by have := Nat.min_le_left d.depth e.depth; omega) ⟨.bl _, H, I, rfl, q⟩
theorem op_neA (hu : X.A.units + 140 < cLine) : OpR X (compareOp .NotEq) (rEqA X.KK true) := by
  intro pins s σ H x y v u Q I rx ry h
  obtain ⟨d, e, hd, he, sd, q⟩ := h
  obtain ⟨as, r1⟩ := L2.Dp.reads I d x v (Dp.kit _ _ hd (eqOk_cases sd).1) rx
  obtain ⟨bs, r2⟩ := L2.Dp.reads I e y u (Dp.kit _ _ he (eqOk_cases sd).2.1) ry
  obtain ⟨c1, c2, c3⟩ := eqOk_cases sd
  exact SeqAt.compareNe_reads r1 r2 c1 c2 (by have := Nat.min_le_left d.depth e.depth; omega) ⟨.bl _, H, I, rfl, q⟩
theorem scal_dp {K : Kw} {H : Hp} {x y : V} {a b : D} (ha : Dp K H x a) (hb : Dp K H y b) (h : scal2 a b = true) : scal x y = true ∧ decide (x = y) = PyData.eqv a b := by
  cases a <;> cases b <;> first
    | (cases h; done)
    | (cases ha; cases hb; refine ⟨rfl, ?_⟩; simp [PyData.eqv]; try rfl)
    | (cases ha; cases hb; refine ⟨rfl, ?_⟩; simp [PyData.eqv, dec_int, dec_bl, dec_str])
theorem opS_eq {K : Kw} : OpS K (fun x y H Q => rEq x y H Q ∨ rEqA K false x y H Q) gEq := by
  intro H x y dx dy d Q hx hy e q
  unfold gEq at e
  split at e
  · rename_i c
    cases e
    cases c1 : scal2 dx dy with
    | true =>
      obtain ⟨h1, h2⟩ := scal_dp hx hy c1
      exact .inl ⟨h1, by rw [h2]; exact q _ fun _ => .bl _⟩
    | false =>
      rw [c1, Bool.false_or] at c
      exact .inr ⟨dx, dy, hx, hy, c, q _ fun _ => .bl _⟩
  · cases e
theorem opS_ne {K : Kw} : OpS K (fun x y H Q => rNe x y H Q ∨ rEqA K true x y H Q) gNe := by
  intro H x y dx dy d Q hx hy e q
  unfold gNe at e
  split at e
  · rename_i c
    cases e
    cases c1 : scal2 dx dy with
    | true =>
      obtain ⟨h1, h2⟩ := scal_dp hx hy c1
      exact .inl ⟨h1, by rw [h2]; exact q _ fun _ => .bl _⟩
    | false =>
      rw [c1, Bool.false_or] at c
      exact .inr ⟨dx, dy, hx, hy, c, q _ fun _ => .bl _⟩
  · cases e
theorem df_eq (hu : X.A.units + 140 < cLine) (ha : DV X W a f) (hb : DV X W b g) : DF X W (.Compare a [.Eq] [b] pos) (eBin gEq f g) := df_cmp (OpR.or op_eq (op_eqA hu)) opS_eq ha hb
theorem df_ne (hu : X.A.units + 140 < cLine) (ha : DV X W a f) (hb : DV X W b g) : DF X W (.Compare a [.NotEq] [b] pos) (eBin gNe f g) := df_cmp (OpR.or op_ne (op_neA hu)) opS_ne ha hb
theorem dt_eq (hu : X.A.units + 140 < cLine) (ha : DV X W a f) (hb : DV X W b g) : DT X W (.Compare a [.Eq] [b] pos) (eB (eBin gEq f g) asB) := dt_cmp (OpR.or op_eq (op_eqA hu)) opS_eq ha hb
theorem dt_ne (hu : X.A.units + 140 < cLine) (ha : DV X W a f) (hb : DV X W b g) : DT X W (.Compare a [.NotEq] [b] pos) (eB (eBin gNe f g) asB) := dt_cmp (OpR.or op_ne (op_neA hu)) opS_ne ha hb
def isNone : D → Bool
  | .none => true
  | _ => false
def gIsN : D → D → Option D
  | x, .none => some (.bool (isNone x))
  | _, _ => none
def gNotN : D → D → Option D
  | x, .none => some (.bool (!isNone x))
  | _, _ => none
@[simp] theorem gIsN_none (x : D) : gIsN x .none = some (.bool (isNone x)) := by cases x <;> rfl
@[simp] theorem gNotN_none (x : D) : gNotN x .none = some (.bool (!isNone x)) := by cases x <;> rfl
def gAdd : D → D → Option Ow
  | .int i, .int j => some (.d (.int (i + j)))
  | .str x, .str y => if x.length + y.length ≤ sizeLine then some (.d (.str (x ++ y))) else none
  | .tuple xs, .tuple ys => if xs.length + ys.length ≤ sizeLine then some (.d (.tuple (xs ++ ys))) else none
  | .list xs, .list ys => if xs.length + ys.length ≤ sizeLine then some (.l ((xs ++ ys).map Ow.d)) else none
  | _, _ => none
@[simp] theorem gAdd_int (i j : Int) : gAdd (.int i) (.int j) = some (.d (.int (i + j))) := rfl
theorem gAdd_str {x y : Str} (h : x.length + y.length ≤ sizeLine) : gAdd (.str x) (.str y) = some (.d (.str (x ++ y))) := if_pos h
def rCatL (K : Kw) : R2 := fun x y H Q => ∃ a b xs ys, x = .ref a ∧ y = .ref b ∧ SqL K H a xs ∧ SqL K H b ys ∧ xs.length + ys.length ≤ sizeLine ∧ ∀ p, H p = none → Q (.ref p) (upd H p (.lst (xs ++ ys)))
theorem op_catL : OpR X (binaryOp .Add) (rCatL X.KK) := by
  intro pins s σ H x y v u Q I rx ry h
  obtain ⟨l, b, xs, zs, rfl, rfl, hH, hB, hz, q⟩ := h
  cases rx
  cases ry
  obtain ⟨its, r, pl, hl⟩ := I.list hH
  obtain ⟨its2, r2, pl2, hl2⟩ := I.list hB
  obtain ⟨⟨c1, d1, t1, s1⟩, g1, k1, n1, m1⟩ := pl.isList
  obtain ⟨⟨c2, d2, t2, s2⟩, g2, k2, n2, m2⟩ := pl2.isList
  simp only at k1 m1 k2 m2
  subst k1 m1 k2 m2
  refine PySem.concat_meets ⟨_, g1, rfl⟩ ⟨_, g2, rfl⟩ PySem.noFill_list_add PySem.seq_list_add PySem.F.slot_list_add PySem.F.entry_list_add (PySem.F.args_list_add_2 _ _)
    (PyProof.Rows.list_addW l b its.toArray its2.toArray n1 n2 d1 d2 s1 s2 (by rw [List.size_toArray, List.size_toArray, ← r.length, ← r2.length]; exact hz)) ⟨g1, g2, ?_⟩
  have ea : its.toArray ++ its2.toArray = (its ++ its2).toArray := by simp
  rw [ea]
  exact ⟨.ref _, _, I.lnew (t' := s.toks) (r.append r2) (by rw [List.length_append]; omega), rfl, q _ I.fresh⟩
abbrev rAddAll (K : Kw) : R2 := fun x y H Q => rI0 (fun i j => .int (i + j)) x y H Q ∨ (fun x y H Q => (∃ i j, x = V.str i ∧ y = V.str j ∧ i.length + j.length ≤ sizeLine ∧ Q (.str (i ++ j)) H) ∨ (fun x y H Q => rCatA K x y H Q ∨ rCatL K x y H Q) x y H Q) x y H Q
theorem op_addAll : OpR X (binaryOp .Add) (rAddAll X.KK) := OpR.or op_add (OpR.or op_add_str (OpR.or op_catA op_catL))
def eBinO (g : D → D → Option Ow) (f h : Ev → R D) (env : Ev) : R Ow := (f env).bind fun x => (h env).bind fun y => R.of (g x y)
/-- two operands with frozen items, a new value -/
def OpG (K : Kw) (r : R2) (g : D → D → Option Ow) : Prop := ∀ F H x y dx dy o Q, Same F H → PSq K H dx x F H → PSq K H dy y F H → g dx dy = some o → (∀ v F' H', Ext F H F' H' → POw K H o v F' H' → Q v H') → r x y H Q
theorem opG_sm {r : R2} {g : D → D → Option Ow} (hs : OpG X.KK r g) {ta tb : TE} {f h : Ev → R D} (sa : Sm X W (PSq X.KK) ta f) (sb : Sm X W (PSq X.KK) tb h) : Sm X W (POw X.KK) (tOp r ta tb) (eBinO g f h) := by
  intro F H σ env fp Q sat hp
  refine sa.go sat hp fun d v F1 H1 sat1 q _ h1 => ?_
  refine sb.go sat1 h1 fun d' v' F2 H2 sat2 q' x2 h2 => ?_
  obtain ⟨z, hz, h3⟩ := post_of h2
  exact hs F2 H2 v v' d d' z Q sat2.fh (q.ext x2) q' hz h3
theorem de_bin {op : Operator} {r : R2} {g : D → D → Option Ow} (ho : OpR X (binaryOp op) r) (hs : OpG X.KK r g) {f h : Ev → R D} (ha : DL X W a f) (hb : DL X W b h) : DE X W (.BinOp a op b pos) (eBinO g f h) := by
  obtain ⟨ta, pa, sa⟩ := ha
  obtain ⟨tb, pb, sb⟩ := hb
  exact ⟨_, pe_op ho pa pb, opG_sm hs sa sb⟩
theorem own_d {K : Kw} {H0 F H : Hp} {v : V} {d : D} (h : Dp K F v d) : POw K H0 (.d d) v F H := ⟨[], .d h, List.nodup_nil, fun _ z => nomatch z⟩
theorem own_l {K : Kw} {F H : Hp} {p : Addr} {vs : List V} {ds : List D} (s : Same F H) (hp : H p = none) (h : DpAll K F vs ds) : POw K H (.l (ds.map Ow.d)) (.ref p) F (upd H p (.lst vs)) :=
  ⟨[p], .l (free_of s hp) upd_same (OwnAll.of_dp h), by simp, by simpa using hp⟩
theorem opG_add {K : Kw} : OpG K (rAddAll K) gAdd := by
  intro F H x y dx dy o Q s hx hy e q
  unfold gAdd at e
  split at e
  · cases e
    cases dp_int hx
    cases dp_int hy
    exact .inl ⟨_, _, rfl, rfl, q _ _ _ (.refl s) (own_d (.int _))⟩
  · split at e
    · cases e
      cases dp_str hx
      cases dp_str hy
      exact .inr (.inl ⟨_, _, rfl, rfl, ‹_›, q _ _ _ (.refl s) (own_d (.str _))⟩)
    · cases e
  · split at e
    · rename_i xs ys c
      cases e
      obtain ⟨a, vs, rfl, h1, h2⟩ := dp_tup hx
      obtain ⟨b, ws, rfl, g1, g2⟩ := dp_tup hy
      refine .inr (.inr (.inl ⟨a, b, vs, ws, rfl, rfl, SqT_mono s h1, SqT_mono s g1, by rw [DpAll.len h2, DpAll.len g2]; exact c, fun e0 => ?_, fun n0 e0 => ?_, fun n0 n1 p hp => ?_⟩))
      · have l := DpAll.len h2
        rw [e0] at l
        have z : xs = [] := List.length_eq_zero_iff.mp l.symm
        subst z
        exact q _ _ _ (.refl s) (own_d hy)
      · have l := DpAll.len g2
        rw [e0] at l
        have z : ys = [] := List.length_eq_zero_iff.mp l.symm
        subst z
        rw [List.append_nil] at q
        exact q _ _ _ (.refl s) (own_d hx)
      · have x := Ext.frz s hp (.tup (vs ++ ws))
        exact q _ _ _ x (own_d (.tup (SqT.of upd_same) (dpaUp (DpAll.append h2 g2) x.ff)))
    · cases e
  · split at e
    · rename_i xs ys c
      cases e
      obtain ⟨a, vs, rfl, h1, h2⟩ := hx
      obtain ⟨b, ws, rfl, g1, g2⟩ := hy
      refine .inr (.inr (.inr ⟨a, b, vs, ws, rfl, rfl, h1, g1, by rw [DpAll.len h2, DpAll.len g2]; exact c, fun p hp => ?_⟩))
      exact q _ _ _ (Ext.own s hp _) (own_l s hp (DpAll.append h2 g2))
    · cases e
  · cases e
theorem de_add (ha : DL X W a f) (hb : DL X W b g) : DE X W (.BinOp a .Add b pos) (eBinO gAdd f g) := de_bin op_addAll opG_add ha hb
end
end Mir
end
set_option Elab.async false
set_option linter.all false
set_option maxRecDepth 100000
set_option maxHeartbeats 4000000
noncomputable section
namespace Mir
open PySem PySem.Spec L2

section
variable {X : Cx} {W : WX} {e a b : Expr} {es : List Expr} {pos : Pos} {f g : Ev → R D}
theorem atI_dp {K : Kw} {F : Hp} {vs : List V} {ds : List D} {i : Int} {d : D} (h : DpAll K F vs ds) (e : atI ds i = some d) : ∃ v, atI vs i = some v ∧ Dp K F v d := by
  unfold atI at e ⊢
  rw [DpAll.len h]
  cases q : ixN ds.length i with
  | none => rw [q] at e; cases e
  | some j =>
    rw [q] at e
    exact DpAll.get h e
def gIx : D → D → Option D
  | .list ds, .int i => atI ds i
  | .tuple ds, .int i => atI ds i
  | .str z, .int i => if z.length ≤ sizeLine then (atI z.cps.toList i).map fun c => .str ⟨#[c]⟩ else none
  | _, _ => none
@[simp] theorem gIx_list (ds : List D) (i : Int) : gIx (.list ds) (.int i) = atI ds i := rfl
@[simp] theorem gIx_tup (ds : List D) (i : Int) : gIx (.tuple ds) (.int i) = atI ds i := rfl
theorem df_ix (ha : DL X W a f) (hb : DV X W b g) (hs : PlainIx b := by exact fun _ _ => rfl) : DF X W (.Subscript a b pos) (eBin gIx f g) := by
  obtain ⟨ta, pa, sa⟩ := ha
  obtain ⟨tb, pb, sb⟩ := hb
  refine ⟨_, pe_ix ix_seq pa pb hs, fun F H σ env fp Q sat hp => ?_⟩
  refine sa.go sat hp fun d v F1 H1 sat1 q _ h1 => ?_
  refine sb.go sat1 h1 fun d' v' F2 H2 sat2 q' x2 h2 => ?_
  obtain ⟨z, hz, h3⟩ := post_of h2
  unfold gIx at hz
  split at hz
  · rename_i ds i
    cases dp_int q'
    obtain ⟨p, vs, rfl, p1, p2⟩ := q
    obtain ⟨w, w1, w2⟩ := atI_dp p2 hz
    exact .inl ⟨p, vs, i, w, rfl, rfl, x2.hh.seq p1, w1, h3 _ _ _ (.refl sat2.fh) (dpUp w2 x2.ff)⟩
  · rename_i ds i
    cases dp_int q'
    obtain ⟨p, vs, rfl, p1, p2⟩ := dp_tup q
    obtain ⟨w, w1, w2⟩ := atI_dp p2 hz
    exact .inr (.inl ⟨p, vs, i, w, rfl, rfl, SqT_mono (x2.ff.trans sat2.fh) p1, w1, h3 _ _ _ (.refl sat2.fh) (dpUp w2 x2.ff)⟩)
  · split at hz
    · rename_i zz i c
      cases dp_int q'
      cases dp_str q
      obtain ⟨cc, c1, c2⟩ := Option.map_eq_some_iff.mp hz
      subst c2
      exact .inr (.inr ⟨_, _, cc, rfl, rfl, c, c1, h3 _ _ _ (.refl sat2.fh) (.str _)⟩)
    · cases hz
  · cases hz
/-- a slice's part -/
def DO (X : Cx) (W : WX) (e : Option Expr) (f : Ev → R (Option Int)) : Prop := ∃ t, PO X e t ∧ Sm X W (fun _ a v _ _ => v = a) t f
instance : Anti (fun (_ : Hp) (a v : Option Int) (_ _ : Hp) => v = a) := ⟨fun _ h => h⟩
def oNone (_ : Ev) : R (Option Int) := .ok none
def asI : D → R (Option Int)
  | .int i => .ok (some i)
  | _ => .no
@[simp] theorem asI_int (i : Int) : asI (.int i) = .ok (some i) := rfl
theorem do_none : DO X W none oNone := ⟨_, po_none, fun F H σ env fp Q sat hp => hp none F H (.refl sat.fh) rfl⟩
theorem do_some (h : DV X W e f) : DO X W (some e) (eB f asI) := by
  obtain ⟨t, p, s⟩ := h
  refine ⟨_, po_some p, fun F H σ env fp Q sat hp => ?_⟩
  refine s.go sat hp fun d v F1 H1 sat1 q _ h1 => ?_
  cases d with
  | int i => cases dp_int q; exact ⟨i, rfl, h1 _ F1 H1 (.refl sat1.fh) rfl⟩
  | _ => exact h1.elim
def cutL {α : Type} (xs : List α) (lo hi : Option Int) : List α := (xs.drop (HT.sIx xs.length 0 lo)).take (HT.sIx xs.length xs.length hi - HT.sIx xs.length 0 lo)
theorem cutL_dp {K : Kw} {F : Hp} {vs : List V} {ds : List D} {lo hi : Option Int} (h : DpAll K F vs ds) : DpAll K F (cutV vs lo hi) (cutL ds lo hi) := by
  unfold cutV cutL
  rw [DpAll.len h]
  exact DpAll.take _ (DpAll.drop _ h)
def gSl : D → Option Int → Option Int → Option Ow
  | .list ds, lo, hi => some (.l ((cutL ds lo hi).map Ow.d))
  | .tuple ds, lo, hi => some (.d (.tuple (cutL ds lo hi)))
  | .str z, lo, hi => if z.length ≤ sizeLine then some (.d (.str (cutS z lo hi))) else none
  | _, _, _ => none
@[simp] theorem gSl_list (ds : List D) (lo hi : Option Int) : gSl (.list ds) lo hi = some (.l ((cutL ds lo hi).map Ow.d)) := rfl
@[simp] theorem gSl_tup (ds : List D) (lo hi : Option Int) : gSl (.tuple ds) lo hi = some (.d (.tuple (cutL ds lo hi))) := rfl
def eSl (f : Ev → R D) (l h : Ev → R (Option Int)) (env : Ev) : R Ow := (f env).bind fun x => (l env).bind fun i => (h env).bind fun j => R.of (gSl x i j)
theorem de_slice {lo hi : Option Expr} {l h : Ev → R (Option Int)} {p2 : Pos} (ha : DL X W a f) (hl : DO X W lo l) (hh : DO X W hi h) : DE X W (.Subscript a (.Slice lo hi none p2) pos) (eSl f l h) := by
  obtain ⟨ta, pa, sa⟩ := ha
  obtain ⟨tl, pl, sl⟩ := hl
  obtain ⟨th, ph, sh⟩ := hh
  refine ⟨_, pe_slice (SlR.or sl_list (SlR.or sl_tupA sl_str)) pa pl ph, fun F H σ env fp Q sat hp => ?_⟩
  refine sa.go sat hp fun d v F1 H1 sat1 q _ h1 => ?_
  refine sl.go sat1 h1 fun i i' F2 H2 sat2 q' x2 h2 => ?_
  obtain rfl : i' = i := q'
  refine sh.go sat2 h2 fun j j' F3 H3 sat3 q' x3 h3 => ?_
  obtain rfl : j' = j := q'
  obtain ⟨z, hz, h4⟩ := post_of h3
  have x := x2.trans x3
  unfold gSl at hz
  split at hz
  · cases hz
    obtain ⟨p, vs, rfl, p1, p2⟩ := q
    refine .inl ⟨p, vs, rfl, x.hh.seq p1, fun r hr => ?_⟩
    exact h4 _ _ _ (Ext.own sat3.fh hr _) (own_l sat3.fh hr (cutL_dp (dpaUp p2 x.ff)))
  · cases hz
    obtain ⟨p, vs, rfl, p1, p2⟩ := dp_tup q
    have p3 := DpAll.len p2
    refine .inr (.inl ⟨p, vs, rfl, SqT_mono (x.ff.trans sat3.fh) p1, fun c => ?_, fun _ r hr => ?_⟩)
    · refine h4 _ _ _ (.refl sat3.fh) (own_d ?_)
      rename_i ds
      have e : cutL ds i' j' = ds := by
        unfold cutL
        rw [← p3, c.1, c.2, List.drop_zero, Nat.sub_zero, p3, List.take_length]
      rw [e]
      exact dpUp q x.ff
    · have y := Ext.frz sat3.fh hr (.tup (cutV vs i' j'))
      exact h4 _ _ _ y (own_d (.tup (SqT.of upd_same) (cutL_dp (dpaUp p2 (x.ff.trans y.ff)))))
  · split at hz
    · cases hz
      cases dp_str q
      exact .inr (.inr ⟨_, rfl, ‹_›, h4 _ _ _ (.refl sat3.fh) (own_d (.str _))⟩)
    · cases hz
  · cases hz

inductive PSqs (K : Kw) (F H : Hp) : List D → List V → Prop
  | nil : PSqs K F H [] []
  | cons {d : D} {ds : List D} {v : V} {vs : List V} : PSq K H d v F H → PSqs K F H ds vs → PSqs K F H (d :: ds) (v :: vs)
def PAl (K : Kw) (_ : Hp) (ds : List D) (vs : List V) (F' H' : Hp) : Prop := PSqs K F' H' ds vs
instance {K : Kw} : Anti (PAl K) := ⟨fun _ h => h⟩
def DAl (X : Cx) (W : WX) (es : List Expr) (f : Ev → R (List D)) : Prop := ∃ t, PA X es t ∧ Sm X W (PAl X.KK) t f
theorem dal_nil : DAl X W [] aNil := ⟨_, pa_nil, fun F H σ env fp Q sat h => h _ F H (.refl sat.fh) .nil⟩
theorem dal_cons {f : Ev → R D} {g : Ev → R (List D)} (hf : DL X W e f) (hg : DAl X W es g) (hs : starEach (e :: es) X.env = (false, eval e X.env) :: starEach es X.env := by rfl) : DAl X W (e :: es) (aCons f g) := by
  obtain ⟨t, p, s⟩ := hf
  obtain ⟨t', p', s'⟩ := hg
  refine ⟨_, pa_cons p p' hs, fun F H σ env fp Q sat h => ?_⟩
  refine s.go sat h fun d v F1 H1 sat1 q _ h1 => ?_
  refine s'.go sat1 h1 fun ds vs F2 H2 sat2 q' x2 h2 => ?_
  exact h2 _ F2 H2 (.refl sat2.fh) (.cons (q.ext x2) q')
def CaG (K : Kw) (r : List V → Hp → VK → Prop) (g : List D → Option Ow) : Prop := ∀ F H vs ds o Q, Same F H → PSqs K F H ds vs → g ds = some o → (∀ v F' H', Ext F H F' H' → POw K H o v F' H' → Q v H') → r vs H Q
def eCa (g : List D → Option Ow) (f : Ev → R (List D)) (env : Ev) : R Ow := (f env).bind fun ds => R.of (g ds)
theorem ca_sm {r : List V → Hp → VK → Prop} {g : List D → Option Ow} {t : TA} {f : Ev → R (List D)} (hs : CaG X.KK r g) (s : Sm X W (PAl X.KK) t f) : Sm X W (POw X.KK) (tCB r t) (eCa g f) := by
  intro F H σ env fp Q sat hp
  refine s.go sat hp fun ds vs F1 H1 sat1 q _ h1 => ?_
  obtain ⟨z, hz, h2⟩ := post_of h1
  exact hs F1 H1 vs ds z Q sat1.fh q hz h2
theorem de_callB {id : String} {r : List V → Hp → VK → Prop} {g : List D → Option Ow} {x : Str} {p : Pos} {f : Ev → R (List D)} (hc : CallR X (.builtin id) r) (hs : CaG X.KK r g) (hg : Gl X x) (hm : X.mg x = none) (hv : bootBuiltins x = some (.builtin id)) (ha : DAl X W (e :: es) f)
    (hn : x ≠ "__name__" := by decide) (hdb : (x == ("__debug__" : Str)) = false := by decide)
    (he : starEach (e :: es) X.env = (false, eval e X.env) :: starEach es X.env := by rfl) (hpl : (backTo pos (starEach es X.env)).any (·.1) = false := by rfl) : DE X W (.Call (.Name x p) (e :: es) [] pos) (eCa g f) := by
  obtain ⟨t, pa, s⟩ := ha
  exact ⟨_, pe_callB hc hg hm hv pa hn hdb he hpl, ca_sm hs s⟩
theorem de_callTy {T : String} {r : List V → Hp → VK → Prop} {g : List D → Option Ow} {x : Str} {p : Pos} {f : Ev → R (List D)} (hc : CallR X (.type T) r) (hs : CaG X.KK r g) (hg : Gl X x) (hm : X.mg x = none) (hv : bootBuiltins x = some (.type T)) (ha : DAl X W (e :: es) f)
    (hn : x ≠ "__name__" := by decide) (hdb : (x == ("__debug__" : Str)) = false := by decide)
    (he : starEach (e :: es) X.env = (false, eval e X.env) :: starEach es X.env := by rfl) (hpl : (backTo pos (starEach es X.env)).any (·.1) = false := by rfl) : DE X W (.Call (.Name x p) (e :: es) [] pos) (eCa g f) := by
  obtain ⟨t, pa, s⟩ := ha
  exact ⟨_, pe_callTy hc hg hm hv pa hn hdb he hpl, ca_sm hs s⟩
theorem psqs1 {K : Kw} {F H : Hp} {d : D} {vs : List V} (h : PSqs K F H [d] vs) : ∃ v, vs = [v] ∧ PSq K H d v F H := by
  cases h with | cons a b => cases b; exact ⟨_, rfl, a⟩
def gLen : List D → Option Ow
  | [.list ds] => some (.d (.int ds.length))
  | [.tuple ds] => some (.d (.int ds.length))
  | [.str z] => if z.length ≤ sizeLine then some (.d (.int z.length)) else none
  | _ => none
@[simp] theorem gLen_list (ds : List D) : gLen [.list ds] = some (.d (.int ds.length)) := rfl
@[simp] theorem gLen_tup (ds : List D) : gLen [.tuple ds] = some (.d (.int ds.length)) := rfl
theorem caG_len {K : Kw} : CaG K (fun xs H Q => ∃ x n, xs = [x] ∧ LenV K x H n ∧ Q (.int n) H) gLen := by
  intro F H vs ds o Q s h e q
  unfold gLen at e
  split at e
  · cases e
    obtain ⟨v, rfl, p, ws, rfl, p1, p2⟩ := psqs1 h
    exact ⟨_, _, rfl, .inl ⟨ws, p1, (DpAll.len p2).symm⟩, q _ _ _ (.refl s) (own_d (.int _))⟩
  · cases e
    obtain ⟨v, rfl, w⟩ := psqs1 h
    obtain ⟨p, ws, rfl, p1, p2⟩ := dp_tup w
    exact ⟨_, _, rfl, .inr ⟨ws, SqT_mono s p1, (DpAll.len p2).symm⟩, q _ _ _ (.refl s) (own_d (.int _))⟩
  · split at e
    · rename_i c
      cases e
      obtain ⟨v, rfl, w⟩ := psqs1 h
      cases dp_str w
      exact ⟨_, _, rfl, ⟨c, rfl⟩, q _ _ _ (.refl s) (own_d (.int _))⟩
    · cases e
  · cases e
def gMax2 : List D → Option Ow
  | [.int i, .int j] => some (.d (.int (if j > i then j else i)))
  | _ => none
def gMin2 : List D → Option Ow
  | [.int i, .int j] => some (.d (.int (if j < i then j else i)))
  | _ => none
@[simp] theorem gMax2_int (i j : Int) : gMax2 [.int i, .int j] = some (.d (.int (if j > i then j else i))) := rfl
@[simp] theorem gMin2_int (i j : Int) : gMin2 [.int i, .int j] = some (.d (.int (if j < i then j else i))) := rfl
def intsD : List D → Option (List Int)
  | [] => some []
  | .int i :: ds => (intsD ds).map fun is => i :: is
  | _ :: _ => none
@[simp] theorem intsD_map : ∀ ns : List Int, intsD (ns.map PyData.int) = some ns
  | [] => rfl
  | n :: ns => by simp [intsD, intsD_map ns]
theorem intsD_eq : ∀ {ds : List D} {ns : List Int}, intsD ds = some ns → ds = ns.map PyData.int
  | [], ns, h => by cases h; rfl
  | d :: ds, ns, h => by
    unfold intsD at h
    split at h
    · rename_i e; cases e
    · rename_i e
      cases e
      obtain ⟨is, h1, h2⟩ := Option.map_eq_some_iff.mp h
      subst h2
      rw [intsD_eq h1]; rfl
    · cases h
theorem PSq.ints {K : Kw} {F H H0 : Hp} {v : V} {ns : List Int} (h : PSq K H0 (.list (ns.map PyData.int)) v F H) : ∃ a, v = .ref a ∧ SqL K H a (ns.map V.int) := by
  obtain ⟨a, vs, rfl, h1, h2⟩ := h
  rw [DpAll.ints _ h2] at h1
  exact ⟨a, rfl, h1⟩
def gSum : List D → Option Ow
  | [.list ds] => (intsD ds).map fun ns => .d (.int ns.sum)
  | _ => none
theorem caG_sum {K : Kw} : CaG K (rSum K) gSum := by
  intro F H vs ds o Q s h e q
  unfold gSum at e
  split at e
  · obtain ⟨ns, e2, rfl⟩ := Option.map_eq_some_iff.mp e
    rw [intsD_eq e2] at h
    obtain ⟨v, rfl, w⟩ := psqs1 h
    obtain ⟨a, rfl, h1⟩ := w.ints
    exact ⟨a, ns, rfl, h1, q _ _ _ (.refl s) (own_d (.int _))⟩
  · cases e
def gList : List D → Option Ow
  | [.list ds] => some (.l (ds.map Ow.d))
  | [.tuple ds] => some (.l (ds.map Ow.d))
  | _ => none
@[simp] theorem gList_list (ds : List D) : gList [.list ds] = some (.l (ds.map Ow.d)) := rfl
@[simp] theorem gList_tup (ds : List D) : gList [.tuple ds] = some (.l (ds.map Ow.d)) := rfl
theorem caG_list {K : Kw} : CaG K (fun xs H Q => ∃ p ys, xs = [.ref p] ∧ (SqL K H p ys ∨ SqT K H p ys) ∧ ∀ l, H l = none → Q (.ref l) (upd H l (.lst ys))) gList := by
  intro F H vs ds o Q s h e q
  unfold gList at e
  split at e
  · cases e
    obtain ⟨v, rfl, p, ws, rfl, p1, p2⟩ := psqs1 h
    exact ⟨p, ws, rfl, .inl p1, fun l hl => q _ _ _ (Ext.own s hl _) (own_l s hl p2)⟩
  · cases e
    obtain ⟨v, rfl, w⟩ := psqs1 h
    obtain ⟨p, ws, rfl, p1, p2⟩ := dp_tup w
    exact ⟨p, ws, rfl, .inr (SqT_mono s p1), fun l hl => q _ _ _ (Ext.own s hl _) (own_l s hl p2)⟩
  · cases e
def gTuple : List D → Option Ow
  | [.list ds] => some (.d (.tuple ds))
  | [.tuple ds] => some (.d (.tuple ds))
  | _ => none
@[simp] theorem gTuple_list (ds : List D) : gTuple [.list ds] = some (.d (.tuple ds)) := rfl
@[simp] theorem gTuple_tup (ds : List D) : gTuple [.tuple ds] = some (.d (.tuple ds)) := rfl
theorem caG_tuple {K : Kw} : CaG K (fun xs H Q => ∃ p ys, xs = [.ref p] ∧ ((SqL K H p ys ∧ ∀ l, H l = none → Q (.ref l) (upd H l (.tup ys))) ∨ (SqT K H p ys ∧ Q (.ref p) H))) gTuple := by
  intro F H vs ds o Q s h e q
  unfold gTuple at e
  split at e
  · cases e
    obtain ⟨v, rfl, p, ws, rfl, p1, p2⟩ := psqs1 h
    refine ⟨p, ws, rfl, .inl ⟨p1, fun l hl => ?_⟩⟩
    have y := Ext.frz s hl (.tup ws)
    exact q _ _ _ y (own_d (.tup (SqT.of upd_same) (dpaUp p2 y.ff)))
  · cases e
    obtain ⟨v, rfl, w⟩ := psqs1 h
    obtain ⟨p, ws, rfl, p1, p2⟩ := dp_tup w
    exact ⟨p, ws, rfl, .inr ⟨SqT_mono s p1, q _ _ _ (.refl s) (own_d (.tup p1 p2))⟩⟩
  · cases e
def gInt : List D → Option Ow
  | [.int i] => some (.d (.int i))
  | [.bool b] => some (.d (.int (if b then 1 else 0)))
  | [.str z] => if z.length ≤ 640 then (PySem.intText? z).map fun n => .d (.int n) else none
  | _ => none
@[simp] theorem gInt_int (i : Int) : gInt [.int i] = some (.d (.int i)) := rfl
@[simp] theorem gInt_bool (b : Bool) : gInt [.bool b] = some (.d (.int (if b then 1 else 0))) := rfl
theorem caG_int {K : Kw} : CaG K (fun xs H Q => ((∃ i, xs = [.int i] ∧ Q (.int i) H) ∨ ∃ k, xs = [.bl k] ∧ Q (.int (if k then 1 else 0)) H) ∨ ∃ a n, xs = [.str a] ∧ PySem.intText? a = some n ∧ a.length ≤ 640 ∧ Q (.int n) H) gInt := by
  intro F H vs ds o Q s h e q
  unfold gInt at e
  split at e
  · cases e
    obtain ⟨v, rfl, w⟩ := psqs1 h
    cases dp_int w
    exact .inl (.inl ⟨_, rfl, q _ _ _ (.refl s) (own_d (.int _))⟩)
  · cases e
    obtain ⟨v, rfl, w⟩ := psqs1 h
    cases dp_bool w
    exact .inl (.inr ⟨_, rfl, q _ _ _ (.refl s) (own_d (.int _))⟩)
  · split at e
    · obtain ⟨n, e2, rfl⟩ := Option.map_eq_some_iff.mp e
      obtain ⟨v, rfl, w⟩ := psqs1 h
      cases dp_str w
      exact .inr ⟨_, n, rfl, e2, ‹_›, q _ _ _ (.refl s) (own_d (.int _))⟩
    · cases e
  · cases e
def gStr : List D → Option Ow
  | [.int i] => if i.natAbs.log2 < 1920 then some (.d (.str (toString i))) else none
  | _ => none
theorem caG_str {K : Kw} : CaG K (fun xs H Q => ∃ i, xs = [.int i] ∧ i.natAbs.log2 < 1920 ∧ Q (.str (toString i)) H) gStr := by
  intro F H vs ds o Q s h e q
  unfold gStr at e
  split at e
  · split at e
    · cases e
      obtain ⟨v, rfl, w⟩ := psqs1 h
      cases dp_int w
      exact ⟨_, rfl, ‹_›, q _ _ _ (.refl s) (own_d (.str _))⟩
    · cases e
  · cases e
theorem de_len {x : Expr} {p : Pos} {f : Ev → R (List D)} (hg : Gl X "len") (hm : X.mg "len" = none) (ha : DAl X W [x] f) (hpl : starEach [x] X.env = (false, eval x X.env) :: starEach [] X.env := by rfl) : DE X W (.Call (.Name "len" p) [x] [] pos) (eCa gLen f) :=
  de_callB call_len caG_len hg hm PySem.boot_len ha (he := hpl)
theorem de_sum {x : Expr} {p : Pos} {f : Ev → R (List D)} (hc : X.calm = true) (hg : Gl X "sum") (hm : X.mg "sum" = none) (ha : DAl X W [x] f) (he : starEach [x] X.env = (false, eval x X.env) :: starEach [] X.env := by rfl) : DE X W (.Call (.Name "sum" p) [x] [] pos) (eCa gSum f) :=
  de_callB (cr_sum hc) caG_sum hg hm (by decide +kernel) ha (he := he)
theorem de_list {x : Expr} {p : Pos} {f : Ev → R (List D)} (hg : Gl X "list") (hm : X.mg "list" = none) (ha : DAl X W [x] f) (he : starEach [x] X.env = (false, eval x X.env) :: starEach [] X.env := by rfl) : DE X W (.Call (.Name "list" p) [x] [] pos) (eCa gList f) :=
  de_callTy call_list_of caG_list hg hm (by decide +kernel) ha (he := he)
theorem de_tuple {x : Expr} {p : Pos} {f : Ev → R (List D)} (hg : Gl X "tuple") (hm : X.mg "tuple" = none) (ha : DAl X W [x] f) (he : starEach [x] X.env = (false, eval x X.env) :: starEach [] X.env := by rfl) : DE X W (.Call (.Name "tuple" p) [x] [] pos) (eCa gTuple f) :=
  de_callTy call_tuple_of caG_tuple hg hm (by decide +kernel) ha (he := he)
theorem de_int {x : Expr} {p : Pos} {f : Ev → R (List D)} (hg : Gl X "int") (hm : X.mg "int" = none) (ha : DAl X W [x] f) (he : starEach [x] X.env = (false, eval x X.env) :: starEach [] X.env := by rfl) : DE X W (.Call (.Name "int" p) [x] [] pos) (eCa gInt f) :=
  de_callTy (CallR.or call_int1 call_int_str) caG_int hg hm (by decide +kernel) ha (he := he)
theorem de_str {x : Expr} {p : Pos} {f : Ev → R (List D)} (hg : Gl X "str") (hm : X.mg "str" = none) (ha : DAl X W [x] f) (he : starEach [x] X.env = (false, eval x X.env) :: starEach [] X.env := by rfl) : DE X W (.Call (.Name "str" p) [x] [] pos) (eCa gStr f) :=
  de_callTy call_str_int caG_str hg hm (by decide +kernel) ha (he := he)

def dTy : D → String
  | .none => "NoneType"
  | .bool _ => "bool"
  | .int _ => "int"
  | .str _ => "str"
  | .list _ => "list"
  | .tuple _ => "tuple"
  | .dict _ => "dict"
theorem sqL_ty {K : Kw} {H : Hp} {a : Addr} {xs : List V} (h : SqL K H a xs) : TyX K H (.ref a) (.type "list") := by
  rcases h with (h | ⟨o, h⟩) | ⟨o, its, n, hk, hc, _⟩
  · exact .base (.lst h)
  · exact .base (.frz h)
  · exact .kList hk hc
theorem sqT_ty {K : Kw} {H : Hp} {a : Addr} {xs : List V} (h : SqT K H a xs) : TyX K H (.ref a) (.type "tuple") := by
  rcases h with (h | ⟨o, h⟩) | ⟨o, its, n, hk, hc, _⟩
  · exact .base (.tup h)
  · exact .fTuple h
  · exact .kTuple hk hc
def isDct : D → Bool
  | .dict _ => true
  | _ => false
theorem dp_ty {K : Kw} {H : Hp} {v : V} {d : D} (h : Dp K H v d) (nd : isDct d = false) : TyX K H v (.type (dTy d)) := by
  cases h with
  | non => exact .base .non
  | bl b => exact .base (.bl b)
  | int i => exact .base (.int i)
  | str i => exact .base (.str i)
  | lst a b => exact sqL_ty a
  | tup a b => exact sqT_ty a
  | _ => cases nd
def gIsi (T : String) (d : D) : R D := if isDct d = true then .no else match kitB (dTy d) T with
  | some b => .ok (.bool b)
  | none => .no
theorem df_isi {T : String} {y : Str} {p p2 : Pos} (ha : DV X W a f) (hg : Gl X "isinstance") (hm : X.mg "isinstance" = none) (gT : Gl X y) (mT : X.mg y = none) (bT : bootBuiltins y = some (.type T))
    (he : starEach [a, .Name y p2] X.env = (false, eval a X.env) :: starEach [.Name y p2] X.env := by rfl) (he2 : starEach [.Name y p2] X.env = (false, eval (.Name y p2) X.env) :: starEach [] X.env := by rfl) (hpl : (backTo pos (starEach [.Name y p2] X.env)).any (·.1) = false := by rfl)
    (hn : y ≠ "__name__" := by decide) (hd : (y == ("__debug__" : Str)) = false := by decide) : DF X W (.Call (.Name "isinstance" p) [a, .Name y p2] [] pos) (eB f (gIsi T)) := by
  obtain ⟨t, pa, s⟩ := ha
  refine ⟨_, pe_callB call_isi hg hm (by decide +kernel) (pa_cons pa (pa_cons (pe_bltn (v := .ty T) gT mT bT rfl hn hd) pa_nil he2) he) (he := he) (hpl := hpl), fun F H σ env fp Q sat hp => ?_⟩
  refine s.go sat hp fun d v F1 H1 sat1 q _ h1 => ?_
  unfold gIsi at h1
  cases nd : isDct d with
  | true => rw [nd] at h1; exact h1.elim
  | false =>
  rw [nd] at h1
  simp only [Bool.false_eq_true, if_false] at h1
  split at h1
  · rename_i b hb
    exact ⟨v, .ty T, _, _, b, rfl, .ty T, dp_ty q nd, hb, h1 _ F1 H1 (.refl sat1.fh) (.bl _)⟩
  · exact h1.elim
end
end Mir
end
set_option Elab.async false
set_option linter.all false
set_option maxRecDepth 100000
set_option maxHeartbeats 4000000
noncomputable section
namespace Mir
open PySem PySem.Spec L2

def ItP (t : Bool) (h : Heap) (it a : Addr) (i : Nat) : Prop := match t with
  | true => h.IsTupleIter it a i
  | false => h.IsListIter it a i
def CoP (t : Bool) (h : Heap) (a : Addr) (its : Array Value) : Prop := match t with
  | true => h.IsTuple a its
  | false => h.IsList a its
def Sqq (t : Bool) (K : PySem.W.Frag) (H : Hp) (a : Addr) (vs : List V) : Prop := match t with
  | true => SqT K H a vs
  | false => SqL K H a vs
theorem Sqq.mono {t : Bool} {K : PySem.W.Frag} {H H' : Hp} {a : Addr} {vs : List V} (s : Same H H') (h : Sqq t K H a vs) : Sqq t K H' a vs := by
  cases t with
  | true => exact SqT_mono s h
  | false => exact s.seq h
section
variable {X : Cx} {pins : List (Addr × Obj)} {σ : L2.St} {H : Hp} {s : Shared} {a : Addr} {xs ys : List V} {t : Bool}
theorem Sqq.at (I : Inv X pins σ H s) (h : Sqq t X.K H a xs) : ∃ its : List Value, Vals xs its ∧ CoP t s.heap a its.toArray := by
  cases t with
  | true =>
    obtain ⟨its, r, p, _⟩ := I.tuple h
    exact ⟨its, r, p⟩
  | false =>
    obtain ⟨its, r, p, _⟩ := I.list h
    exact ⟨its, r, p.isList⟩
theorem Sqq.inj (I : Inv X pins σ H s) (h : Sqq t X.K H a xs) (h' : Sqq t X.K H a ys) : xs = ys := by
  cases t with
  | true => exact I.tuple_inj h h'
  | false => exact I.list_inj h h'
end
theorem co_ne {t t' : Bool} {h : Heap} {a it b : Addr} {its : Array Value} {i : Nat} (c : CoP t h a its) (p : ItP t' h it b i) : a ≠ it := by
  rintro rfl
  have e1 : ∃ o, h.get? a = some o ∧ (o.cls = .type "tuple" ∨ o.cls = .type "list") := by
    cases t with
    | true => obtain ⟨o, e, c, _⟩ := c; exact ⟨o, e, .inl c⟩
    | false => obtain ⟨o, e, c, _⟩ := c; exact ⟨o, e, .inr c⟩
  have e2 : ∃ o, h.get? a = some o ∧ (o.cls = .type "tuple_iterator" ∨ o.cls = .type "list_iterator") := by
    cases t' with
    | true => obtain ⟨o, e, c, _⟩ := p; exact ⟨o, e, .inl c⟩
    | false => obtain ⟨o, e, c, _⟩ := p; exact ⟨o, e, .inr c⟩
  obtain ⟨o, g1, c1⟩ := e1
  obtain ⟨o', g2, c2⟩ := e2
  rw [g1] at g2
  cases g2
  rcases c1 with c1 | c1 <;> rcases c2 with c2 | c2 <;> · rw [c1] at c2; revert c2; decide +kernel
theorem co_cls {t : Bool} {h : Heap} {a : Addr} {its : Array Value} (c : CoP t h a its) : ∃ o, h.get? a = some o ∧ (o.cls = .type "tuple" ∨ o.cls = .type "list") := by
  cases t with
  | true => obtain ⟨o, e, c, _⟩ := c; exact ⟨o, e, .inl c⟩
  | false => obtain ⟨o, e, c, _⟩ := c; exact ⟨o, e, .inr c⟩
theorem it_obj {t : Bool} {h : Heap} {it a : Addr} {i : Nat} (p : ItP t h it a i) : ∃ o, h.get? it = some o ∧ ∀ v, o.data ≠ .cell v := by
  cases t with
  | true => obtain ⟨o, e, _, d⟩ := p; exact ⟨o, e, fun v z => by rw [d] at z; cases z⟩
  | false => obtain ⟨o, e, _, d⟩ := p; exact ⟨o, e, fun v z => by rw [d] at z; cases z⟩
theorem ItP.at {t : Bool} {h h' : Heap} {it a : Addr} {i : Nat} (p : ItP t h it a i) (k : ∀ o, h.get? it = some o → h'.get? it = some o) : ItP t h' it a i := by
  cases t with
  | true => obtain ⟨o, e, q⟩ := p; exact ⟨o, k o e, q⟩
  | false => obtain ⟨o, e, q⟩ := p; exact ⟨o, k o e, q⟩
theorem drawsP {P : Program} {w : World} {A : Around} (hh : A.handled = none) (t : Bool) {it a : Addr} (hne : a ≠ it) (its : Array Value) :
    Draws P w A it [it, a] its.size (fun i v => its[i]? = some v) (fun i h => ItP t h it a i ∧ CoP t h a its) := by
  cases t with
  | true => exact Draws.tuple hh it a hne its
  | false => exact Draws.list hh it a hne its
def objP (t : Bool) (a : Addr) : Obj := match t with
  | true => { cls := .type "tuple_iterator", data := .fields #[.ref a, .int 0 0] }
  | false => { cls := .type "list_iterator", data := .fields #[.ref a, .int 0 0] }
theorem beginsP (t : Bool) (a : Addr) (its : Array Value) : Begins (.ref a) (objP t a) (fun h => CoP t h a its) := by
  cases t with
  | true => exact begins_tuple a its
  | false => exact begins_list a its
theorem itP_new {t : Bool} {h : Heap} {it a : Addr} (e : h.get? it = some (objP t a)) : ItP t h it a 0 := by
  cases t with
  | true => exact ⟨_, e, rfl, rfl⟩
  | false => exact ⟨_, e, rfl, rfl⟩

def Jen (t : Bool) (K : PySem.W.Frag) (a : Addr) : It :=
  ⟨fun i H => ∃ xs x, Sqq t K H a xs ∧ xs[i]? = some x, fun i H v H' => ∃ T x, v = .ref T ∧ H T = none ∧ H' = upd H T (.tup [.int (i : Nat), x]) ∧ ∀ xs, Sqq t K H a xs → xs[i]? = some x,
    fun i H => ∃ xs, Sqq t K H a xs ∧ xs.length = i⟩
theorem turn_en {P : Program} {w : World} {K : PySem.W.Frag} {elts : List Expr} {kk : Nat} {tpos : Pos} (t : Bool) (a e it : Addr) (hei : e ≠ it) :
    Turn P w K (.Tuple elts kk tpos) (Jen t K a) [e, it] e (fun i h => (∃ old, IsEnum h e it (0 + (i : Int)) old) ∧ ItP t h it a i) where
  mem := by simp
  obj := fun i h st b hb => by
    obtain ⟨⟨old, he⟩, hi⟩ := st
    rcases List.mem_cons.mp hb with z | z
    · rw [z]; exact ⟨_, he, fun v q => nomatch q⟩
    · rw [List.mem_singleton.mp z]; exact it_obj hi
  keep := fun i h h' st k => let ⟨⟨old, he⟩, hi⟩ := st; ⟨⟨old, k e (by simp) _ he⟩, hi.at fun o q => k it (by simp) o q⟩
  item := by
    intro X hP hw hK hc i pins s σ H E I hf st hg
    subst hP hw hK
    obtain ⟨hen, hit⟩ := st
    obtain ⟨xs, x, hq, hx⟩ := hg
    obtain ⟨its, rv, hco⟩ := hq.at I
    obtain ⟨u, hu, ru⟩ := rv.get hx
    have hne := co_ne hco hit
    have hea : e ≠ a := by
      rintro rfl
      obtain ⟨old, he⟩ := hen
      obtain ⟨o, g, c⟩ := co_cls hco
      have g' : s.heap.get? e = some _ := he
      rw [g] at g'
      cases g'
      rcases c with c | c
      · exact absurd (show Value.type "enumerate" = .type "tuple" from c) (by decide +kernel)
      · exact absurd (show Value.type "enumerate" = .type "list" from c) (by decide +kernel)
    have hlt : i < its.toArray.size := by rw [List.size_toArray]; exact (List.getElem?_eq_some_iff.mp hu).1
    refine (GoesN.enumFrom (prog := X.prog) (w := X.w) (elts := elts) (x1 := kk) (pos := tpos) 0 (drawsP (A := X.A.in1) (I.ok.hd hc) t hne its.toArray) e hei (by simp [hei, hea]) (by simp)).goes i s _ _ hlt ⟨hen, hit, hco⟩ fun v h' tk ⟨T, tk', y, ev, hT, hy, hTup⟩ st' hk _ => ?_
    subst ev
    have hyu : y = u := by
      have hy' : its[i]? = some y := by simpa using hy
      rw [hu] at hy'
      exact (Option.some.inj hy').symm
    subst hyu
    have new : ObjOk X.prog X.w (upd H T (.tup [.int (i : Nat), x])) h' T (.tup [.int (i : Nat), x]) :=
      ⟨by show 2 ≤ sizeLine; decide, [.int (0 + (i : Int)) tk', y], .cons ⟨tk', by rw [Int.zero_add]⟩ (.cons ru .nil), hTup⟩
    have hb' : ∀ b ∈ [e, it], b < s.heap.objs.size := fun b hb => by
      obtain ⟨o, g, _⟩ := (show ∃ o, s.heap.get? b = some o ∧ True from by
        rcases List.mem_cons.mp hb with z | z
        · rw [z]; obtain ⟨old, he⟩ := hen; exact ⟨_, he, trivial⟩
        · rw [List.mem_singleton.mp z]; obtain ⟨o, g, _⟩ := it_obj hit; exact ⟨o, g, trivial⟩)
      exact Heap.lt_size g
    refine ⟨.ref T, _, I.turnedNew (ch := [e, it]) hk hf hT new, rfl, ⟨T, x, rfl, I.hok.fresh hT, rfl, fun ys hys => by rw [hys.inj I hq]; exact hx⟩, ⟨st'.1, st'.2.1⟩, fun b hb => ?_⟩
    rw [upd_ne (Nat.ne_of_lt (Nat.lt_of_lt_of_le (hb' b hb) hT))]
    exact (hf b hb).1
  done := by
    intro X hP hw hK hc i pins s σ H E I hf st hg
    subst hP hw hK
    obtain ⟨hen, hit⟩ := st
    obtain ⟨xs, hq, hl⟩ := hg
    obtain ⟨its, rv, hco⟩ := hq.at I
    have hne := co_ne hco hit
    have hea : e ≠ a := by
      rintro rfl
      obtain ⟨old, he⟩ := hen
      obtain ⟨o, g, c⟩ := co_cls hco
      have g' : s.heap.get? e = some _ := he
      rw [g] at g'
      cases g'
      rcases c with c | c
      · exact absurd (show Value.type "enumerate" = .type "tuple" from c) (by decide +kernel)
      · exact absurd (show Value.type "enumerate" = .type "list" from c) (by decide +kernel)
    have hs : i = its.toArray.size := by rw [List.size_toArray, ← rv.length]; exact hl.symm
    subst hs
    exact (GoesN.enumFrom (prog := X.prog) (w := X.w) (elts := elts) (x1 := kk) (pos := tpos) 0 (drawsP (A := X.A.in1) (I.ok.hd hc) t hne its.toArray) e hei (by simp [hei, hea]) (by simp)).stops s _ _ ⟨hen, hit, hco⟩ fun h' tk hk _ => I.turnedL (ch := [e, it]) hk hf
  self := fun A i s Q E st h => let ⟨⟨_, he⟩, _⟩ := st; wpAny_pyIter_enum he h
theorem meets_en {v : Value} {o : Obj} {H : Heap → Prop} (B : Begins v o H) : Meets (Builtin.«enumerate.__new__» ⟨[.type "enumerate", v], []⟩) (fun _ R s => H s.heap ∧
      R (.ok (.ret (.ref (s.heap.push o).objs.size))) { s with heap := (s.heap.push o).push { cls := .type "enumerate", data := .fields #[.none, .bool false, .ref s.heap.objs.size, rawInt 0, .none, .none] } }) :=
  .of_wp fun prog w A R s h => by
    obtain ⟨hp, g, d, tk, os⟩ := s; obtain ⟨h1, h⟩ := h; have hsub := sub_enumerate
    have q1 : ∀ {A' : Around} {E Q : Value → Shared → Prop}, Q (.ref hp.objs.size) ⟨hp.push o, g, d, tk, os⟩ → wpAny (model prog w) A' (pyIter v) Q E ⟨hp, g, d, tk, os⟩ := fun q => B.iter prog w _ _ ⟨hp, g, d, tk, os⟩ _ h1 q
    wp_walk using q1
    refine wpAny_stack_any (fun st => wpAny_pure ?_); split
    · rename_i c _ _ _ _ _; cases (c == Value.type "enumerate") <;> (wp_walk using q1; exact ⟨_, rfl, h⟩)
    · wp_walk using q1; exact ⟨_, rfl, h⟩
theorem call_en {prog : Program} {w : World} {A : Around} {E : Value → Shared → Prop} {s : Shared} {v : Value} {o : Obj} {H : Heap → Prop} {Q : Value → Shared → Prop} (B : Begins v o H) (h1 : H s.heap)
    (h : ∀ h', IsEnum h' (s.heap.objs.size + 1) s.heap.objs.size 0 .none → h'.get? s.heap.objs.size = some o → (∀ b o, s.heap.get? b = some o → h'.get? b = some o) → Q (.ref (s.heap.objs.size + 1)) { s with heap := h' }) :
    wpAny (model prog w) A (call (.type "enumerate") [v]) Q E s := by
  refine callType_new F.called_enumerate (by decide) (F.typeCall_enumerate_1 _) (F.newCall_enumerate_1 _) (fun obj => F.args_object_init_2 obj _) F.entry_enumerate_new (meets_en B) ⟨h1, ?_⟩
  have hz : (s.heap.push o).objs.size = s.heap.objs.size + 1 := Heap.size_push ..
  show _ ∧ _; rw [hz]
  have g1 : (s.heap.push o).get? s.heap.objs.size = some o := Heap.get?_push_size _ B.free
  have he : IsEnum ((s.heap.push o).push { cls := .type "enumerate", data := .fields #[.none, .bool false, .ref s.heap.objs.size, rawInt 0, .none, .none] }) (s.heap.objs.size + 1) s.heap.objs.size 0 .none := by
    have := Heap.get?_push_size (s.heap.push o) (o := { cls := .type "enumerate", data := .fields #[.none, .bool false, .ref s.heap.objs.size, rawInt 0, .none, .none] }) rfl
    rw [hz] at this; exact this
  exact ⟨⟨_, he, rfl⟩, h _ he (Heap.get?_push_of_some _ g1) fun b o x => Heap.get?_push_of_some _ (Heap.get?_push_of_some _ x)⟩
def iEn (K : PySem.W.Frag) (ta : TA) : TI := fun σ H R => ta σ H fun vs H1 => ∃ t a xs, vs = [.ref a] ∧ Sqq t K H1 a xs ∧ R (Jen t K a) H1
theorem pi_en {X : Cx} {e : Expr} {ta : TA} {p pos tpos : Pos} {elts : List Expr} {kk : Nat} (hg : Gl X "enumerate") (hm : X.mg "enumerate" = none) (ha : PA X [e] ta) (hs : starEach [e] X.env = [(false, eval e X.env)] := by rfl) :
    PI X (.Tuple elts kk tpos) (.Call (.Name "enumerate" p) [e] [] pos) (iEn X.K ta) := by
  refine ⟨fun pins s σ H R I h => ?_⟩
  refine PyProof.Rows.Call_ (ld_blt I hg hm PyProof.Rows.boot_enumerate (PyProof.Rows.callWith_type1 (thn (ha.run pos pins s σ H _ I h) fun us s1 ⟨vs, H1, I1, r1, t, a, xs, ex, hq, q⟩ => ?_) hs rfl))
  subst ex
  cases r1 with
  | cons r rr =>
    cases rr
    cases r
    obtain ⟨its, rv, hco⟩ := hq.at I1
    refine call_en (beginsP t a its.toArray) hco fun h' he hit hk => wpAny_pyIter_enum he ?_
    have I2 : Inv X pins σ H1 { s1 with heap := h' } := I1.kept (t' := s1.toks) hk
    refine ⟨s1.heap.objs.size + 1, [s1.heap.objs.size + 1, s1.heap.objs.size], _, _, H1, rfl, I2, turn_en t a _ _ (Nat.succ_ne_self _), ⟨⟨.none, he⟩, itP_new hit⟩, fun b hb => ?_, q⟩
    have hle : s1.heap.objs.size ≤ b := by
      rcases List.mem_cons.mp hb with z | z
      · rw [z]; exact Nat.le_add_right _ _
      · rw [List.mem_singleton.mp z]; exact Nat.le_refl _
    exact I1.fpOk hle (I1.hok.fresh hle)
end Mir
end
set_option Elab.async false
set_option linter.all false
set_option maxRecDepth 100000
set_option maxHeartbeats 4000000
noncomputable section
namespace Mir
open PySem PySem.Spec L2

theorem fp_ne {X : Cx} {pins : List (Addr × Obj)} {σ : L2.St} {H : Hp} {s : Shared} {t : Bool} {a b : Addr} {xs : List V} (I : Inv X pins σ H s) (hf : FpOk X pins H b) (hq : Sqq t X.K H a xs) : a ≠ b := by
  rintro rfl
  have kk : ∀ o, X.K.lookup a = some o → False := fun o e => by
    have e1 := I.mod.kin a o e
    obtain ⟨_, _, _, q, _, _⟩ := hf
    rcases q with q | q
    · exact I.ok.noex a o e1 q
    · exact absurd (Nat.lt_of_lt_of_le (Heap.lt_size e1) (Nat.le_trans I.ok.bsz q)) (Nat.lt_irrefl _)
  cases t with
  | true =>
    rcases hq with (h | ⟨o, h⟩) | ⟨o, its, n, h, _⟩
    · rw [hf.1] at h; cases h
    · rw [hf.1] at h; cases h
    · exact kk o h
  | false =>
    rcases hq with (h | ⟨o, h⟩) | ⟨o, its, n, h, _⟩
    · rw [hf.1] at h; cases h
    · rw [hf.1] at h; cases h
    · exact kk o h

def Jzp (t u : Bool) (K : PySem.W.Frag) (a b : Addr) : It :=
  ⟨fun i H => ∃ xs ys x y, Sqq t K H a xs ∧ Sqq u K H b ys ∧ xs[i]? = some x ∧ ys[i]? = some y,
    fun i H v H' => ∃ T x y, v = .ref T ∧ H T = none ∧ H' = upd H T (.tup [x, y]) ∧ (∀ xs, Sqq t K H a xs → xs[i]? = some x) ∧ ∀ ys, Sqq u K H b ys → ys[i]? = some y,
    fun i H => ∃ xs ys, Sqq t K H a xs ∧ Sqq u K H b ys ∧ min xs.length ys.length = i⟩
theorem turn_zp {P : Program} {w : World} {K : PySem.W.Frag} {elts : List Expr} {kk : Nat} {tpos : Pos} (t u : Bool) (a b z TI TO i1 i2 : Addr) (nd : [z, TI, TO, i1, i2].Nodup) :
    Turn P w K (.Tuple elts kk tpos) (Jzp t u K a b) [z, TI, TO, i1, i2] z (fun i h => IsZip h z TI TO .none ∧ IsTupOf2 h TI (.ref i1) (.ref i2) ∧ (∃ a1 a2, IsTupOf2 h TO a1 a2) ∧ ItP t h i1 a i ∧ ItP u h i2 b i) := by
  have sep : a ∉ [z, TI, TO, i1, i2] → b ∉ [z, TI, TO, i1, i2] → ZipSep2 z TI TO i1 i2 [i1, a] [i2, b] := fun ha hb => by
    simp only [List.nodup_cons, List.mem_cons, List.not_mem_nil, or_false, not_or, List.nodup_nil, and_true, not_false_eq_true] at nd ha hb
    obtain ⟨⟨n1, n2, n3, n4⟩, ⟨n5, n6, n7⟩, ⟨n8, n9⟩, n10⟩ := nd
    obtain ⟨a1, a2, a3, a4, a5⟩ := ha
    obtain ⟨b1, b2, b3, b4, b5⟩ := hb
    refine ⟨Ne.symm n1, Ne.symm n2, n5, n6, by simp, ?_, ?_, n7, by simp, ?_, ?_, ?_, ?_⟩ <;> simp only [List.mem_cons, List.not_mem_nil, or_false, not_or]
    · exact ⟨n3, Ne.symm a1⟩
    · exact ⟨n8, Ne.symm a3⟩
    · exact ⟨n4, Ne.symm b1⟩
    · exact ⟨n9, Ne.symm b3⟩
    · exact ⟨n10, Ne.symm b4⟩
    · exact ⟨Ne.symm n10, Ne.symm a5⟩
  have live : ∀ {i : Nat} {h : Heap}, (IsZip h z TI TO .none ∧ IsTupOf2 h TI (.ref i1) (.ref i2) ∧ (∃ a1 a2, IsTupOf2 h TO a1 a2) ∧ ItP t h i1 a i ∧ ItP u h i2 b i) → ∀ c ∈ [z, TI, TO, i1, i2], ∃ o, h.get? c = some o ∧ ∀ v, o.data ≠ .cell v := fun st c hc => by
    obtain ⟨h1, h2, ⟨x1, x2, h3⟩, h4, h5⟩ := st
    simp only [List.mem_cons, List.not_mem_nil, or_false] at hc
    rcases hc with rfl | rfl | rfl | rfl | rfl
    · exact ⟨_, h1, fun v q => nomatch q⟩
    · exact ⟨_, h2, fun v q => nomatch q⟩
    · exact ⟨_, h3, fun v q => nomatch q⟩
    · exact it_obj h4
    · exact it_obj h5
  have wrs : ∀ c ∈ [z, TO, i1, i2], c ∈ [z, TI, TO, i1, i2] := fun c hc => by
    simp only [List.mem_cons, List.not_mem_nil, or_false] at hc ⊢
    rcases hc with rfl | rfl | rfl | rfl <;> simp
  refine ⟨by simp, fun i h st => live st, fun i h h' st k => ?_, ?_, ?_, fun A i s Q E st h => wpAny_pyIter_zip st.1 h⟩
  · obtain ⟨h1, h2, ⟨x1, x2, h3⟩, h4, h5⟩ := st
    exact ⟨k z (by simp) _ h1, k TI (by simp) _ h2, ⟨x1, x2, k TO (by simp) _ h3⟩, h4.at fun o q => k i1 (by simp) o q, h5.at fun o q => k i2 (by simp) o q⟩
  · intro X hP hw hK hc i pins s σ H E I hf st hg
    subst hP hw hK
    have hst := live st
    obtain ⟨h1, h2, h3, h4, h5⟩ := st
    obtain ⟨xs, ys, x, y, hq, hr, hx, hy⟩ := hg
    obtain ⟨its, rv, hco⟩ := hq.at I
    obtain ⟨jts, rw', hco'⟩ := hr.at I
    obtain ⟨u1, hu, ru⟩ := rv.get hx
    obtain ⟨u2, hu', ru'⟩ := rw'.get hy
    have S := sep (fun z => fp_ne I (hf a z) hq rfl) (fun z => fp_ne I (hf b z) hr rfl)
    have n1 : i < its.toArray.size := by rw [List.size_toArray]; exact (List.getElem?_eq_some_iff.mp hu).1
    have n2 : i < jts.toArray.size := by rw [List.size_toArray]; exact (List.getElem?_eq_some_iff.mp hu').1
    refine (GoesN.zip2 (prog := X.prog) (w := X.w) (elts := elts) (x1 := kk) (pos := tpos) S (drawsP (A := X.A.in1) (I.ok.hd hc) t (fp_ne I (hf i1 (by simp)) hq) its.toArray) (drawsP (A := X.A.in1) (I.ok.hd hc) u (fp_ne I (hf i2 (by simp)) hr) jts.toArray)).goes i s _ _ (by omega) ⟨h1, h2, h3, ⟨h4, hco⟩, h5, hco'⟩
      fun v h' tk ⟨T, p, q, ev, hT, hp, hq', hTup⟩ st' hk _ => ?_
    subst ev
    have e1 : p = u1 := by
      have hp' : its[i]? = some p := by simpa using hp
      rw [hu] at hp'
      exact (Option.some.inj hp').symm
    have e2 : q = u2 := by
      have hp' : jts[i]? = some q := by simpa using hq'
      rw [hu'] at hp'
      exact (Option.some.inj hp').symm
    subst e1 e2
    have new : ObjOk X.prog X.w (upd H T (.tup [x, y])) h' T (.tup [x, y]) := ⟨by show 2 ≤ sizeLine; decide, [p, q], .cons ru (.cons ru' .nil), hTup⟩
    refine ⟨.ref T, _, I.turnedNew (ch := [z, TI, TO, i1, i2]) (fun b o hb e => hk b o (fun m => hb (wrs b m)) e) hf hT new, rfl, ⟨T, x, y, rfl, I.hok.fresh hT, rfl, fun zs hz => by rw [hz.inj I hq]; exact hx, fun zs hz => by rw [hz.inj I hr]; exact hy⟩,
      ⟨st'.1, st'.2.1, st'.2.2.1, st'.2.2.2.1.1, st'.2.2.2.2.1⟩, fun c hc => ?_⟩
    obtain ⟨o, g, _⟩ := hst c hc
    rw [upd_ne (Nat.ne_of_lt (Nat.lt_of_lt_of_le (Heap.lt_size g) hT))]
    exact (hf c hc).1
  · intro X hP hw hK hc i pins s σ H E I hf st hg
    subst hP hw hK
    obtain ⟨h1, h2, h3, h4, h5⟩ := st
    obtain ⟨xs, ys, hq, hr, hl⟩ := hg
    obtain ⟨its, rv, hco⟩ := hq.at I
    obtain ⟨jts, rw', hco'⟩ := hr.at I
    have S := sep (fun z => fp_ne I (hf a z) hq rfl) (fun z => fp_ne I (hf b z) hr rfl)
    have hs : i = min its.toArray.size jts.toArray.size := by rw [List.size_toArray, List.size_toArray, ← rv.length, ← rw'.length]; exact hl.symm
    subst hs
    exact (GoesN.zip2 (prog := X.prog) (w := X.w) (elts := elts) (x1 := kk) (pos := tpos) S (drawsP (A := X.A.in1) (I.ok.hd hc) t (fp_ne I (hf i1 (by simp)) hq) its.toArray) (drawsP (A := X.A.in1) (I.ok.hd hc) u (fp_ne I (hf i2 (by simp)) hr) jts.toArray)).stops s _ _ ⟨h1, h2, h3, ⟨h4, hco⟩, h5, hco'⟩
      fun h' tk hk _ => I.turnedL (ch := [z, TI, TO, i1, i2]) (fun b o hb e => hk b o (fun m => hb (wrs b m)) e) hf
def iZp (K : PySem.W.Frag) (ta : TA) : TI := fun σ H R => ta σ H fun vs H1 => ∃ t u a b xs ys, vs = [.ref a, .ref b] ∧ Sqq t K H1 a xs ∧ Sqq u K H1 b ys ∧ R (Jzp t u K a b) H1
theorem pi_zp {X : Cx} {e e2 : Expr} {ta : TA} {p pos tpos : Pos} {elts : List Expr} {kk : Nat} (hg : Gl X "zip") (hm : X.mg "zip" = none) (ha : PA X [e, e2] ta) (hs : starEach [e, e2] X.env = (false, eval e X.env) :: starEach [e2] X.env := by rfl)
    (hpl : (backTo pos (starEach [e2] X.env)).any (·.1) = false := by rfl) : PI X (.Tuple elts kk tpos) (.Call (.Name "zip" p) [e, e2] [] pos) (iZp X.K ta) := by
  refine ⟨fun pins s σ H R I h => ?_⟩
  refine PyProof.Rows.Call_ (ld_blt I hg hm PyProof.Rows.boot_zip (PyProof.Rows.callWith_type1 (thn (ha.run pos pins s σ H _ I h) fun us s1 ⟨vs, H1, I1, r1, t, u, a, b, xs, ys, ex, hq, hr, q⟩ => ?_) hs hpl))
  subst ex
  cases r1 with
  | cons r rr =>
    cases rr with
    | cons r' rr =>
      cases rr
      cases r
      cases r'
      obtain ⟨its, rv, hco⟩ := hq.at I1
      obtain ⟨jts, rw', hco'⟩ := hr.at I1
      refine zip_begins2 (beginsP t a its.toArray) (beginsP u b jts.toArray) hco hco' fun h' hz hTI hTO g1 g2 _ hk => wpAny_pyIter_zip hz ?_
      have I2 : Inv X pins σ H1 { s1 with heap := h' } := I1.kept (t' := s1.toks) hk
      have le5 : ∀ c ∈ [s1.heap.objs.size + 4, s1.heap.objs.size + 2, s1.heap.objs.size + 3, s1.heap.objs.size, s1.heap.objs.size + 1], s1.heap.objs.size ≤ c := fun c hc => by
        simp only [List.mem_cons, List.not_mem_nil, or_false] at hc
        rcases hc with z | z | z | z | z <;> (rw [z]; first | exact Nat.le_refl _ | exact Nat.le_add_right _ _)
      have nd5 : ∀ n : Nat, [n + 4, n + 2, n + 3, n, n + 1].Nodup := fun n => by
        simp only [List.nodup_cons, List.mem_cons, List.not_mem_nil, or_false, not_or, List.nodup_nil, and_true, not_false_eq_true]
        omega
      exact ⟨_, _, _, _, H1, rfl, I2, turn_zp t u a b _ _ _ _ _ (nd5 s1.heap.objs.size), ⟨hz, hTI, ⟨_, _, hTO⟩, itP_new g1, itP_new g2⟩, fun c hc => I1.fpOk (le5 c hc) (I1.hok.fresh (le5 c hc)), q⟩
end Mir
end
set_option Elab.async false
set_option linter.all false
set_option maxRecDepth 100000
set_option maxHeartbeats 4000000
noncomputable section
namespace Mir
open PySem PySem.Spec L2

structure WalkF (K : Kw) (J : It) (F0 : Hp) (items : List D) : Prop where
  go : ∀ i F H, i < items.length → Same F0 F → Same F H → J.go i H
  yld : ∀ i F H x H', i < items.length → Same F0 F → Same F H → J.yld i H x H' → ∃ d F', items[i]? = some d ∧ Ext F H F' H' ∧ Dp K F' x d
  stop : ∀ F H, Same F0 F → Same F H → J.stop items.length H
def PIt (K : Kw) (_ : Hp) (items : List D) (J : It) (F' _ : Hp) : Prop := WalkF K J F' items
instance {K : Kw} : Anti (PIt K) := ⟨fun _ h => h⟩
def DI (X : Cx) (W : WX) (tg e : Expr) (f : Ev → R (List D)) : Prop := ∃ wi, PI X tg e wi ∧ Sm X W (PIt X.KK) wi f
section
variable {K : Kw} {F0 : Hp} {a b : Addr} {vs ws : List V} {ds es : List D}
theorem walkF_l (h1 : SqL K F0 a vs) (h2 : DpAll K F0 vs ds) : WalkF K (Itl K a) F0 ds where
  go := fun i F H hi s1 s2 => by
    rw [← DpAll.len h2] at hi
    exact ⟨vs, vs[i], (s1.trans s2).seq h1, by simp [hi]⟩
  yld := fun i F H x H' hi s1 s2 ⟨e, q⟩ => by
    subst e
    obtain ⟨d, e1, e2⟩ := DpAll.getV h2 (q vs ((s1.trans s2).seq h1))
    exact ⟨d, F, e1, .refl s2, dpUp e2 s1⟩
  stop := fun F H s1 s2 => ⟨vs, (s1.trans s2).seq h1, by rw [DpAll.len h2]; exact Nat.le_refl _⟩
theorem walkF_t (h1 : SqT K F0 a vs) (h2 : DpAll K F0 vs ds) : WalkF K (Itt K a) F0 ds where
  go := fun i F H hi s1 s2 => by
    rw [← DpAll.len h2] at hi
    exact ⟨vs, vs[i], SqT_mono (s1.trans s2) h1, by simp [hi]⟩
  yld := fun i F H x H' hi s1 s2 ⟨e, q⟩ => by
    subst e
    obtain ⟨d, e1, e2⟩ := DpAll.getV h2 (q vs (SqT_mono (s1.trans s2) h1))
    exact ⟨d, F, e1, .refl s2, dpUp e2 s1⟩
  stop := fun F H s1 s2 => ⟨vs, SqT_mono (s1.trans s2) h1, by rw [DpAll.len h2]; exact Nat.le_refl _⟩
def charsD (z : Str) : List D := z.cps.toList.map fun c => .str ⟨#[c]⟩
theorem walkF_s (z : Str) : WalkF K (Its z) F0 (charsD z) where
  go := fun i F H hi s1 s2 => walk_str.goes i H (by simpa [charsD] using hi) trivial
  yld := fun i F H x H' hi s1 s2 h => by
    have hi' : i < z.cps.size := by simpa [charsD] using hi
    obtain ⟨e, c, e1, e2⟩ := walk_str.yields i H x H' hi' trivial h
    subst e e2
    exact ⟨_, F, by simp [charsD, e1], .refl s2, .str _⟩
  stop := fun F H s1 s2 => by
    have := (walk_str (z := z)).stops H trivial
    simpa [charsD] using this
def rangeD (lo : Int) (n : Nat) : List D := (List.range n).map fun i => .int (lo + (i : Nat))
theorem walkF_r (lo : Int) (n : Nat) : WalkF K (Itr lo n) F0 (rangeD lo n) where
  go := fun i F H hi s1 s2 => walk_range.goes i H (by simpa [rangeD] using hi) trivial
  yld := fun i F H x H' hi s1 s2 h => by
    have hi' : i < n := by simpa [rangeD] using hi
    obtain ⟨e, e1⟩ := walk_range.yields i H x H' hi' trivial h
    subst e e1
    exact ⟨_, F, by simp [rangeD, hi'], .refl s2, .int _⟩
  stop := fun F H s1 s2 => by
    have := (walk_range (lo := lo) (n := n)).stops H trivial
    simpa [rangeD] using this
def enumD : Nat → List D → List D
  | _, [] => []
  | n, d :: ds => .tuple [.int n, d] :: enumD (n + 1) ds
theorem enumD_len : ∀ (n : Nat) (ds : List D), (enumD n ds).length = ds.length
  | _, [] => rfl
  | n, d :: ds => by simp [enumD, enumD_len (n + 1) ds]
theorem enumD_get : ∀ (n i : Nat) (ds : List D) (d : D), ds[i]? = some d → (enumD n ds)[i]? = some (.tuple [.int (n + i : Nat), d])
  | n, i, [], d, h => by simp at h
  | n, 0, x :: ds, d, h => by simp at h; subst h; simp [enumD]
  | n, i + 1, x :: ds, d, h => by
    have := enumD_get (n + 1) i ds d (by simpa using h)
    simp only [enumD, List.getElem?_cons_succ, this]
    congr 3; congr 2; omega
def zipD : List D → List D → List D
  | x :: xs, y :: ys => .tuple [x, y] :: zipD xs ys
  | _, _ => []
@[simp] theorem zipD_nil (ys : List D) : zipD [] ys = [] := by cases ys <;> rfl
@[simp] theorem zipD_nil2 (ys : List D) : zipD ys [] = [] := by cases ys <;> rfl
@[simp] theorem zipD_cons (x y : D) (xs ys : List D) : zipD (x :: xs) (y :: ys) = .tuple [x, y] :: zipD xs ys := rfl
theorem zipD_len : ∀ (xs ys : List D), (zipD xs ys).length = min xs.length ys.length
  | [], ys => by simp
  | x :: xs, [] => by simp
  | x :: xs, y :: ys => by simp [zipD_len xs ys]
theorem zipD_get : ∀ (i : Nat) (xs ys : List D) (x y : D), xs[i]? = some x → ys[i]? = some y → (zipD xs ys)[i]? = some (.tuple [x, y])
  | i, [], ys, x, y, h, g => by simp at h
  | i, x :: xs, [], _, y, h, g => by simp at g
  | 0, a :: xs, b :: ys, x, y, h, g => by simp at h g; subst h g; rfl
  | i + 1, a :: xs, b :: ys, x, y, h, g => by
    have := zipD_get i xs ys x y (by simpa using h) (by simpa using g)
    simpa using this
theorem walkF_en {t : Bool} (h1 : Sqq t K F0 a vs) (h2 : DpAll K F0 vs ds) : WalkF K (Jen t K a) F0 (enumD 0 ds) where
  go := fun i F H hi s1 s2 => by
    rw [enumD_len, ← DpAll.len h2] at hi
    exact ⟨vs, vs[i], h1.mono (s1.trans s2), by simp [hi]⟩
  yld := fun i F H x H' hi s1 s2 ⟨T, y, e, hT, eH, q⟩ => by
    subst e eH
    obtain ⟨d, e1, e2⟩ := DpAll.getV h2 (q vs (h1.mono (s1.trans s2)))
    have x := Ext.frz s2 hT (.tup [.int (i : Nat), y])
    refine ⟨_, _, enumD_get 0 i ds d e1, x, ?_⟩
    rw [Nat.zero_add]
    exact .tup (SqT.of upd_same) (.cons (.int _) (.cons (dpUp e2 (s1.trans x.ff)) .nil))
  stop := fun F H s1 s2 => ⟨vs, h1.mono (s1.trans s2), by rw [enumD_len, DpAll.len h2]⟩
theorem walkF_zp {t u : Bool} (h1 : Sqq t K F0 a vs) (h2 : DpAll K F0 vs ds) (g1 : Sqq u K F0 b ws) (g2 : DpAll K F0 ws es) : WalkF K (Jzp t u K a b) F0 (zipD ds es) where
  go := fun i F H hi s1 s2 => by
    rw [zipD_len, ← DpAll.len h2, ← DpAll.len g2] at hi
    exact ⟨vs, ws, vs[i]'(by omega), ws[i]'(by omega), h1.mono (s1.trans s2), g1.mono (s1.trans s2), by simp, by simp⟩
  yld := fun i F H x H' hi s1 s2 ⟨T, y, z, e, hT, eH, q, q'⟩ => by
    subst e eH
    obtain ⟨d, e1, e2⟩ := DpAll.getV h2 (q vs (h1.mono (s1.trans s2)))
    obtain ⟨d', e1', e2'⟩ := DpAll.getV g2 (q' ws (g1.mono (s1.trans s2)))
    have x := Ext.frz s2 hT (.tup [y, z])
    exact ⟨_, _, zipD_get i ds es d d' e1 e1', x, .tup (SqT.of upd_same) (.cons (dpUp e2 (s1.trans x.ff)) (.cons (dpUp e2' (s1.trans x.ff)) .nil))⟩
  stop := fun F H s1 s2 => ⟨vs, ws, h1.mono (s1.trans s2), g1.mono (s1.trans s2), by rw [zipD_len, DpAll.len h2, DpAll.len g2]⟩
end
section
variable {X : Cx} {W : WX} {tg e e2 : Expr} {es : List Expr} {pos p : Pos} {f g : Ev → R D}
theorem PI.or {wi wj : TI} (h : PI X tg e wi) (h' : PI X tg e wj) : PI X tg e (fun σ H R => wi σ H R ∨ wj σ H R) := ⟨fun pins s σ H R I q => by
  rcases q with q | q
  · exact h.run pins s σ H R I q
  · exact h'.run pins s σ H R I q⟩
def itD : D → R (List D)
  | .list ds => .ok ds
  | .tuple ds => .ok ds
  | .str z => .ok (charsD z)
  | _ => .no
@[simp] theorem itD_list (ds : List D) : itD (.list ds) = .ok ds := rfl
@[simp] theorem itD_tup (ds : List D) : itD (.tuple ds) = .ok ds := rfl
@[simp] theorem itD_str (z : Str) : itD (.str z) = .ok (charsD z) := rfl
/-- go on by what the first part is -/
theorem Sm.choose {α β γ δ : Type} {P : Hp → α → β → Hp → Hp → Prop} {P2 : Hp → γ → δ → Hp → Hp → Prop} [Anti P2] {t : L2.St → Hp → (β → Hp → Prop) → Prop} {f : Ev → R α} (s : Sm X W P t f) {g : α → R γ} {F H : Hp} {σ : L2.St} {env : Ev} {fp : List Addr} {Q : δ → Hp → Prop} {G : Prop}
    (sat : Sat X.KK F H σ env fp) (h : Post X W P2 F H σ ((f env).bind g) Q) (no : (∀ T, t σ H T) → G)
    (k : ∀ a, f env = .ok a → (∀ T, (∀ v F1 H1, Sat X.KK F1 H1 σ env fp → P H a v F1 H1 → Ext F H F1 H1 → Post X W P2 F1 H1 σ (g a) Q → T v H1) → t σ H T) → G) : G := by
  cases e : f env with
  | no => rw [e] at h; exact h.elim
  | ok a =>
    refine k a e fun T hT => s F H σ env fp T sat ?_
    rw [e] at h ⊢
    exact fun v F' H' x p => hT v F' H' (sat.ext x) p x (Post.ext (show Post X W P2 F H σ (g a) Q from h) x)
  | ex c =>
    refine no fun T => s F H σ env fp T sat ?_
    rw [e] at h ⊢
    exact h
theorem di_seq (h : DF X W e f) : DI X W tg e (eB f itD) := by
  obtain ⟨t, p, s⟩ := h
  refine ⟨_, PI.or (pi_list p) (PI.or (pi_tup p) (pi_str p)), fun F H σ env fp Q sat hp => ?_⟩
  refine s.choose sat hp (fun z => .inl (z _)) fun d e k => ?_
  cases d with
  | list ds =>
    refine .inl (k _ fun v F1 H1 sat1 q _ h1 => ?_)
    obtain ⟨a, vs, rfl, q1, q2⟩ := dp_lst q
    exact ⟨a, rfl, ⟨vs, sat1.fh.seq q1⟩, h1 _ F1 H1 (.refl sat1.fh) (walkF_l q1 q2)⟩
  | tuple ds =>
    refine .inr (.inl (k _ fun v F1 H1 sat1 q _ h1 => ?_))
    obtain ⟨a, vs, rfl, q1, q2⟩ := dp_tup q
    exact ⟨a, rfl, ⟨vs, SqT_mono sat1.fh q1⟩, h1 _ F1 H1 (.refl sat1.fh) (walkF_t q1 q2)⟩
  | str z =>
    refine .inr (.inr (k _ fun v F1 H1 sat1 q _ h1 => ?_))
    cases dp_str q
    exact ⟨z, rfl, h1 _ F1 H1 (.refl sat1.fh) (walkF_s z)⟩
  | _ =>
    refine .inl (k _ fun v F1 H1 sat1 q _ h1 => h1.elim)
def rg1 : List D → R (List D)
  | [.int j] => guard (-(2 ^ 62) ≤ j ∧ j < 2 ^ 62) (.ok (rangeD 0 j.toNat))
  | _ => .no
theorem daf1 {K : Kw} {F : Hp} {d : D} {vs : List V} (h : DpAll K F vs [d]) : ∃ v, vs = [v] ∧ Dp K F v d := by
  cases h with | cons a b => cases b; exact ⟨_, rfl, a⟩
theorem daf2 {K : Kw} {F : Hp} {d d' : D} {vs : List V} (h : DpAll K F vs [d, d']) : ∃ v w, vs = [v, w] ∧ Dp K F v d ∧ Dp K F w d' := by
  cases h with | cons a b => cases b with | cons a' b' => cases b'; exact ⟨_, _, rfl, a, a'⟩
variable {fa : Ev → R (List D)}
theorem di_range1 (hg : Gl X "range") (hm : X.mg "range" = none) (h : DA X W [e] fa) (hs : starEach [e] X.env = [(false, eval e X.env)] := by rfl) : DI X W tg (.Call (.Name "range" p) [e] [] pos) (eB fa rg1) := by
  obtain ⟨t, pa, s⟩ := h
  refine ⟨_, pi_range1 hg hm pa hs, fun F H σ env fp Q sat hp => ?_⟩
  refine s.go sat hp fun ds vs F1 H1 sat1 q _ h1 => ?_
  unfold rg1 at h1
  split at h1
  · obtain ⟨c, h2⟩ := guard_post h1
    obtain ⟨v, rfl, w⟩ := daf1 q
    cases dp_int w
    exact ⟨_, rfl, c.1, c.2, h2 _ F1 H1 (.refl sat1.fh) (walkF_r _ _)⟩
  · exact h1.elim
def sqqD : D → Option (Bool × List D)
  | .list ds => some (false, ds)
  | .tuple ds => some (true, ds)
  | _ => none
theorem sqq_dp {K : Kw} {F : Hp} {v : V} {d : D} {t : Bool} {ds : List D} (h : Dp K F v d) (e : sqqD d = some (t, ds)) : ∃ a vs, v = .ref a ∧ Sqq t K F a vs ∧ DpAll K F vs ds := by
  cases d with
  | list es => cases e; exact dp_lst h
  | tuple es => cases e; exact dp_tup h
  | _ => cases e
def enArg : List D → R (List D)
  | [d] => match sqqD d with
    | some (_, ds) => .ok (enumD 0 ds)
    | none => .no
  | _ => .no
@[simp] theorem enArg_list (ds : List D) : enArg [.list ds] = .ok (enumD 0 ds) := rfl
@[simp] theorem enArg_tup (ds : List D) : enArg [.tuple ds] = .ok (enumD 0 ds) := rfl
def zpArg : List D → R (List D)
  | [d, e] => match sqqD d, sqqD e with
    | some (_, ds), some (_, es) => .ok (zipD ds es)
    | _, _ => .no
  | _ => .no
theorem di_enum {elts : List Expr} {kk : Nat} {tpos : Pos} (hg : Gl X "enumerate") (hm : X.mg "enumerate" = none) (h : DA X W [e] fa) (hs : starEach [e] X.env = [(false, eval e X.env)] := by rfl) : DI X W (.Tuple elts kk tpos) (.Call (.Name "enumerate" p) [e] [] pos) (eB fa enArg) := by
  obtain ⟨t, pa, s⟩ := h
  refine ⟨_, pi_en hg hm pa hs, fun F H σ env fp Q sat hp => ?_⟩
  refine s.go sat hp fun ds vs F1 H1 sat1 q _ h1 => ?_
  unfold enArg at h1
  split at h1
  · split at h1
    · rename_i t es e2
      obtain ⟨v, rfl, w⟩ := daf1 q
      obtain ⟨a, us, rfl, q1, q2⟩ := sqq_dp w e2
      exact ⟨t, a, us, rfl, q1.mono sat1.fh, h1 _ F1 H1 (.refl sat1.fh) (walkF_en q1 q2)⟩
    · exact h1.elim
  · exact h1.elim
theorem di_zip {elts : List Expr} {kk : Nat} {tpos : Pos} (hg : Gl X "zip") (hm : X.mg "zip" = none) (h : DA X W [e, e2] fa) (hs : starEach [e, e2] X.env = (false, eval e X.env) :: starEach [e2] X.env := by rfl)
    (hpl : (backTo pos (starEach [e2] X.env)).any (·.1) = false := by rfl) : DI X W (.Tuple elts kk tpos) (.Call (.Name "zip" p) [e, e2] [] pos) (eB fa zpArg) := by
  obtain ⟨t, pa, s⟩ := h
  refine ⟨_, pi_zp hg hm pa hs hpl, fun F H σ env fp Q sat hp => ?_⟩
  refine s.go sat hp fun ds vs F1 H1 sat1 q _ h1 => ?_
  unfold zpArg at h1
  split at h1
  · split at h1
    · rename_i t es u gs e2 e3
      obtain ⟨v, w, rfl, w1, w2⟩ := daf2 q
      obtain ⟨a, us, rfl, q1, q2⟩ := sqq_dp w1 e2
      obtain ⟨b, us', rfl, q3, q4⟩ := sqq_dp w2 e3
      exact ⟨t, u, a, b, us, us', rfl, q1.mono sat1.fh, q3.mono sat1.fh, h1 _ F1 H1 (.refl sat1.fh) (walkF_zp q1 q2 q3 q4)⟩
    · exact h1.elim
  · exact h1.elim
end
end Mir
end
set_option Elab.async false
set_option linter.all false
set_option maxRecDepth 100000
set_option maxHeartbeats 4000000
noncomputable section
namespace Mir
open PySem PySem.Spec L2

section
variable {K : Kw} {F H : Hp} {σ : L2.St} {env : Ev} {fp : List Addr}
/-- store an own value; fx: the value's new footprint -/
theorem Sat.put (s : Sat K F H σ env fp) {i : Nat} (hi : i < env.length) {v : V} {o : Ow} {fx : List Addr} (h : OwnAt K F H v o fx) (nd : fx.Nodup) (dj : ∀ b ∈ fx, b ∉ fp) :
    ∃ fp', Sat K F H (σ.set i (some v)) (env.set i (some o)) fp' ∧ ∀ b ∈ fp', b ∈ fx ∨ b ∈ fp := by
  obtain ⟨fr, fo, a1, a2, a3, a4, a5, a6, a7⟩ := s.en.put hi s.nd
  obtain ⟨fp', b1, b2, b3⟩ := (a7 F H [] [] (StepS.of_ext (.refl s.fh) []) fun _ _ => by simp).2 v o fx h nd fun b hb z => dj b hb (a1 b z)
  exact ⟨fp', ⟨s.fh, b3, b1⟩, fun b hb => (b2 b hb).imp id (a1 b)⟩
end

def Off (ix : List Nat) (σ σ' : L2.St) : Prop := σ'.length = σ.length ∧ ∀ j, j ∉ ix → σ'[j]? = σ[j]?
theorem Off.refl (σ : L2.St) (ix : List Nat) : Off ix σ σ := ⟨rfl, fun _ _ => rfl⟩
theorem Off.trans {ix jx : List Nat} {σ σ1 σ2 : L2.St} (a : Off ix σ σ1) (b : Off jx σ1 σ2) : Off (ix ++ jx) σ σ2 :=
  ⟨b.1.trans a.1, fun j h => (b.2 j fun z => h (List.mem_append_right _ z)).trans (a.2 j fun z => h (List.mem_append_left _ z))⟩
/-- the reading of a target, by its mirror -/
def tgOf (K : Kw) (ix : List Nat) (g : D → Ev → Option Ev) : TG := fun v σ H Q => ∃ F env fp d env', Sat K F H σ env fp ∧ Dp K F v d ∧ g d env = some env' ∧ ∀ σ' fp', Sat K F H σ' env' fp' → (∀ b ∈ fp', b ∈ fp) → Off ix σ σ' → Q σ' H
def tgsOf (K : Kw) (ix : List Nat) (g : List D → Ev → Option Ev) : TGs := fun v σ H Q => ∃ F env fp d env', Sat K F H σ env fp ∧ DpAll K F v d ∧ g d env = some env' ∧ ∀ σ' fp', Sat K F H σ' env' fp' → (∀ b ∈ fp', b ∈ fp) → Off ix σ σ' → Q σ' H
def DG (X : Cx) (tg : Expr) (ix : List Nat) (g : D → Ev → Option Ev) : Prop := PG X tg (tgOf X.KK ix g)
def DGs (X : Cx) (tg : List Expr) (ix : List Nat) (g : List D → Ev → Option Ev) : Prop := PGs X tg (tgsOf X.KK ix g)
theorem PG.imp {X : Cx} {tg : Expr} {t t' : TG} (h : PG X tg t) (k : ∀ v σ H Q, t' v σ H Q → t v σ H Q) : PG X tg t' := ⟨fun pins s σ H v u Q I r q => h.run pins s σ H v u Q I r (k v σ H Q q)⟩
theorem PGs.imp {X : Cx} {tg : List Expr} {t t' : TGs} (h : PGs X tg t) (k : ∀ v σ H Q, t' v σ H Q → t v σ H Q) : PGs X tg t' := ⟨fun pins s σ H v u Q I r q => h.run pins s σ H v u Q I r (k v σ H Q q)⟩
def gtName (i : Nat) (d : D) (env : Ev) : Option Ev := if i < env.length then some (env.set i (some (.d d))) else none
def gtNil : List D → Ev → Option Ev
  | [], env => some env
  | _, _ => none
def gtCons (g : D → Ev → Option Ev) (h : List D → Ev → Option Ev) : List D → Ev → Option Ev
  | d :: ds, env => (g d env).bind (h ds)
  | _, _ => none
def gtTup (n : Nat) (h : List D → Ev → Option Ev) : D → Ev → Option Ev
  | .tuple ds, env => if ds.length = n then h ds env else none
  | _, _ => none
section
variable {X : Cx} {e : Expr} {es : List Expr} {pos : Pos}
theorem dg_name (i : Nat) {x : Str} (hN : X.N.Nodup) (hi : X.N[i]? = some x := by rfl) (hx : Loc X.env.scope x := by first | exact Or.inl rfl | exact Or.inr rfl) (hf : X.fn x = true ∨ X.env.scope.names.lookup x = some .local := by first | exact .inl rfl | exact .inr rfl | assumption) : DG X (.Name x pos) [i] (gtName i) := by
  refine PG.imp (pg_name hN hi hx hf) ?_
  rintro v σ H Q ⟨F, env, fp, d, env', sat, hd, he, q⟩
  unfold gtName at he
  split at he
  · cases he
    obtain ⟨fp', s', h'⟩ := sat.put ‹_› (OwnAt.d hd) List.nodup_nil (fun _ z => nomatch z)
    exact q _ fp' s' (fun b hb => (h' b hb).elim (fun z => nomatch z) id) ⟨by simp, fun j hj => List.getElem?_set_ne (fun z => hj (by simp [z]))⟩
  · cases he
theorem dgs_nil : DGs X [] [] gtNil := by
  refine PGs.imp pgs_nil ?_
  rintro v σ H Q ⟨F, env, fp, d, env', sat, hd, he, q⟩
  cases d with
  | nil => cases hd; cases he; exact ⟨rfl, q σ fp sat (fun _ z => z) (.refl _ _)⟩
  | cons d ds => cases he
theorem dgs_cons {ix jx : List Nat} {g : D → Ev → Option Ev} {h : List D → Ev → Option Ev} (h1 : DG X e ix g) (h2 : DGs X es jx h) (hs : (assignEach (e :: es) X.env).map (·.2) = assign e X.env :: (assignEach es X.env).map (·.2) := by rfl) : DGs X (e :: es) (ix ++ jx) (gtCons g h) := by
  refine PGs.imp (pgs_cons h1 h2 hs) ?_
  rintro v σ H Q ⟨F, env, fp, d, env', sat, hd, he, q⟩
  cases d with
  | nil => cases he
  | cons d ds =>
    cases hd with
    | cons d1 d2 =>
      cases e1 : g d env with
      | none => unfold gtCons at he; simp only at he; rw [e1] at he; cases he
      | some env1 =>
        unfold gtCons at he; simp only at he; rw [e1] at he
        refine ⟨_, _, rfl, F, env, fp, d, env1, sat, d1, e1, fun σ1 fp1 sat1 sub1 o1 => ?_⟩
        exact ⟨F, env1, fp1, ds, env', sat1, d2, he, fun σ2 fp2 sat2 sub2 o2 => q σ2 fp2 sat2 (fun b hb => sub1 b (sub2 b hb)) (o1.trans o2)⟩
theorem dg_tup {k n : Nat} {ix : List Nat} {h : List D → Ev → Option Ev} (hc : X.calm = true) (hs : DGs X es ix h) (hn : (assignEach es X.env).length = n := by rfl) (hst : (assignEach es X.env).findIdx? (·.1) = none := by rfl) : DG X (.Tuple es k pos) ix (gtTup n h) := by
  refine PG.imp (pg_tup hc hs hn hst) ?_
  rintro v σ H Q ⟨F, env, fp, d, env', sat, hd, he, q⟩
  unfold gtTup at he
  split at he
  · split at he
    · rename_i ds c
      obtain ⟨a, vs, rfl, h1, h2⟩ := dp_tup hd
      exact ⟨a, vs, rfl, SqT_mono sat.fh h1, (DpAll.len h2).trans c, F, env, fp, ds, env', sat, h2, he, q⟩
    · cases he
  · cases he
end

inductive SR where
  | no
  | nx (env : Ev)
  | rt (r : Ow) (env : Ev)
  | bk (env : Ev)
  | ct (env : Ev)
  | ex (c : Str) (env : Ev)
def SR.andThen : SR → (Ev → SR) → SR
  | .nx env, f => f env
  | r, _ => r
@[simp] theorem SR.andThen_nx (env : Ev) (f : Ev → SR) : (SR.nx env).andThen f = f env := rfl
@[simp] theorem SR.andThen_rt (r : Ow) (env : Ev) (f : Ev → SR) : (SR.rt r env).andThen f = .rt r env := rfl
@[simp] theorem SR.andThen_ex (c : Str) (env : Ev) (f : Ev → SR) : (SR.ex c env).andThen f = .ex c env := rfl
@[simp] theorem SR.andThen_bk (env : Ev) (f : Ev → SR) : (SR.bk env).andThen f = .bk env := rfl
@[simp] theorem SR.andThen_ct (env : Ev) (f : Ev → SR) : (SR.ct env).andThen f = .ct env := rfl
@[simp] theorem SR.andThen_no (f : Ev → SR) : SR.no.andThen f = .no := rfl
/-- a pure part, then a statement's outcome -/
def R.st {α : Type} (env : Ev) : R α → (α → SR) → SR
  | .no, _ => .no
  | .ok a, f => f a
  | .ex c, _ => .ex c env
@[simp] theorem R.st_ok {α : Type} (env : Ev) (a : α) (f : α → SR) : (R.ok a).st env f = f a := rfl
@[simp] theorem R.st_ex {α : Type} (env : Ev) (c : Str) (f : α → SR) : (R.ex c : R α).st env f = .ex c env := rfl
/-- S: the slots that may be stored -/
def OffS (S : Nat → Bool) (σ σ' : L2.St) : Prop := ∀ j, S j = false → σ'[j]? = σ[j]?
theorem OffS.refl (S : Nat → Bool) (σ : L2.St) : OffS S σ σ := fun _ _ => rfl
theorem OffS.trans {S : Nat → Bool} {σ σ1 σ2 : L2.St} (a : OffS S σ σ1) (b : OffS S σ1 σ2) : OffS S σ σ2 := fun j h => (b j h).trans (a j h)
theorem OffS.set {S : Nat → Bool} {σ : L2.St} {i : Nat} (h : S i = true) (x : Option V) : OffS S σ (σ.set i x) := fun j hj => List.getElem?_set_ne fun z => by rw [z, hj] at h; cases h
theorem OffS.of {S : Nat → Bool} {σ σ' : L2.St} {ix : List Nat} (h : Off ix σ σ') (k : ix.all S = true) : OffS S σ σ' := fun j hj => h.2 j fun z => by
  rw [List.all_eq_true] at k
  rw [k j z] at hj; cases hj
def PostS (X : Cx) (W : WX) (S : Nat → Bool) (σ0 : L2.St) (F H : Hp) (fp : List Addr) (D : Ends) : SR → Prop
  | .no => False
  | .nx env => ∀ σ F' H' fp', OffS S σ0 σ → StepS F H fp F' H' fp' → Sat X.KK F' H' σ env fp' → D.nx σ H'
  | .bk env => ∀ σ F' H' fp', OffS S σ0 σ → StepS F H fp F' H' fp' → Sat X.KK F' H' σ env fp' → D.bk σ H'
  | .ct env => ∀ σ F' H' fp', OffS S σ0 σ → StepS F H fp F' H' fp' → Sat X.KK F' H' σ env fp' → D.ct σ H'
  | .rt r env => ∀ v σ F' H' fx fp', OffS S σ0 σ → StepS F H fp F' H' (fx ++ fp') → Sat X.KK F' H' σ env fp' → OwnAt X.KK F' H' v r fx → (fx ++ fp').Nodup → D.rt v H'
  | .ex c env => ∀ C σ F' H' fp', X.mg c = some (.ref C) → OffS S σ0 σ → StepS F H fp F' H' fp' → Sat X.KK F' H' σ env fp' → W (.ref C) none σ H'
def SmS (X : Cx) (W : WX) (S : Nat → Bool) (t : TS) (f : Ev → SR) : Prop := ∀ F H σ env fp D, Sat X.KK F H σ env fp → PostS X W S σ F H fp D (f env) → t D σ H
def DS (X : Cx) (W : WX) (S : Nat → Bool) (st : Stmt) (f : Ev → SR) : Prop := ∃ t, PS X st t ∧ SmS X W S t f
def DSs (X : Cx) (W : WX) (S : Nat → Bool) (st : List Stmt) (f : Ev → SR) : Prop := ∃ t, PSs X st t ∧ SmS X W S t f
section
variable {X : Cx} {W : WX} {S : Nat → Bool} {σ0 σ1 : L2.St} {F H F1 H1 : Hp} {fp fp1 : List Addr} {D : Ends}
theorem PostS.step {r : SR} (h : PostS X W S σ0 F H fp D r) (o : OffS S σ0 σ1) (s : StepS F H fp F1 H1 fp1) : PostS X W S σ1 F1 H1 fp1 D r := by
  cases r with
  | no => exact h
  | nx env => exact fun σ F' H' fp' o' s' => h σ F' H' fp' (o.trans o') (s.trans s')
  | bk env => exact fun σ F' H' fp' o' s' => h σ F' H' fp' (o.trans o') (s.trans s')
  | ct env => exact fun σ F' H' fp' o' s' => h σ F' H' fp' (o.trans o') (s.trans s')
  | rt r env => exact fun v σ F' H' fx fp' o' s' => h v σ F' H' fx fp' (o.trans o') (s.trans s')
  | ex c env => exact fun C σ F' H' fp' m o' s' => h C σ F' H' fp' m (o.trans o') (s.trans s')
theorem PostS.ext {r : SR} (h : PostS X W S σ0 F H fp D r) (e : Ext F H F1 H1) : PostS X W S σ0 F1 H1 fp D r := h.step (.refl _ _) (StepS.of_ext e fp)
theorem PostS.sub {S' : Nat → Bool} {r : SR} (h : PostS X W S σ0 F H fp D r) (k : ∀ j, S j = false → S' j = false) : PostS X W S' σ0 F H fp D r := by
  have o : ∀ {σ : L2.St}, OffS S' σ0 σ → OffS S σ0 σ := fun o j hj => o j (k j hj)
  cases r with
  | no => exact h
  | nx env => exact fun σ F' H' fp' o' s' => h σ F' H' fp' (o o') s'
  | bk env => exact fun σ F' H' fp' o' s' => h σ F' H' fp' (o o') s'
  | ct env => exact fun σ F' H' fp' o' s' => h σ F' H' fp' (o o') s'
  | rt r env => exact fun v σ F' H' fx fp' o' s' => h v σ F' H' fx fp' (o o') s'
  | ex c env => exact fun C σ F' H' fp' m o' s' => h C σ F' H' fp' m (o o') s'
/-- a pure part within a statement -/
theorem Sm.st {α β : Type} {P : Hp → α → β → Hp → Hp → Prop} {t : L2.St → Hp → (β → Hp → Prop) → Prop} {f : Ev → R α} (s : Sm X W P t f) {g : α → SR} {σ : L2.St} {env : Ev} {T : β → Hp → Prop} (sat : Sat X.KK F H σ env fp)
    (h : PostS X W S σ F H fp D ((f env).st env g)) (k : ∀ a v F1 H1, Sat X.KK F1 H1 σ env fp → P H a v F1 H1 → Ext F H F1 H1 → PostS X W S σ F1 H1 fp D (g a) → T v H1) : t σ H T := by
  refine s F H σ env fp T sat ?_
  cases e : f env with
  | no => rw [e] at h; exact h
  | ok a =>
    rw [e] at h
    exact fun v F' H' x p => k a v F' H' (sat.ext x) p x (PostS.ext (show PostS X W S σ F H fp D (g a) from h) x)
  | ex c =>
    rw [e] at h
    exact fun C F' H' m x => h C σ F' H' fp m (.refl _ _) (StepS.of_ext x fp) (sat.ext x)
end
section
variable {X : Cx} {W : WX} {S : Nat → Bool} {st : Stmt} {sts : List Stmt} {e : Expr} {pos : Pos} {fs gs : Ev → SR}
def sSkip (env : Ev) : SR := .nx env
def sSeq (f g : Ev → SR) (env : Ev) : SR := (f env).andThen g
theorem dss_nil : DSs X W S [] sSkip := ⟨_, pss_nil, fun F H σ env fp D sat h => h σ F H fp (.refl _ _) (StepS.of_ext (.refl sat.fh) fp) sat⟩
theorem dss_one (h : DS X W S st fs) : DSs X W S [st] fs := by
  obtain ⟨t, p, s⟩ := h
  exact ⟨_, pss_one p, s⟩
theorem seq_sm {t u : TS} (s : SmS X W S t fs) (s' : SmS X W S u gs) : SmS X W S (tSeq t u) (sSeq fs gs) := by
  intro F H σ env fp D sat h
  refine s F H σ env fp _ sat ?_
  unfold sSeq at h
  cases e : fs env with
  | no => rw [e] at h; exact h
  | nx env1 =>
    rw [e] at h
    exact fun σ1 F1 H1 fp1 o1 st1 sat1 => s' F1 H1 σ1 env1 fp1 D sat1 (PostS.step (show PostS X W S σ F H fp D (gs env1) from h) o1 st1)
  | bk env1 => rw [e] at h; exact h
  | ct env1 => rw [e] at h; exact h
  | rt r env1 => rw [e] at h; exact h
  | ex c env1 => rw [e] at h; exact h
theorem dss_cons (h : DS X W S st fs) (h2 : DSs X W S sts gs) : DSs X W S (st :: sts) (sSeq fs gs) := by
  obtain ⟨t, p, s⟩ := h
  obtain ⟨t', p', s'⟩ := h2
  exact ⟨_, pss_cons p p', seq_sm s s'⟩
def sCont (env : Ev) : SR := .ct env
theorem ds_cont : DS X W S (.Continue pos) sCont := ⟨_, ps_continue, fun F H σ env fp D sat h => h σ F H fp (.refl _ _) (StepS.of_ext (.refl sat.fh) fp) sat⟩
/-- name = e -/
def sSet (i : Nat) (f : Ev → R Ow) (env : Ev) : SR := (f env).st env fun r => if i < env.length then .nx (env.set i (some r)) else .no
theorem fresh_dj {K : Kw} {H F' H' : Hp} {F : Hp} {σ : L2.St} {env : Ev} {fp fx : List Addr} (sat : Sat K F H σ env fp) (n : ∀ b ∈ fx, H b = none) : ∀ b ∈ fx, b ∉ fp := fun b hb z => by
  obtain ⟨_, vs, e⟩ := sat.en.there b z
  rw [n b hb] at e
  cases e
theorem put_step {K : Kw} {F H F1 H1 : Hp} {σ : L2.St} {env : Ev} {fp fx : List Addr} {i : Nat} {v : V} {r : Ow} (sat : Sat K F H σ env fp) (x : Ext F H F1 H1) (h : OwnAt K F1 H1 v r fx) (nd : fx.Nodup) (n : ∀ b ∈ fx, H b = none) (hi : i < env.length) :
    ∃ fp', StepS F H fp F1 H1 fp' ∧ Sat K F1 H1 (σ.set i (some v)) (env.set i (some r)) fp' := by
  obtain ⟨fp', s', h'⟩ := (sat.ext x).put hi h nd (fresh_dj (F' := F) (H' := H) sat n)
  exact ⟨fp', ⟨x.ff, fun b o e _ => x.hh b o e, fun b o e => (x.fn b o e).imp id .inr, fun b hb => (h' b hb).elim (fun z => .inr (n b z)) .inl⟩, s'⟩
theorem ds_set {f : Ev → R Ow} {x : Str} {pos' : Pos} (i : Nat) (hN : X.N.Nodup) (he : DE X W e f) (hi : X.N[i]? = some x := by rfl) (hx : Loc X.env.scope x := by first | exact Or.inl rfl | exact Or.inr rfl)
    (hs : swapsWith e (some (.Name x pos')) pos.line X.env = pure false := by rfl) (hf : X.fn x = true ∨ X.env.scope.names.lookup x = some .local := by first | exact .inl rfl | exact .inr rfl | assumption) (hS : S i = true := by rfl) : DS X W S (.Assign [.Name x pos'] e pos) (sSet i f) := by
  obtain ⟨t, p, s⟩ := he
  refine ⟨_, ps_set hN hi hx p hs hf, fun F H σ env fp D sat h => ?_⟩
  refine s F H σ env fp _ sat ?_
  unfold sSet at h
  cases e : f env with
  | no => rw [e] at h; exact h
  | ex c => rw [e] at h; exact fun C F' H' m x => h C σ F' H' fp m (.refl _ _) (StepS.of_ext x fp) (sat.ext x)
  | ok r =>
    rw [e] at h
    intro v F' H' x ⟨fx, q, nd, n⟩
    have h' : PostS X W S σ F H fp D (if i < env.length then .nx (env.set i (some r)) else .no) := h
    split at h'
    · obtain ⟨fp', s1, s2⟩ := put_step sat x q nd n ‹_›
      exact h' _ F' H' fp' (.set hS _) s1 s2
    · exact h'.elim
/-- targets = e, e frozen -/
def sAsg (g : D → Ev → Option Ev) (f : Ev → R D) (env : Ev) : SR := (f env).st env fun d => match g d env with
  | some env' => .nx env'
  | none => .no
theorem ds_asg {f : Ev → R D} {g : D → Ev → Option Ev} {tg : Expr} {ix : List Nat} (he : DF X W e f) (hg : DG X tg ix g) (hs : swapsWithSole [tg] e pos.line X.env = pure false := by rfl) (hw : swappedStores [tg] e X.env = pure none := by rfl)
    (h1 : (assignEach [tg] X.env).map (·.2) = [assign tg X.env] := by rfl) (hS : ix.all S = true := by rfl) : DS X W S (.Assign [tg] e pos) (sAsg g f) := by
  obtain ⟨t, p, s⟩ := he
  refine ⟨_, ps_asg p hg hs hw h1, fun F H σ env fp D sat h => ?_⟩
  refine s.st sat h fun d v F1 H1 sat1 q _ h1 => ?_
  split at h1
  · rename_i env' e
    exact ⟨F1, env, fp, d, env', sat1, q, e, fun σ' fp' sat' sub off => h1 σ' F1 H1 fp' (.of off hS) ((StepS.of_ext (.refl sat1.fh) fp).subset sub) sat'⟩
  · exact h1.elim
/-- an expression whose value is dropped -/
def sDrop (f : Ev → R D) (env : Ev) : SR := (f env).st env fun _ => .nx env
def sRet (f : Ev → R Ow) (env : Ev) : SR := (f env).st env fun r => .rt r env
theorem ds_ret {f : Ev → R Ow} (he : DE X W e f) : DS X W S (.Return (some e) pos) (sRet f) := by
  obtain ⟨t, p, s⟩ := he
  refine ⟨_, ps_ret p, fun F H σ env fp D sat h => ?_⟩
  refine s F H σ env fp _ sat ?_
  unfold sRet at h
  cases e : f env with
  | no => rw [e] at h; exact h
  | ex c => rw [e] at h; exact fun C F' H' m x => h C σ F' H' fp m (.refl _ _) (StepS.of_ext x fp) (sat.ext x)
  | ok r =>
    rw [e] at h
    intro v F' H' x ⟨fx, q, nd, n⟩
    have dj := fresh_dj (F' := F) (H' := H) sat n
    refine h v σ F' H' fx fp (.refl _ _) ⟨x.ff, fun b o e _ => x.hh b o e, fun b o e => (x.fn b o e).imp id .inr, fun b hb => ?_⟩ (sat.ext x) q ?_
    · rcases List.mem_append.mp hb with z | z
      · exact .inr (n b z)
      · exact .inl z
    · rw [List.nodup_append]; exact ⟨nd, sat.nd, fun a ha b hb e => dj a ha (e ▸ hb)⟩
def sRetN (env : Ev) : SR := .rt (.d .none) env
/-- return x, x given away -/
def sRetV (i : Nat) (env : Ev) : SR := match env[i]? with
  | some (some o) => .rt o (env.set i none)
  | _ => .no
theorem ds_retV (i : Nat) {x : Str} {pos' : Pos} (hN : X.N[i]? = some x := by rfl) (hv : Vis X.env.scope x := by first | exact Or.inl rfl | exact Or.inr (Or.inl rfl) | exact Or.inr (Or.inr rfl)) (hd : (x == ("__debug__" : Str)) = false := by decide)
    (hcd : (x == ("__classdict__" : Str)) = false := by decide) : DS X W S (.Return (some (.Name x pos')) pos) (sRetV i) := by
  refine ⟨_, ps_ret (pe_var hN hv hd hcd), fun F H σ env fp D sat h => ?_⟩
  unfold sRetV at h
  split at h
  · rename_i o he
    have hi : i < env.length := (List.getElem?_eq_some_iff.mp he).1
    obtain ⟨fr, fo, a1, a2, a3, a3', a4, a5, a6⟩ := sat.en.put hi sat.nd
    obtain ⟨v, e1, e2⟩ := a5 o he
    have e3 := (a6 F H [] [] (StepS.of_ext (.refl sat.fh) []) fun _ _ => by simp).1 (some v)
    have es : σ.set i (some v) = σ := by
      refine List.ext_getElem? fun j => ?_
      by_cases hj : i = j
      · subst hj
        rw [List.getElem?_set_self (List.getElem?_eq_some_iff.mp e1).1]
        exact e1.symm
      · rw [List.getElem?_set_ne hj]
    rw [es] at e3
    refine ⟨v, e1, h v _ F H fo fr (.refl _ _) ((StepS.of_ext (.refl sat.fh) fp).subset fun b hb => ?_) ⟨sat.fh, e3, a3⟩ e2 ?_⟩
    · exact (List.mem_append.mp hb).elim (a2 b) (a1 b)
    · rw [List.nodup_append]; exact ⟨a3', a3, fun a ha b hb e => a4 a ha (e ▸ hb)⟩
  · exact h.elim
/-- a def's own list made data, ahead of a statement -/
def frzV (i : Nat) (env : Ev) : Ev := match env[i]? with
  | some (some o) => env.set i (some (.d (viewD o)))
  | _ => env
theorem frz_sat {K : Kw} {F H : Hp} {σ : L2.St} {env : Ev} {fp : List Addr} (i : Nat) (sat : Sat K F H σ env fp) : ∃ F' fp', StepS F H fp F' H fp' ∧ Sat K F' H σ (frzV i env) fp' := by
  unfold frzV
  split
  · rename_i o he
    have hi : i < env.length := (List.getElem?_eq_some_iff.mp he).1
    obtain ⟨fr, fo, a1, a2, a3, a3', a4, a5, a6⟩ := sat.en.put hi sat.nd
    obtain ⟨v, e1, e2⟩ := a5 o he
    have nx : ∀ b ∈ fo, F b = none := fun b hb => (OwnAt.there _ _ _ e2 b hb).1
    have st : StepS F H fo (frzAt F H fo) H [] := ⟨frzAt_same nx, fun b o e _ => e, fun b o e => (frzAt_of e).imp id .inl, fun b z => nomatch z⟩
    obtain ⟨fp', b1, b2, b3⟩ := (a6 (frzAt F H fo) H fo [] st fun b hb z => a4 b z hb).2 v _ [] (.d (OwnAt.frz nx _ _ _ e2 fun _ z => z)) List.nodup_nil (fun _ z => nomatch z)
    have es : σ.set i (some v) = σ := by
      refine List.ext_getElem? fun j => ?_
      by_cases hj : i = j
      · subst hj
        rw [List.getElem?_set_self (by rw [sat.en.len]; exact hi)]
        exact e1.symm
      · rw [List.getElem?_set_ne hj]
    rw [es] at b3
    exact ⟨_, fp', ⟨frzAt_same nx, fun b o e _ => e, fun b o e => (frzAt_of e).imp id fun z => .inl (a2 b z), fun b hb => .inl ((b2 b hb).elim (fun z => nomatch z) (a1 b))⟩, ⟨frzAt_in sat.fh, b3, b1⟩⟩
  · exact ⟨F, fp, StepS.of_ext (.refl sat.fh) fp, sat⟩
def sFrz (i : Nat) (f : Ev → SR) (env : Ev) : SR := f (frzV i env)
theorem frz_sm {t : TS} (i : Nat) (s : SmS X W S t fs) : SmS X W S t (sFrz i fs) := by
  intro F H σ env fp D sat h
  obtain ⟨F', fp', s1, s2⟩ := frz_sat i sat
  exact s F' H σ _ fp' D s2 (PostS.step h (.refl _ _) s1)
theorem ds_frz (i : Nat) (h : DS X W S st fs) : DS X W S st (sFrz i fs) := by
  obtain ⟨t, p, s⟩ := h
  exact ⟨t, p, frz_sm i s⟩
def sIf (c : Ev → R Bool) (f g : Ev → SR) (env : Ev) : SR := (c env).st env fun b => if b = true then f env else g env
theorem ds_if {c : Expr} {a b : List Stmt} {fc : Ev → R Bool} (hc : DT X W c fc) (ha : DSs X W S a fs) (hb : DSs X W S b gs) : DS X W S (.If c a b pos) (sIf fc fs gs) := by
  obtain ⟨t, p, s⟩ := hc
  obtain ⟨ta, pa, sa⟩ := ha
  obtain ⟨tb, pb, sb⟩ := hb
  refine ⟨_, ps_if p pa pb, fun F H σ env fp D sat h => ?_⟩
  refine s.st sat h fun k v F1 H1 sat1 q _ h1 => ?_
  obtain rfl : v = k := q
  cases v with
  | true => exact sa F1 H1 σ env fp D sat1 h1
  | false => exact sb F1 H1 σ env fp D sat1 h1
/-- for target in ..: body -/
def forL (g : D → Ev → Option Ev) (f : Ev → SR) : List D → Ev → SR
  | [], env => .nx env
  | d :: ds, env => match g d env with
    | none => .no
    | some env1 => match f env1 with
      | .nx env2 => forL g f ds env2
      | .ct env2 => forL g f ds env2
      | .bk env2 => .nx env2
      | .rt r env2 => .rt r env2
      | .ex c env2 => .ex c env2
      | .no => .no
def sFor (it : Ev → R (List D)) (g : D → Ev → Option Ev) (f : Ev → SR) (env : Ev) : SR := (it env).st env fun ds => forL g f ds env
theorem ds_for {tg iter : Expr} {body : List Stmt} {fi : Ev → R (List D)} {g : D → Ev → Option Ev} (hp : PassesOwn (model X.prog X.w) X.A X.env X.xe) (hc : X.calm = true) {ix : List Nat} (hi : DI X W tg iter fi) (hg : DG X tg ix g) (hb : DSs X W S body fs)
    (hs : ∀ x, foldedSetIterable iter X.env x = pure x := by intro _; rfl) (hS : ix.all S = true := by rfl) : DS X W S (.For tg iter body [] pos) (sFor fi g fs) := by
  obtain ⟨wi, pi, si⟩ := hi
  obtain ⟨tb, pb, sb⟩ := hb
  refine ⟨_, ps_for hp hc pi hg pb hs, fun F H σ env fp D sat h => ?_⟩
  refine si.st sat h fun items J F1 H1 sat1 wk _ h1 => ?_
  have wk : WalkF X.KK J F1 items := wk
  refine ⟨fun i m σ' H' => m = items.length - i ∧ i ≤ items.length ∧ ∃ F' env' fp', Same F1 F' ∧ Sat X.KK F' H' σ' env' fp' ∧ PostS X W S σ' F' H' fp' D (forL g fs (items.drop i) env'),
    ⟨items.length, by simp, Nat.zero_le _, F1, env, fp, Same.refl _, sat1, h1⟩, ?_⟩
  rintro i m σ' H' ⟨rfl, hi, F', env', fp', st, sat', h2⟩
  by_cases hlt : i < items.length
  · refine .inr ⟨wk.go i F' H' hlt st sat'.fh, fun σ2 H2 => ∃ F2 env2 fp2, Same F1 F2 ∧ Sat X.KK F2 H2 σ2 env2 fp2 ∧ PostS X W S σ2 F2 H2 fp2 D (forL g fs (items.drop (i + 1)) env2), ?_, ?_⟩
    · rintro σ2 H2 ⟨F2, env2, fp2, a, b, c⟩
      exact ⟨items.length - (i + 1), by omega, rfl, hlt, F2, env2, fp2, a, b, c⟩
    · intro x H3 y
      obtain ⟨d, F3, e1, x3, dp⟩ := wk.yld i F' H' x H3 hlt st sat'.fh y
      have ed : items.drop i = d :: items.drop (i + 1) := by
        rw [List.drop_eq_getElem_cons hlt]
        have : items[i] = d := by rw [List.getElem?_eq_getElem hlt] at e1; exact Option.some.inj e1
        rw [this]
      rw [ed] at h2
      unfold forL at h2
      cases eg : g d env' with
      | none => rw [eg] at h2; exact h2.elim
      | some env1 =>
        rw [eg] at h2
        simp only at h2
        refine ⟨F3, env', fp', d, env1, sat'.ext x3, dp, eg, fun σ4 fp4 sat4 sub4 off4 => ?_⟩
        have st4 : StepS F' H' fp' F3 H3 fp4 := (StepS.of_ext x3 fp').subset sub4
        have h4 := PostS.step h2 (.of off4 hS) st4
        refine sb F3 H3 σ4 env1 fp4 _ sat4 ?_
        cases ef : fs env1 with
        | no => rw [ef] at h4; exact h4
        | nx env2 => rw [ef] at h4; exact fun σ5 F5 H5 fp5 o5 s5 sat5 => ⟨F5, env2, fp5, st.trans (x3.ff.trans s5.ff), sat5, PostS.step h4 o5 s5⟩
        | ct env2 => rw [ef] at h4; exact fun σ5 F5 H5 fp5 o5 s5 sat5 => ⟨F5, env2, fp5, st.trans (x3.ff.trans s5.ff), sat5, PostS.step h4 o5 s5⟩
        | bk env2 => rw [ef] at h4; exact h4
        | rt r env2 => rw [ef] at h4; exact h4
        | ex c env2 => rw [ef] at h4; exact h4
  · have e : i = items.length := by omega
    subst e
    rw [List.drop_length] at h2
    exact .inl ⟨wk.stop F' H' st sat'.fh, h2 σ' F' H' fp' (.refl _ _) (StepS.of_ext (.refl sat'.fh) fp') sat'⟩
/-- while c: body, at most n turns -/
def whileN (c : Ev → R Bool) (f : Ev → SR) : Nat → Ev → SR
  | 0, _ => .no
  | n + 1, env => (c env).st env fun b => if b = true then (match f env with
      | .nx env2 => whileN c f n env2
      | .ct env2 => whileN c f n env2
      | .bk env2 => .nx env2
      | .rt r env2 => .rt r env2
      | .ex c env2 => .ex c env2
      | .no => .no) else .nx env
theorem ds_while {c : Expr} {body : List Stmt} {fc : Ev → R Bool} (n : Nat) (hp : PassesOwn (model X.prog X.w) X.A X.env X.xe) (hc : DT X W c fc) (hb : DSs X W S body fs) : DS X W S (.While c body [] pos) (whileN fc fs n) := by
  obtain ⟨tc, pc, sc⟩ := hc
  obtain ⟨tb, pb, sb⟩ := hb
  refine ⟨_, ps_while hp pc pb, fun F H σ env fp D sat h => ?_⟩
  refine ⟨fun m σ' H' => ∃ F' env' fp', Sat X.KK F' H' σ' env' fp' ∧ PostS X W S σ' F' H' fp' D (whileN fc fs m env'), ⟨n, F, env, fp, sat, h⟩, ?_⟩
  rintro m σ' H' ⟨F', env', fp', sat', h2⟩
  cases m with
  | zero => exact h2.elim
  | succ m =>
    unfold whileN at h2
    refine sc.st sat' h2 fun k v F1 H1 sat1 q x1 h3 => ?_
    obtain rfl : v = k := q
    cases v with
    | false => exact h3 σ' F1 H1 fp' (.refl _ _) (StepS.of_ext (.refl sat1.fh) fp') sat1
    | true =>
      rw [if_pos rfl] at h3 ⊢
      refine ⟨fun σ5 H5 => ∃ F5 env2 fp5, Sat X.KK F5 H5 σ5 env2 fp5 ∧ PostS X W S σ5 F5 H5 fp5 D (whileN fc fs m env2), fun σ5 H5 z => ⟨m, Nat.lt_succ_self m, z⟩, ?_⟩
      refine sb F1 H1 σ' env' fp' _ sat1 ?_
      cases ef : fs env' with
      | no => rw [ef] at h3; exact h3
      | nx env2 => rw [ef] at h3; exact fun σ5 F5 H5 fp5 o5 s5 sat5 => ⟨F5, env2, fp5, sat5, PostS.step h3 o5 s5⟩
      | ct env2 => rw [ef] at h3; exact fun σ5 F5 H5 fp5 o5 s5 sat5 => ⟨F5, env2, fp5, sat5, PostS.step h3 o5 s5⟩
      | bk env2 => rw [ef] at h3; exact h3
      | rt r env2 => rw [ef] at h3; exact h3
      | ex c env2 => rw [ef] at h3; exact h3
end
end Mir
end
set_option Elab.async false
set_option linter.all false
set_option maxRecDepth 100000
set_option maxHeartbeats 4000000
noncomputable section
namespace Mir
open PySem PySem.Spec L2

def PostF (K : Kw) (mg : Str → Option Value) (F H : Hp) : R Ow → VK → XK → Prop
  | .no, _, _ => False
  | .ok r, Q, _ => ∀ v F' H', Ext F H F' H' → POw K H r v F' H' → Q v H'
  | .ex c, _, E => ∀ C F' H', mg c = some (.ref C) → Ext F H F' H' → E (.ref C) none H'
def spM (K : Kw) (mg : Str → Option Value) (n : Nat) (m : List D → R Ow) : Sp := fun vs H Q E => ∃ F ds, Same F H ∧ DpAll K F vs ds ∧ ds.length = n ∧ PostF K mg F H (m ds) Q E
theorem spM_len {K : Kw} {mg : Str → Option Value} {n : Nat} {m : List D → R Ow} {vs : List V} {H : Hp} {Q : VK} {E : XK} (h : spM K mg n m vs H Q E) : vs.length = n := by
  obtain ⟨F, ds, _, h1, h2, _⟩ := h
  rw [DpAll.len h1, h2]
def envOf (k : Nat) (ds : List D) : Ev := ds.map (fun d => some (Ow.d d)) ++ List.replicate k none
def runB (k : Nat) (f : Ev → SR) (ds : List D) : R Ow := match f (envOf k ds) with
  | .nx _ => .ok (.d .none)
  | .rt r _ => .ok r
  | .ex c _ => .ex c
  | _ => .no
theorem env_start {K : Kw} {F H : Hp} (k : Nat) : ∀ {vs : List V} {ds : List D}, DpAll K F vs ds → EnvAt K F H (vs.map some ++ List.replicate k none) (envOf k ds) []
  | vs, [], h => by
    cases h
    show EnvAt K F H (List.replicate k none) (List.replicate k none) []
    induction k with
    | zero => exact .nil
    | succ k ih => exact .non ih
  | vs, d :: ds, h => by
    cases h with
    | cons h1 h2 => exact .som (fp := []) (.d h1) (env_start k h2)
section
variable {P : Program} {w : World} {K : PySem.W.Frag} {mg : Str → Option Value} {base : Heap}
theorem mk_fn {x qual : Str} {st : Stmt} {f : Addr} {fd : FuncData} {N ps : List Str} {k l : Nat} {fb : Ev → SR} {m : List D → R Ow} (F : Fun K x qual st f fd) (S : FnScope N ps (defScope st)) (hl : N.length = ps.length + l) (hm : ∀ ds, m ds = runB l fb ds)
    (hb : ∀ (cdv : Value) (A : Around) (outer : List Env) (s : Shared) (H : Hp) (E : XK), Room k (A.deeper (PyProof.Rows.envOfC qual (defScope st) s.heap.objs.size f cdv)) →
      DSs (cxOf (L2.CX P w) P w K mg base N qual (defScope st) f cdv A outer s H E) (fun cls d _ H => E cls d H) (fun _ => true) (defBody st) fb) : FnOk P w K mg base (L2.CX P w) (k + 1) f fd ps (spM ⟨K, w⟩ mg ps.length m) := by
  refine F.okX S (fun vs H Q E h => spM_len h) (fun cdv A outer s H vs Q E hr h => ?_)
  obtain ⟨t, p, sm⟩ := hb cdv A outer s H E hr
  refine ⟨t, p, ?_⟩
  have hlen := spM_len h
  obtain ⟨F0, ds, s1, s2, s3, s4⟩ := h
  have e0 : start N vs = vs.map some ++ List.replicate l none := by
    show vs.map some ++ List.replicate (N.length - vs.length) none = _
    rw [hl, hlen, Nat.add_sub_cancel_left]
  rw [e0]
  have sat : Sat ⟨K, w⟩ F0 H (vs.map some ++ List.replicate l none) (envOf l ds) [] := ⟨s1, env_start l s2, List.nodup_nil⟩
  rw [hm] at s4
  unfold runB at s4
  have ext : ∀ {F' H' : Hp} {fp' : List Addr}, StepS F0 H [] F' H' fp' → Same F' H' → Ext F0 H F' H' := fun st sf => ⟨st.ff, fun b o e => st.fr b o e (by simp), fun b o e => (st.fn b o e).imp id fun z => z.elim (fun z => nomatch z) id, sf⟩
  refine sm F0 H _ _ [] _ sat ?_
  cases e : fb (envOf l ds) with
  | no => rw [e] at s4; exact s4
  | bk env => rw [e] at s4; exact s4.elim
  | ct env => rw [e] at s4; exact s4.elim
  | nx env => rw [e] at s4; exact fun σ' F' H' fp' _ st sat' => s4 .non F' H' (ext st sat'.fh) (own_d .non)
  | rt r env =>
    rw [e] at s4
    intro v σ' F' H' fx fp' _ st sat' ow nd
    refine s4 v F' H' (ext st sat'.fh) ⟨fx, ow, (List.nodup_append.mp nd).1, fun b hb => ?_⟩
    exact (st.sub b (List.mem_append_left _ hb)).elim (fun z => nomatch z) id
  | ex c env => rw [e] at s4; exact fun C σ' F' H' fp' m _ st sat' => s4 C F' H' m (ext st sat'.fh)
end
section
variable {X : Cx} {W : WX} {e : Expr} {es : List Expr} {pos p : Pos}
theorem de_call {k n : Nat} {f : Addr} {fd : FuncData} {ps : List Str} {x : Str} {m : List D → R Ow} {fa : Ev → R (List D)} (F : FnOk X.prog X.w X.K X.mg X.base (L2.CX X.prog X.w) k f fd ps (spM X.KK X.mg n m)) (tk : Takes X W) (hr : Room k X.A) (hg : Gl X x) (hm : X.mg x = some (.ref f))
    (hk : PySem.W.keepIn X.K (.ref f) = true) (hb : Binds X.K fd ps []) (ha : DA X W (e :: es) fa) (hn : ∀ ds env, fa env = .ok ds → ds.length = n)
    (hdb : (x == ("__debug__" : Str)) = false := by decide) (he : starEach (e :: es) X.env = (false, eval e X.env) :: starEach es X.env := by rfl) (hpl : (backTo pos (starEach es X.env)).any (·.1) = false := by rfl) :
    DE X W (.Call (.Name x p) (e :: es) [] pos) (eB fa m) := by
  obtain ⟨t, pa, s⟩ := ha
  refine ⟨_, pe_callS F hr hg hm hk hb (fun σ => passAt tk σ) pa hdb he hpl, fun F0 H σ env fp Q sat hp => ?_⟩
  refine s.choose sat hp (fun z => z _) fun ds ed k => k _ fun vs F1 H1 sat1 q _ h1 => ?_
  refine ⟨F1, ds, sat1.fh, q, hn ds env ed, ?_⟩
  cases em : m ds with
  | no => rw [em] at h1; exact h1
  | ok r => rw [em] at h1; exact h1
  | ex c => rw [em] at h1; exact h1
theorem aNil_len {ds : List D} {env : Ev} (h : aNil env = .ok ds) : ds.length = 0 := by cases h; rfl
theorem aCons_len {n : Nat} {f : Ev → R D} {g : Ev → R (List D)} (ih : ∀ ds env, g env = .ok ds → ds.length = n) : ∀ ds env, aCons f g env = .ok ds → ds.length = n + 1 := fun ds env h => by
  unfold aCons at h
  cases e1 : f env with
  | no => rw [e1] at h; cases h
  | ex c => rw [e1] at h; cases h
  | ok d =>
    rw [e1] at h
    have h' : (g env).map (fun ds => d :: ds) = .ok ds := h
    cases e2 : g env with
    | no => rw [e2] at h'; cases h'
    | ex c => rw [e2] at h'; cases h'
    | ok es =>
      rw [e2] at h'
      cases h'
      simp [ih es env e2]

/-- the reading that a mirror is -/
def tOf (K : Kw) (Pst : Hp → Hp → L2.St → R α → (β → Hp → Prop) → Prop) (f : Ev → R α) : L2.St → Hp → (β → Hp → Prop) → Prop := fun σ H Q => ∃ F env fp, Sat K F H σ env fp ∧ Pst F H σ (f env) Q
def W0 : WX := fun _ _ _ _ => False
theorem PE.imp {X : Cx} {e : Expr} {t t' : TE} (h : PE X e t) (k : ∀ σ H Q, t' σ H Q → t σ H Q) : PE X e t' := ⟨fun pins s σ H Q I q => h.run pins s σ H Q I (k σ H Q q)⟩
theorem PTs.imp {X : Cx} {e : List Expr} {t t' : TT} (h : PTs X e t) (k : ∀ σ H Q, t' σ H Q → t σ H Q) : PTs X e t' := ⟨fun pins s σ H Q I q => h.run pins s σ H Q I (k σ H Q q)⟩
theorem DE.can {X : Cx} {W : WX} {e : Expr} {f : Ev → R Ow} (h : DE X W e f) : PE X e (tOf X.KK (Post X W (POw X.KK)) f) := by
  obtain ⟨t, p, s⟩ := h
  refine PE.imp p ?_
  rintro σ H Q ⟨F, env, fp, sat, h⟩
  exact s F H σ env fp Q sat h
/-- a clause's tests -/
def DTs (X : Cx) (W : WX) (ifs : List Expr) (f : Ev → R Bool) : Prop := ∃ t, PTs X ifs t ∧ Sm X W PTb t f
def cYes (_ : Ev) : R Bool := .ok true
theorem dts_nil : DTs X W [] cYes := ⟨_, pts_nil, fun F H σ env fp Q sat h => h true F H (.refl sat.fh) rfl⟩
theorem DTs.can {X : Cx} {W : WX} {e : List Expr} {f : Ev → R Bool} (h : DTs X W e f) : L2.PTs X e (tOf X.KK (Post X W PTb) f) := by
  obtain ⟨t, p, s⟩ := h
  refine PTs.imp p ?_
  rintro σ H Q ⟨F, env, fp, sat, h⟩
  exact s F H σ env fp Q sat h
def wipeE (env : Ev) : List Nat → Ev
  | [] => env
  | v :: vs => (wipeE env vs).set v none
theorem set_none_len {α : Type} {l : List (Option α)} {i : Nat} (h : ¬ i < l.length) (x : Option α) : l.set i x = l := List.set_eq_of_length_le (by omega)
theorem wipe_sat {K : Kw} {F H : Hp} {σ : L2.St} {env : Ev} {fp : List Addr} (sat : Sat K F H σ env fp) : ∀ vs : List Nat, ∃ fp', Sat K F H (wipe σ vs) (wipeE env vs) fp' ∧ ∀ b ∈ fp', b ∈ fp
  | [] => ⟨fp, sat, fun _ z => z⟩
  | v :: vs => by
    obtain ⟨fp1, s1, h1⟩ := wipe_sat sat vs
    by_cases hi : v < (wipeE env vs).length
    · obtain ⟨fr, fo, a1, a2, a3, a3', a4, a5, a6⟩ := s1.en.put hi s1.nd
      have e3 := (a6 F H [] [] (StepS.of_ext (.refl sat.fh) []) fun _ _ => by simp).1 none
      exact ⟨fr, ⟨sat.fh, e3, a3⟩, fun b hb => h1 b (a1 b hb)⟩
    · refine ⟨fp1, ?_, h1⟩
      show Sat K F H ((wipe σ vs).set v none) ((wipeE env vs).set v none) fp1
      rw [set_none_len hi, set_none_len (by rw [s1.en.len]; exact hi)]
      exact s1
theorem wipe_get : ∀ (σ : L2.St) (vs : List Nat) (j : Nat), (wipe σ vs)[j]? = if j ∈ vs then (σ[j]?).map (fun _ => none) else σ[j]?
  | σ, [], j => by simp [wipe]
  | σ, v :: vs, j => by
    show ((wipe σ vs).set v none)[j]? = _
    by_cases hj : v = j
    · subst hj
      by_cases hl : v < (wipe σ vs).length
      · rw [List.getElem?_set_self hl]
        rw [wipe_length] at hl
        simp [List.getElem?_eq_getElem hl]
      · rw [set_none_len hl, wipe_get σ vs v]
        rw [wipe_length] at hl
        have e : σ[v]? = none := List.getElem?_eq_none (by omega)
        simp [e]
    · rw [List.getElem?_set_ne hj, wipe_get σ vs j]
      simp [Ne.symm hj]
theorem wipe_off {σ σ' : L2.St} {ix vs : List Nat} (h : Off ix (wipe σ vs) σ') (hs : ∀ i ∈ ix, i ∈ vs) : wipe σ' vs = wipe σ vs := by
  refine List.ext_getElem? fun j => ?_
  rw [wipe_get σ', wipe_get σ]
  by_cases hj : j ∈ vs
  · rw [if_pos hj, if_pos hj]
    have hl := h.1
    rw [wipe_length] at hl
    by_cases hb : j < σ.length
    · rw [List.getElem?_eq_getElem hb, List.getElem?_eq_getElem (by omega : j < σ'.length)]; rfl
    · rw [List.getElem?_eq_none (by omega), List.getElem?_eq_none (by omega)]
  · rw [if_neg hj, if_neg hj, h.2 j fun z => hj (hs j z), wipe_get σ, if_neg hj]
def noEx {α : Type} : R α → R α
  | .ex _ => .no
  | r => r
@[simp] theorem noEx_ok {α : Type} (a : α) : noEx (.ok a) = .ok a := rfl
def lcR (g : D → Ev → Option Ev) (c : Ev → R Bool) (e : Ev → R Ow) (env : Ev) : List D → R (List Ow)
  | [] => .ok []
  | d :: ds => match g d env with
    | none => .no
    | some env1 => (noEx (c env1)).bind fun b => if b = true then (noEx (e env1)).bind fun r => (lcR g c e env ds).map fun rs => r :: rs else lcR g c e env ds
def eLc (it : Ev → R (List D)) (g : D → Ev → Option Ev) (c : Ev → R Bool) (e : Ev → R Ow) (vs : List Nat) (env : Ev) : R Ow := (it env).bind fun ds => guard (ds.length ≤ sizeLine) ((noEx (lcR g c e (wipeE env vs) ds)).map Ow.l)
theorem OwnAll.snoc {K : Kw} {F H : Hp} {v : V} {r : Ow} {fr : List Addr} : ∀ {os : List Ow} {vs : List V} {fp : List Addr}, OwnAll K F H vs os fp → OwnAt K F H v r fr → fp.Nodup → fr.Nodup → (∀ b ∈ fr, b ∉ fp) → ∃ fp', OwnAll K F H (vs ++ [v]) (os ++ [r]) fp' ∧ fp'.Nodup ∧ ∀ b ∈ fp', b ∈ fp ∨ b ∈ fr
  | [], _, _, h, g, n1, n2, dj => by
    cases h
    exact ⟨fr ++ [], .cons g .nil, by simpa using n2, fun b hb => .inr (by simpa using hb)⟩
  | o :: os, _, _, h, g, n1, n2, dj => by
    cases h with
    | @cons _ _ _ _ f1 fs h1 h2 =>
      rw [List.nodup_append] at n1
      obtain ⟨m1, m2, m3⟩ := n1
      obtain ⟨fp', a, b, c⟩ := OwnAll.snoc h2 g m2 n2 fun b hb z => dj b hb (List.mem_append_right _ z)
      refine ⟨f1 ++ fp', .cons h1 a, ?_, fun x hx => ?_⟩
      · rw [List.nodup_append]
        refine ⟨m1, b, fun x hx y hy e => ?_⟩
        subst e
        rcases c x hy with z | z
        · exact m3 x hx x z rfl
        · exact dj x z (List.mem_append_left _ hx)
      · rcases List.mem_append.mp hx with z | z
        · exact .inl (List.mem_append_left _ z)
        · exact (c x z).imp (List.mem_append_right _) id
theorem de_lc_core {wi : TI} {g : D → Ev → Option Ev} {fi : Ev → R (List D)} {fc : Ev → R Bool} {fe : Ev → R Ow} {ix vs : List Nat} (si : Sm X W (PIt X.KK) wi fi) (hix : ∀ i ∈ ix, i ∈ vs) :
    Sm X W (POw X.KK) (tLc wi (tgOf X.KK ix g) (tOf X.KK (Post X W0 PTb) fc) (tOf X.KK (Post X W0 (POw X.KK)) fe) vs) (eLc fi g fc fe vs) := by
  intro F H σ env fp Q sat hp
  refine si.go sat hp fun items J F1 H1 sat1 wk _ h1 => ?_
  have wk : WalkF X.KK J F1 items := wk
  obtain ⟨hz, h2⟩ := guard_post h1
  intro Dd hD
  have hD1 : F1 Dd = none := free_of sat1.fh hD
  cases el : lcR g fc fe (wipeE env vs) items with
  | no => rw [el] at h2; exact h2.elim
  | ex c => rw [el] at h2; exact h2.elim
  | ok all =>
  rw [el] at h2
  have h2 : ∀ v F' H', Ext F1 H1 F' H' → POw X.KK H1 (.l all) v F' H' → Q v H' := h2
  let Iv : Nat → Hp → Prop := fun i H' => ∃ F' acc accO fa rest, Ext F1 H1 F' H' ∧ F' Dd = none ∧ H' Dd = some (.lst acc) ∧ OwnAll X.KK F' H' acc accO fa ∧ fa.Nodup ∧ Dd ∉ fa ∧ accO.length ≤ i ∧ (∀ b ∈ fa, H1 b = none) ∧ lcR g fc fe (wipeE env vs) (items.drop i) = .ok rest ∧ all = accO ++ rest
  refine ⟨fun i m H' => m = items.length - i ∧ i ≤ items.length ∧ Iv i H', ⟨items.length, by simp, Nat.zero_le _, F1, [], [], [], all, Ext.own sat1.fh hD _, hD1, upd_same, .nil, List.nodup_nil, by simp, Nat.le_refl _, (fun b z => nomatch z), el, rfl⟩, ?_⟩
  rintro i m H' ⟨rfl, hi, F', acc, accO, fa, rest, x, fD, hDd, ow, nd, nD, hl, fr, er, ea⟩
  by_cases hlt : i < items.length
  · refine .inr ⟨wk.go i F' H' hlt x.ff x.fh, Iv (i + 1), fun H2 z => ⟨items.length - (i + 1), by omega, rfl, hlt, z⟩, fun v H3 y => ?_⟩
    obtain ⟨d, F3, e1, x3, dp⟩ := wk.yld i F' H' v H3 hlt x.ff x.fh y
    have ed : items.drop i = d :: items.drop (i + 1) := by
      rw [List.drop_eq_getElem_cons hlt]
      have : items[i] = d := by rw [List.getElem?_eq_getElem hlt] at e1; exact Option.some.inj e1
      rw [this]
    rw [ed] at er
    unfold lcR at er
    cases eg : g d (wipeE env vs) with
    | none => rw [eg] at er; cases er
    | some env1 =>
    rw [eg] at er
    simp only at er
    obtain ⟨fpw, satw, subw⟩ := wipe_sat (sat1.ext (x.trans x3)) vs
    refine ⟨F3, _, fpw, d, env1, satw, dp, eg, fun σ2 fp2 sat2 sub2 off2 => ⟨wipe_off off2 hix, F3, env1, fp2, sat2, ?_⟩⟩
    cases ec : fc env1 with
    | no => rw [ec] at er; cases er
    | ex c => rw [ec] at er; cases er
    | ok b =>
    rw [ec] at er
    simp only [noEx_ok, R.bind_ok] at er
    intro v4 F4 H4 x4 ev4
    obtain rfl : v4 = b := ev4
    have xx4 := x3.trans x4
    cases v4 with
    | false =>
      rw [if_neg Bool.false_ne_true] at er ⊢
      have g1 := x.trans xx4
      refine ⟨F4, acc, accO, fa, rest, g1, ?_, xx4.hh _ _ hDd, ow.ext xx4, nd, nD, Nat.le_succ_of_le hl, fr, er, ea⟩
      cases q : F4 Dd with
      | none => rfl
      | some u =>
        rcases xx4.fn Dd u q with z | z
        · rw [fD] at z; cases z
        · rw [hDd] at z; cases z
    | true =>
      rw [if_pos rfl] at er ⊢
      refine ⟨F4, env1, fp2, sat2.ext x4, ?_⟩
      cases ee : fe env1 with
      | no => rw [ee] at er; cases er
      | ex c => rw [ee] at er; cases er
      | ok r =>
      rw [ee] at er
      simp only [noEx_ok, R.bind_ok] at er
      intro y5 F5 H5 x5 ⟨fr5, ow5, nd5, fresh5⟩
      have xx := xx4.trans x5
      have hD5 : H5 Dd = some (.lst acc) := xx.hh _ _ hDd
      have fD5 : F5 Dd = none := by
        cases q : F5 Dd with
        | none => rfl
        | some u =>
          rcases xx.fn Dd u q with z | z
          · rw [fD] at z; cases z
          · rw [hDd] at z; cases z
      have nD5 : Dd ∉ fr5 := fun z => by
        have := fresh5 Dd z
        rw [xx4.hh _ _ hDd] at this; cases this
      cases er2 : lcR g fc fe (wipeE env vs) (items.drop (i + 1)) with
      | no => rw [er2] at er; cases er
      | ex c => rw [er2] at er; cases er
      | ok rest2 =>
      rw [er2] at er
      cases er
      have la := OwnAll.len ow
      have stp : StepS F5 H5 [Dd] F5 (upd H5 Dd (.lst (acc ++ [y5]))) [] := ⟨Same.refl _, fun b o e n => by rw [upd_ne (fun z => n (by simp [z]))]; exact e, fun b o e => .inl e, fun b z => nomatch z⟩
      obtain ⟨fa', ow', nd', sub'⟩ := OwnAll.snoc (OwnAll.keep stp _ _ _ (ow.ext xx) fun b hb => by simp; exact fun z => nD (z ▸ hb)) (OwnAt.keep stp _ _ _ ow5 fun b hb => by simp; exact fun z => nD5 (z ▸ hb)) nd nd5 fun b hb z => by
        obtain ⟨_, vs', e⟩ := OwnAll.there _ _ _ ow b z
        have := xx4.hh.free (fresh5 b hb)
        rw [e] at this; cases this
      refine ⟨acc, hD5, by omega, F5, acc ++ [y5], accO ++ [r], fa', rest2, ⟨(x.trans xx).ff, fun b o e => ?_, (x.trans xx).fn, fun b o e => ?_⟩, fD5, upd_same, ow', nd', ?_, by simp; omega, fun b hb => ?_, er2, by simp [ea]⟩
      · rw [upd_ne (ne_of_none e hD)]; exact (x.trans xx).hh b o e
      · rw [upd_ne (ne_of_none e fD5)]; exact xx.fh b o e
      · intro z
        rcases sub' _ z with q | q
        · exact nD q
        · exact nD5 q
      · rcases sub' b hb with q | q
        · exact fr b q
        · exact x.hh.free (xx4.hh.free (fresh5 b q))
  · have e : i = items.length := by omega
    subst e
    rw [List.drop_length] at er
    cases er
    refine .inl ⟨wk.stop F' H' x.ff x.fh, h2 _ F' H' x ⟨Dd :: fa, ?_, List.nodup_cons.mpr ⟨nD, nd⟩, fun b hb => ?_⟩⟩
    · rw [ea, List.append_nil]; exact .l fD hDd ow
    · rcases List.mem_cons.mp hb with z | z
      · rw [z]; exact hD
      · exact fr b z
theorem de_lc {elt tg iter : Expr} {ifs : List Expr} {scope : Scope} {own : List (Str × Nat)} {g : D → Ev → Option Ev} {fi : Ev → R (List D)} {fc : Ev → R Bool} {fe : Ev → R Ow} {ix : List Nat} (hc : X.calm = true) (hN : X.N.Nodup) (hi : DI X W tg iter fi) (ok : BlkOk X.N X.env.scope scope own)
    (hg : ∀ (s : Shared) (H : Hp) (C : Addr) (cl : List (Str × Addr)) (fp : List Addr), DG (X.blk s H scope (compEnvC scope cl C X.env) fp) tg ix g) (ht : ∀ (s : Shared) (H : Hp) (C : Addr) (cl : List (Str × Addr)) (fp : List Addr), DTs (X.blk s H scope (compEnvC scope cl C X.env) fp) W0 ifs fc)
    (he : ∀ (s : Shared) (H : Hp) (C : Addr) (cl : List (Str × Addr)) (fp : List Addr), DE (X.blk s H scope (compEnvC scope cl C X.env) fp) W0 elt fe) (hix : ∀ i ∈ ix, i ∈ own.map (·.2) := by decide) (hs : ∀ x, foldedSetIterable iter X.env x = pure x := by intro _; rfl) :
    DE X W (.ListComp elt [⟨tg, iter, ifs, 0⟩] scope pos) (eLc fi g fc fe (own.map (·.2))) := by
  obtain ⟨wi, pi, si⟩ := hi
  exact ⟨_, pe_lc (g := tgOf X.KK ix g) hc hN pi ok (fun s H C cl fp => hg s H C cl fp) (fun s H C cl fp => (ht s H C cl fp).can) (fun s H C cl fp => (he s H C cl fp).can) hs, de_lc_core si hix⟩
end
end Mir
end
set_option Elab.async false
set_option linter.all false
set_option maxRecDepth 100000
set_option maxHeartbeats 4000000
noncomputable section
namespace Mir
open PySem PySem.Spec L2

section
variable {K : Kw} {F H : Hp} {σ : L2.St} {env : Ev} {fp : List Addr}
theorem set_self {σ : L2.St} {i : Nat} {v : V} (h : σ[i]? = some (some v)) : σ.set i (some v) = σ := by
  refine List.ext_getElem? fun j => ?_
  by_cases hj : i = j
  · subst hj
    rw [List.getElem?_set_self (List.getElem?_eq_some_iff.mp h).1]
    exact h.symm
  · rw [List.getElem?_set_ne hj]
theorem mut_step {F H F1 H1 : Hp} {a : Addr} {vs vs' : List V} (x : Ext F H F1 H1) (h : H a = some (.lst vs)) : StepS F H [a] F1 (upd H1 a (.lst vs')) [] :=
  ⟨x.ff, fun b o e n => by rw [upd_ne (fun z => n (by simp [z]))]; exact x.hh b o e, fun b o e => (x.fn b o e).imp id .inr, fun b z => nomatch z⟩
theorem mut_free {F H F1 H1 : Hp} {a : Addr} {vs : List V} (x : Ext F H F1 H1) (hf : F a = none) (h : H a = some (.lst vs)) : F1 a = none := by
  cases q : F1 a with
  | none => rfl
  | some u =>
    rcases x.fn a u q with z | z
    · rw [hf] at z; cases z
    · rw [h] at z; cases z
theorem mut_same {F1 H1 : Hp} {a : Addr} {o : HO} (s : Same F1 H1) (hf : F1 a = none) : Same F1 (upd H1 a o) := fun b u e => by
  rw [upd_ne (ne_of_none e hf)]; exact s b u e
/-- the list in slot i, and what is left when it is changed -/
theorem Sat.mut (sat : Sat K F H σ env fp) {i : Nat} {os : List Ow} (hi : env[i]? = some (some (.l os))) : ∃ a vs fo, σ[i]? = some (some (.ref a)) ∧ F a = none ∧ H a = some (.lst vs) ∧ OwnAll K F H vs os fo ∧ fo.Nodup ∧ a ∉ fo ∧ (∀ b ∈ a :: fo, b ∈ fp) ∧
    ∀ F1 H1 vs' os' fo', Ext F H F1 H1 → OwnAll K F1 (upd H1 a (.lst vs')) vs' os' fo' → fo'.Nodup → (∀ b ∈ fo', b ∈ fo ∨ H b = none) → ∃ fp', StepS F H fp F1 (upd H1 a (.lst vs')) fp' ∧ Sat K F1 (upd H1 a (.lst vs')) σ (env.set i (some (.l os'))) fp' := by
  have hl : i < env.length := (List.getElem?_eq_some_iff.mp hi).1
  obtain ⟨fr, fo0, a1, a2, a3, a3', a4, a5, a6⟩ := sat.en.put hl sat.nd
  obtain ⟨v, e1, e2⟩ := a5 _ hi
  cases e2 with
  | @l a vs _ fo h1 h2 h3 =>
    obtain ⟨nd1, nd2⟩ := List.nodup_cons.mp a3'
    refine ⟨a, vs, fo, e1, h1, h2, h3, nd2, nd1, a2, fun F1 H1 vs' os' fo' x ow nd sub => ?_⟩
    have hf1 := mut_free x h1 h2
    have na' : a ∉ fo' := fun z => by
      rcases sub a z with q | q
      · exact nd1 q
      · rw [h2] at q; cases q
    have fresh : ∀ b, H b = none → b ∉ fr := fun b q z => by
      obtain ⟨_, w, e⟩ := sat.en.there b (a1 b z)
      rw [q] at e; cases e
    obtain ⟨fp', b1, b2, b3⟩ := (a6 F1 (upd H1 a (.lst vs')) [a] [] (mut_step x h2) fun b hb z => a4 b (by rw [List.mem_singleton.mp z]; exact List.mem_cons_self) hb).2 (.ref a) (.l os') (a :: fo') (.l hf1 upd_same ow) (List.nodup_cons.mpr ⟨na', nd⟩) fun b hb z => by
      rcases List.mem_cons.mp hb with q | q
      · subst q; exact a4 b List.mem_cons_self z
      · rcases sub b q with q | q
        · exact a4 b (List.mem_cons_of_mem _ q) z
        · exact fresh b q z
    rw [set_self e1] at b3
    refine ⟨fp', (mut_step x h2).mono (fun b hb => by rw [List.mem_singleton.mp hb]; exact a2 a List.mem_cons_self) |> fun s => ⟨s.ff, s.fr, s.fn, fun b hb => ?_⟩, mut_same x.fh hf1, b3, b1⟩
    rcases b2 b hb with q | q
    · rcases List.mem_cons.mp q with q | q
      · rw [q]; exact .inl (a2 a List.mem_cons_self)
      · rcases sub b q with q | q
        · exact .inl (a2 b (List.mem_cons_of_mem _ q))
        · exact .inr q
    · exact .inl (a1 b q)
/-- the items of an own list, behind a change at the list itself -/
theorem own_mut {F1 H1 : Hp} {a : Addr} {vs vs' : List V} {os : List Ow} {fo : List Addr} (x : Ext F H F1 H1) (h : H a = some (.lst vs)) (ow : OwnAll K F H vs os fo) (na : a ∉ fo) : OwnAll K F1 (upd H1 a (.lst vs')) vs os fo :=
  OwnAll.keep (mut_step x h) _ _ _ ow fun b hb z => na (by rw [← List.mem_singleton.mp z]; exact hb)
theorem own_mut1 {F1 H1 : Hp} {a : Addr} {vs vs' : List V} {v : V} {r : Ow} {fx : List Addr} (s : Same F1 H1) (hf : F1 a = none) (h : H1 a = some (.lst vs)) (ow : OwnAt K F1 H1 v r fx) (na : a ∉ fx) : OwnAt K F1 (upd H1 a (.lst vs')) v r fx :=
  OwnAt.keep (mut_step (.refl s) h) _ _ _ ow fun b hb z => na (by rw [← List.mem_singleton.mp z]; exact hb)
theorem OwnAll.get {F H : Hp} : ∀ {os : List Ow} {vs : List V} {fp : List Addr} {k : Nat} {o : Ow}, OwnAll K F H vs os fp → fp.Nodup → os[k]? = some o → ∃ (v : V) (fo fr : List Addr), vs[k]? = some v ∧ OwnAt K F H v o fo ∧ fo.Nodup ∧ fr.Nodup ∧ (∀ b ∈ fo, b ∈ fp) ∧ (∀ b ∈ fr, b ∈ fp) ∧ (∀ b ∈ fo, b ∉ fr) ∧
    ∀ F' H' fx fy v' o' fn, StepS F H fx F' H' fy → (∀ b ∈ fr, b ∉ fx) → OwnAt K F' H' v' o' fn → fn.Nodup → (∀ b ∈ fn, b ∉ fr) → ∃ fp', OwnAll K F' H' (vs.set k v') (os.set k o') fp' ∧ fp'.Nodup ∧ ∀ b ∈ fp', b ∈ fn ∨ b ∈ fr
  | [], _, _, k, o, h, nd, e => by simp at e
  | x :: os, _, _, 0, o, h, nd, e => by
    cases h with
    | @cons v vs _ _ f1 fs h1 h2 =>
      simp at e; subst e
      obtain ⟨n1, n2, n3⟩ := List.nodup_append.mp nd
      refine ⟨v, f1, fs, rfl, h1, n1, n2, fun b z => List.mem_append_left _ z, fun b z => List.mem_append_right _ z, fun b z q => n3 b z b q rfl, fun F' H' fx fy v' o' fn st dj ow nf df => ?_⟩
      refine ⟨fn ++ fs, .cons ow (OwnAll.keep st _ _ _ h2 dj), ?_, fun b hb => List.mem_append.mp hb⟩
      rw [List.nodup_append]
      exact ⟨nf, n2, fun a ha b hb e => df a ha (e ▸ hb)⟩
  | x :: os, _, _, k + 1, o, h, nd, e => by
    cases h with
    | @cons v vs _ _ f1 fs h1 h2 =>
      obtain ⟨n1, n2, n3⟩ := List.nodup_append.mp nd
      obtain ⟨v0, fo, fr, g1, g2, g3, g4, g5, g6, g7, g8⟩ := OwnAll.get (k := k) h2 n2 (by simpa using e)
      refine ⟨v0, fo, f1 ++ fr, by simpa using g1, g2, g3, ?_, fun b z => List.mem_append_right _ (g5 b z), fun b z => ?_, fun b z q => ?_, fun F' H' fx fy v' o' fn st dj ow nf df => ?_⟩
      · rw [List.nodup_append]; exact ⟨n1, g4, fun a ha b hb e => n3 a ha b (g6 b hb) e⟩
      · exact (List.mem_append.mp z).elim (List.mem_append_left _) fun z => List.mem_append_right _ (g6 b z)
      · rcases List.mem_append.mp q with q | q
        · exact n3 b q b (g5 b z) rfl
        · exact g7 b z q
      · obtain ⟨fp', c1, c2, c3⟩ := g8 F' H' fx fy v' o' fn st (fun b hb => dj b (List.mem_append_right _ hb)) ow nf fun b hb z => df b hb (List.mem_append_right _ z)
        refine ⟨f1 ++ fp', .cons (OwnAt.keep st _ _ _ h1 fun b hb => dj b (List.mem_append_left _ hb)) c1, ?_, fun b hb => ?_⟩
        · rw [List.nodup_append]
          refine ⟨n1, c2, fun a ha b hb e => ?_⟩
          subst e
          rcases c3 a hb with z | z
          · exact df a z (List.mem_append_left _ ha)
          · exact n3 a ha a (g6 a z) rfl
        · rcases List.mem_append.mp hb with z | z
          · exact .inr (List.mem_append_left _ z)
          · exact (c3 b z).imp id (List.mem_append_right _)
end
section
variable {X : Cx} {W : WX} {S : Nat → Bool} {e e1 e2 : Expr} {pos cpos apos npos : Pos} {x : Str}
def ownL (i : Nat) (env : Ev) (k : List Ow → SR) : SR := match env[i]? with
  | some (some (.l os)) => k os
  | _ => .no
theorem ownL_post {σ : L2.St} {F H : Hp} {fp : List Addr} {D : Ends} {i : Nat} {env : Ev} {k : List Ow → SR} (h : PostS X W S σ F H fp D (ownL i env k)) : ∃ os, env[i]? = some (some (.l os)) ∧ PostS X W S σ F H fp D (k os) := by
  unfold ownL at h
  split at h
  · exact ⟨_, ‹_›, h⟩
  · exact h.elim
/-- x.append(e) -/
def sApp (i : Nat) (f : Ev → R Ow) (env : Ev) : SR := ownL i env fun os => (f env).st env fun r => if os.length < sizeLine then .nx (env.set i (some (.l (os ++ [r])))) else .no
theorem ds_app {f : Ev → R Ow} (i : Nat) (he : DE X W e f) (hN : X.N[i]? = some x := by rfl) (hv : Vis X.env.scope x := by first | exact Or.inl rfl | exact Or.inr (Or.inl rfl) | exact Or.inr (Or.inr rfl)) (hd : (x == ("__debug__" : Str)) = false := by decide) (hcd : (x == ("__classdict__" : Str)) = false := by decide)
    (hbase : attributeBase (.Name x npos) "append" X.env (eval (.Name x npos) X.env) = eval (.Name x npos) X.env := by rfl)
    (hfew : ((backTo cpos (starEach [e] X.env)).all (fun x => !x.1) && (backToKw cpos (keywordEach [] X.env)).all (fun x => x.1.isSome) && decide ([e].length + ([] : List Keyword).length + (if ([] : List Keyword).isEmpty then 0 else 1) < 30)) = true := by rfl)
    (hline : (apos.endLine == cpos.line) = true := by rfl) (hs : starEach [e] X.env = (false, eval e X.env) :: starEach [] X.env := by rfl) (hplain : (backTo cpos (starEach [] X.env)).any (·.1) = false := by rfl)
    (hsw : swapsWith (.Call (.Attribute (.Name x npos) "append" apos) [e] [] cpos) none pos.line X.env = pure false := by rfl) : DS X W S (.Expr (.Call (.Attribute (.Name x npos) "append" apos) [e] [] cpos) pos) (sApp i f) := by
  obtain ⟨t, p, s⟩ := he
  refine ⟨_, ps_expr (pe_bm PySem.F.plainAttrs_list PySem.F.slot_list_append PySem.F.type_list_append mt_append (pe_var hN hv hd hcd) (pa_cons p pa_nil hs) hbase hfew hline hs hplain) hsw, fun F H σ env fp D sat h => ?_⟩
  obtain ⟨os, eo, h⟩ := ownL_post h
  obtain ⟨a, vs, fo, c1, c0, c2, c3, c4, c5, c6, c7⟩ := sat.mut eo
  refine ⟨.ref a, c1, .inl ⟨rfl, vs, SqL.of c2⟩, ?_⟩
  refine s F H σ env fp _ sat ?_
  cases ef : f env with
  | no => rw [ef] at h; exact h
  | ex c => rw [ef] at h; exact fun C F' H' m x => h C σ F' H' fp m (.refl _ _) (StepS.of_ext x fp) (sat.ext x)
  | ok r =>
    rw [ef] at h
    intro v F1 H1 x1 ⟨fx, ow, nx, fr⟩
    have h2 : PostS X W S σ F H fp D (if os.length < sizeLine then .nx (env.set i (some (.l (os ++ [r])))) else .no) := h
    split at h2
    · have la := OwnAll.len c3
      have hb := x1.hh _ _ c2
      obtain ⟨fo', g1, g2, g3⟩ := OwnAll.snoc (own_mut (vs' := vs ++ [v]) x1 c2 c3 c5) (own_mut1 x1.fh (mut_free x1 c0 c2) hb ow fun z => by rw [fr a z] at c2; cases c2) c4 nx fun b hb z => by
        obtain ⟨_, w, e⟩ := OwnAll.there _ _ _ c3 b z
        rw [fr b hb] at e; cases e
      obtain ⟨fp', st, sat'⟩ := c7 F1 H1 (vs ++ [v]) (os ++ [r]) fo' x1 g1 g2 fun b hb => (g3 b hb).imp id (fr b)
      exact ⟨a, vs, v, rfl, rfl, hb, by omega, h2 σ F1 _ fp' (.refl _ _) st sat'⟩
    · exact h2.elim
/-- x.extend(e) -/
theorem list_extW (l b : Addr) (its jts : Array Value) (n n2 : Nat) (dd2 : Option Addr) (sl2 : Array (Option Value)) (h0 : ¬(!its.isEmpty && Builtin.List.listTooLong (its.size + jts.size)) = true) (h1 : its.size ≤ sizeLine) (h2 : its.size + jts.size ≤ sizeLine + 1) :
    Meets (Builtin.«list.extend» ⟨[.ref l, .ref b], []⟩) (fun _ R s => s.heap.get? l = some { cls := .type "list", data := .seq its n } ∧ s.heap.get? b = some { cls := .type "list", dict := dd2, data := .seq jts n2, slots := sl2 } ∧ R (.ok (.ret Value.none)) { s with heap := s.heap.update l (Obj.mapSeq fun x => x ++ jts), toks := s.toks }) :=
  .of_wp fun prog w A R s h => by
    obtain ⟨hp, g, d, tk, os⟩ := s; obtain ⟨hl, hb, h⟩ := h; have f1 := AutoSeq1.idx_int; have f2 := AutoSeq1.sub_tuple_tuple; have f3 := AutoSeq1.sub_list_list; have f4 := AutoSeq1.sub_tuple_list; have f5 := AutoSeq1.sub_list_tuple; have hz' : (its ++ jts).size ≤ sizeLine + 1 := by rw [Array.size_append]; exact h2
    wp_walk using (wpAny_updateSeq hl rfl (hz := h1) (_hz' := hz')), wpAny_loadPart' hl, wpAny_loadPart' hb; exact ⟨_, rfl, h⟩
def rExtA (K : Kw) : V → List V → Hp → VK → Prop := fun x vs H Q => ∃ l b xs zs, x = .ref l ∧ vs = [.ref b] ∧ H l = some (.lst xs) ∧ SqL K H b zs ∧ xs.length + zs.length ≤ sizeLine ∧ Q .non (upd H l (.lst (xs ++ zs)))
theorem mt_extA : MtR X "list.extend" (rExtA X.KK) := by
  intro pins s σ H x vs v us Q I rx rv h
  obtain ⟨l, b, xs, zs, rfl, rfl, hH, hB, hz, q⟩ := h
  cases rx
  obtain ⟨u, rfl, ru⟩ := rv.one
  cases ru
  obtain ⟨z, its, n, r, hl, e⟩ := I.lstM hH
  obtain ⟨jts, r2, pl2, hl2⟩ := I.list hB
  obtain ⟨⟨c2, d2, t2, s2⟩, g2, k2, n2, m2⟩ := pl2.isList
  simp only at k2 m2
  subst k2 m2
  have lz := r2.length
  have hsz : its.toArray.size + jts.toArray.size ≤ sizeLine := by rw [List.size_toArray, List.size_toArray]; omega
  have hlong : ¬ (!its.toArray.isEmpty && Builtin.List.listTooLong (its.toArray.size + jts.toArray.size)) = true := by rw [notLongL hsz, Bool.and_false]; exact Bool.false_ne_true
  refine call_meets F.slot_list_extend ⟨_, e, rfl⟩ F.entry_list_extend (F.args_list_extend_2 _ _) (list_extW l b its.toArray jts.toArray n n2 d2 s2 hlong (by rw [List.size_toArray]; omega) (by omega)) ⟨e, g2, ?_⟩
  refine ⟨.non, _, I.lset (its' := its ++ jts) hH e (by simp) (r.append r2) ?_, rfl, q⟩
  rw [List.length_append]; omega
def asL : D → R (List D)
  | .list ds => .ok ds
  | _ => .no
@[simp] theorem asL_list (ds : List D) : asL (.list ds) = .ok ds := rfl
theorem OwnAll.app_d {K : Kw} {F H : Hp} {ws : List V} {es : List D} : ∀ {os : List Ow} {vs : List V} {fp : List Addr}, OwnAll K F H vs os fp → DpAll K F ws es → OwnAll K F H (vs ++ ws) (os ++ es.map Ow.d) fp
  | [], _, _, h, g => by cases h; exact OwnAll.of_dp g
  | o :: os, _, _, h, g => by
    cases h with
    | cons h1 h2 => exact .cons h1 (OwnAll.app_d h2 g)
def sExt (i : Nat) (f : Ev → R D) (env : Ev) : SR := ownL i env fun os => (f env).st env fun d => (asL d).st env fun ds => if os.length + ds.length ≤ sizeLine then .nx (env.set i (some (.l (os ++ ds.map Ow.d)))) else .no
theorem ds_ext {f : Ev → R D} (i : Nat) (he : DL X W e f) (hN : X.N[i]? = some x := by rfl) (hv : Vis X.env.scope x := by first | exact Or.inl rfl | exact Or.inr (Or.inl rfl) | exact Or.inr (Or.inr rfl)) (hd : (x == ("__debug__" : Str)) = false := by decide) (hcd : (x == ("__classdict__" : Str)) = false := by decide)
    (hbase : attributeBase (.Name x npos) "extend" X.env (eval (.Name x npos) X.env) = eval (.Name x npos) X.env := by rfl)
    (hfew : ((backTo cpos (starEach [e] X.env)).all (fun x => !x.1) && (backToKw cpos (keywordEach [] X.env)).all (fun x => x.1.isSome) && decide ([e].length + ([] : List Keyword).length + (if ([] : List Keyword).isEmpty then 0 else 1) < 30)) = true := by rfl)
    (hline : (apos.endLine == cpos.line) = true := by rfl) (hs : starEach [e] X.env = (false, eval e X.env) :: starEach [] X.env := by rfl) (hplain : (backTo cpos (starEach [] X.env)).any (·.1) = false := by rfl)
    (hsw : swapsWith (.Call (.Attribute (.Name x npos) "extend" apos) [e] [] cpos) none pos.line X.env = pure false := by rfl) : DS X W S (.Expr (.Call (.Attribute (.Name x npos) "extend" apos) [e] [] cpos) pos) (sExt i f) := by
  obtain ⟨t, p, s⟩ := he
  refine ⟨_, ps_expr (pe_bm PySem.F.plainAttrs_list PySem.F.slot_list_extend PySem.F.type_list_extend mt_extA (pe_var hN hv hd hcd) (pa_cons p pa_nil hs) hbase hfew hline hs hplain) hsw, fun F H σ env fp D sat h => ?_⟩
  obtain ⟨os, eo, h⟩ := ownL_post h
  obtain ⟨a, vs, fo, c1, c0, c2, c3, c4, c5, c6, c7⟩ := sat.mut eo
  refine ⟨.ref a, c1, .inl ⟨rfl, vs, SqL.of c2⟩, ?_⟩
  refine s F H σ env fp _ sat ?_
  cases ef : f env with
  | no => rw [ef] at h; exact h
  | ex c => rw [ef] at h; exact fun C F' H' m x => h C σ F' H' fp m (.refl _ _) (StepS.of_ext x fp) (sat.ext x)
  | ok d =>
    rw [ef] at h
    intro v F1 H1 x1 q
    have h1 : PostS X W S σ F H fp D ((asL d).st env fun ds => if os.length + ds.length ≤ sizeLine then .nx (env.set i (some (.l (os ++ ds.map Ow.d)))) else .no) := h
    cases d with
    | list ds =>
      have h2 : PostS X W S σ F H fp D (if os.length + ds.length ≤ sizeLine then .nx (env.set i (some (.l (os ++ ds.map Ow.d)))) else .no) := h1
      split at h2
      · obtain ⟨b, ws, rfl, q1, q2⟩ := q
        have la := OwnAll.len c3
        have lb := DpAll.len q2
        obtain ⟨fp', st, sat'⟩ := c7 F1 H1 (vs ++ ws) (os ++ ds.map Ow.d) fo x1 (OwnAll.app_d (own_mut (vs' := vs ++ ws) x1 c2 c3 c5) q2) c4 fun b hb => .inl hb
        exact ⟨a, b, vs, ws, rfl, rfl, x1.hh _ _ c2, q1, by omega, h2 σ F1 _ fp' (.refl _ _) st sat'⟩
      · exact h2.elim
    | _ => exact h1.elim
/-- x[k] = e -/
def putAt (i : Nat) (env : Ev) (os : List Ow) (r : Ow) : D → SR
  | .int k => match ixN os.length k with
    | some j => .nx (env.set i (some (.l (os.set j r))))
    | none => .no
  | _ => .no
def sPut (i : Nat) (f : Ev → R Ow) (g : Ev → R D) (env : Ev) : SR := (f env).st env fun r => ownL i env fun os => (g env).st env (putAt i env os r)
theorem OwnAll.set {K : Kw} {F H : Hp} {os : List Ow} {vs : List V} {fp : List Addr} {j : Nat} {v : V} {r : Ow} {fx : List Addr} (s : Same F H) (h : OwnAll K F H vs os fp) (nd : fp.Nodup) (hj : j < os.length) (ow : OwnAt K F H v r fx) (nx : fx.Nodup) (dj : ∀ b ∈ fx, b ∉ fp) :
    ∃ fp', OwnAll K F H (vs.set j v) (os.set j r) fp' ∧ fp'.Nodup ∧ ∀ b ∈ fp', b ∈ fp ∨ b ∈ fx := by
  obtain ⟨v0, fo, fr, g1, g2, g3, g4, g5, g6, g7, g8⟩ := OwnAll.get (k := j) h nd (List.getElem?_eq_getElem hj)
  obtain ⟨fp', a, b, c⟩ := g8 F H [] [] v r fx (StepS.of_ext (.refl s) []) (fun _ _ => by simp) ow nx fun b hb z => dj b hb (g6 b z)
  exact ⟨fp', a, b, fun b hb => (c b hb).elim .inr fun z => .inl (g6 b z)⟩
end
end Mir
end
set_option Elab.async false
set_option linter.all false
set_option maxRecDepth 100000
set_option maxHeartbeats 4000000
noncomputable section
namespace Mir
open PySem PySem.Spec L2

def PAs (K : Kw) (_ : Hp) (r : Ow) (v : V) (F' H' : Hp) : Prop := ∃ fp, OwnAt K F' H' v r fp
instance {K : Kw} : Anti (PAs K) := ⟨fun _ h => h⟩
def DP (X : Cx) (W : WX) (e : Expr) (f : Ev → R Ow) : Prop := ∃ t, PE X e t ∧ Sm X W (PAs X.KK) t f
section
variable {X : Cx} {W : WX} {S : Nat → Bool} {e a b : Expr} {pos cpos apos npos : Pos} {x : Str}
theorem dp_var (i : Nat) {x : Str} (hN : X.N[i]? = some x := by rfl) (hv : Vis X.env.scope x := by first | exact Or.inl rfl | exact Or.inr (Or.inl rfl) | exact Or.inr (Or.inr rfl)) (hd : (x == ("__debug__" : Str)) = false := by decide)
    (hcd : (x == ("__classdict__" : Str)) = false := by decide) : DP X W (.Name x pos) (eVarO i) := by
  refine ⟨_, pe_var hN hv hd hcd, fun F H σ env fp Q sat h => ?_⟩
  have h' : Post X W (PAs X.KK) F H σ ((eVarO i env).bind fun o => .ok o) Q := by
    cases e : eVarO i env <;> rw [e] at h <;> exact h
  obtain ⟨o, he, _, h2⟩ := eVarO_ok h'
  obtain ⟨v, fo, h1, h3, _⟩ := sat.en.get he
  exact ⟨v, h1, h2 v F H (.refl sat.fh) ⟨fo, h3⟩⟩
def ixO : Ow → D → R Ow
  | .l os, .int k => match atI os k with
    | some o => .ok o
    | none => .no
  | _, _ => .no
def eIxO (f : Ev → R Ow) (g : Ev → R D) (env : Ev) : R Ow := (f env).bind fun o => (g env).bind fun d => ixO o d
theorem OwnAll.at {K : Kw} {F H : Hp} {os : List Ow} {vs : List V} {fp : List Addr} {k : Int} {o : Ow} (h : OwnAll K F H vs os fp) (e : atI os k = some o) : ∃ v fo, atI vs k = some v ∧ OwnAt K F H v o fo := by
  have hl := OwnAll.len h
  unfold atI at e ⊢
  rw [hl]
  cases hj : ixN os.length k with
  | none => rw [hj] at e; cases e
  | some j =>
    rw [hj] at e
    have e : os[j]? = some o := e
    have : ∀ {os : List Ow} {vs : List V} {fp : List Addr} {j : Nat}, OwnAll K F H vs os fp → os[j]? = some o → ∃ v fo, vs[j]? = some v ∧ OwnAt K F H v o fo := by
      intro os
      induction os with
      | nil => intro vs fp j h e; simp at e
      | cons q os ih =>
        intro vs fp j h e
        cases h with
        | cons h1 h2 =>
          cases j with
          | zero => simp at e; subst e; exact ⟨_, _, rfl, h1⟩
          | succ j =>
            obtain ⟨v, fo, a, b⟩ := ih h2 (by simpa using e)
            exact ⟨v, fo, by simpa using a, b⟩
    exact this h e
theorem dl_dp {f : Ev → R Ow} (h : DP X W e f) : DL X W e (eB f shD) := by
  obtain ⟨t, p, s⟩ := h
  refine ⟨t, p, fun F H σ env fp Q sat h => s F H σ env fp Q sat (Post.thru h fun d _ h' v F' H' x ⟨fp, q⟩ => ?_)⟩
  obtain ⟨r, e2⟩ := shD_ok h'
  rw [e2] at h'
  exact h' v F' H' x (own_seq x.fh q e2)
theorem dv_dp {f : Ev → R Ow} (h : DP X W e f) : DV X W e (eM f viewD) := by
  obtain ⟨t, p, s⟩ := h
  refine ⟨t, p, Sm.map s fun H o v F' H' sm ⟨fp, q⟩ => ⟨viewD o, rfl, OwnAt.view sm o v fp q⟩⟩

def repO : Ow → D → R Ow
  | .l os, .int k => match unDs os with
    | some ds => guard (-(2 ^ 63) ≤ k ∧ k < 2 ^ 63 ∧ os.length * k.toNat ≤ sizeLine) (.ok (.l ((List.replicate k.toNat ds).flatten.map Ow.d)))
    | none => .no
  | _, _ => .no
def eRep (f : Ev → R Ow) (g : Ev → R D) (env : Ev) : R Ow := (f env).bind fun o => (g env).bind fun d => repO o d
def eAug (h : D → D → Option D) (i : Nat) (f : Ev → R D) (env : Ev) : R D := (eVar i env).bind fun x => (f env).bind fun y => R.of (h x y)
def sAug (h : D → D → Option D) (i : Nat) (f : Ev → R D) (env : Ev) : SR := (eAug h i f env).st env fun d => if i < env.length then .nx (env.set i (some (.d d))) else .no
theorem ds_aug {f : Ev → R D} {g : D → D → Option D} {op : Operator} {r : R2} (i : Nat) (ho : OpR X (inplaceOp op) r) (hs : OpS X.KK r g) (hN : X.N.Nodup) (he : DV X W e f) (hi : X.N[i]? = some x := by rfl) (hx : Loc X.env.scope x := by first | exact Or.inl rfl | exact Or.inr rfl)
    (hf : X.fn x = true ∨ X.env.scope.names.lookup x = some .local := by first | exact .inl rfl | exact .inr rfl | assumption) (hS : S i = true := by rfl) : DS X W S (.AugAssign (.Name x npos) op e pos) (sAug g i f) := by
  obtain ⟨t, p, s⟩ := he
  refine ⟨_, ps_aug hN hi hx p ho hf, fun F H σ env fp D sat h => ?_⟩
  unfold sAug eAug at h
  cases e1 : eVar i env with
  | no => rw [e1] at h; exact h.elim
  | ex c => exact absurd e1 (by unfold eVar; split <;> intro z <;> cases z)
  | ok dx =>
    rw [e1] at h
    have e2 : env[i]? = some (some (.d dx)) := by
      unfold eVar at e1
      split at e1
      · rename_i d he; cases e1; exact he
      · cases e1
    obtain ⟨v, fo, h1, h2, _⟩ := sat.en.get e2
    refine ⟨v, h1, ?_⟩
    refine s F H σ env fp _ sat ?_
    cases ef : f env with
    | no => rw [ef] at h; exact h
    | ex c => rw [ef] at h; exact fun C F' H' m x => h C σ F' H' fp m (.refl _ _) (StepS.of_ext x fp) (sat.ext x)
    | ok dy =>
      rw [ef] at h
      have h : PostS X W S σ F H fp D ((R.of (g dx dy)).st env fun d => if i < env.length then .nx (env.set i (some (.d d))) else .no) := h
      intro u F1 H1 x1 q
      cases eg : g dx dy with
      | none => rw [eg] at h; exact h.elim
      | some dz =>
        rw [eg] at h
        have h : PostS X W S σ F H fp D (if i < env.length then .nx (env.set i (some (.d dz))) else .no) := h
        split at h
        · cases h2 with
          | d hd =>
            refine hs H1 v u dx dy dz _ (dpUp (dpUp hd x1.ff) x1.fh) q eg fun z q2 => ?_
            obtain ⟨fp', s1, s2⟩ := put_step sat x1 (.d (q2 F1)) List.nodup_nil (fun _ z => nomatch z) ‹_›
            exact h _ F1 H1 fp' (.set hS _) s1 s2
        · exact h.elim
end
end Mir
end
set_option Elab.async false
set_option linter.all false
set_option maxRecDepth 100000
set_option maxHeartbeats 4000000
noncomputable section
namespace Mir
open PySem PySem.Spec L2

section
variable {K : Kw} {F H : Hp} {σ : L2.St} {env : Ev} {fp : List Addr}
theorem set_selfV {vs : List V} {j : Nat} {v : V} (h : vs[j]? = some v) : vs.set j v = vs := by
  refine List.ext_getElem? fun k => ?_
  by_cases hk : j = k
  · subst hk
    rw [List.getElem?_set_self (List.getElem?_eq_some_iff.mp h).1]
    exact h.symm
  · rw [List.getElem?_set_ne hk]
end
section
variable {X : Cx} {W : WX} {S : Nat → Bool} {e k : Expr} {pos cpos apos npos tpos : Pos} {x : Str}
end
end Mir
end
set_option Elab.async false
set_option linter.all false
set_option maxRecDepth 100000
set_option maxHeartbeats 4000000
noncomputable section
namespace Mir
open PySem PySem.Spec PySem.W PySem.Calls PyProof.Rows PySem.SeqAt

section
variable {prog : Program} {w : World} {A : Around} {E : Value → Shared → Prop} {s : Shared}
end
section
variable {prog : Program} {w : World} {A : Around} {s : Shared}
end
end Mir
namespace Mir
open PySem PySem.Spec L2
abbrev sortedD (ds : List D) : List D := ds.mergeSort (PySem.W.dataLe false id)
def tupB : D → Bool
  | .tuple _ => true
  | _ => false
def plainB : D → Bool
  | .tuple _ => false
  | .none => false
  | _ => true
def sortOk (ds : List D) : Bool := (ds.all fun d => ds.all fun e => PySem.W.alike d e) && (ds.all tupB || ds.all plainB) && (ds.all fun d => decide (d.depth ≤ 130))
section
variable {X : Cx} {W : WX}
theorem dpAll_each {F : Hp} : ∀ {xs : List V} {ds : List D}, PySem.W.EachIs (Dp X.KK F) xs ds → DpAll X.KK F xs ds
  | _, _, .nil => .nil
  | _, _, .cons h g => .cons h (dpAll_each g)
end
end Mir
end
set_option Elab.async false
set_option linter.all false
set_option maxRecDepth 100000
set_option maxHeartbeats 4000000
noncomputable section
namespace Mir
open PySem PySem.Spec L2

open Classical in
section
variable {X : Cx} {W : WX} {S : Nat → Bool} {pos npos : Pos} {x : Str} {fs : Ev → SR}
end
end Mir
end
set_option Elab.async false
set_option linter.all false
set_option maxRecDepth 100000
set_option maxHeartbeats 4000000
noncomputable section
namespace Mir
open PySem PySem.Spec L2

def spL (K : Kw) (m : List D → R Ow) : Sp := fun vs H Q _ => ∃ F ds r, Same F H ∧ DpAll K F vs ds ∧ ds.length = 1 ∧ m ds = .ok r ∧ ∀ v F' H', Ext F H F' H' → POw K H r v F' H' → Q v H'
theorem fnOk_spL {P : Program} {w : World} {K : PySem.W.Frag} {mg : Str → Option Value} {base : Heap} {CX : CXT} {k : Nat} {f : Addr} {fd : FuncData} {ps : List Str} {m : List D → R Ow} (h : FnOk P w K mg base CX k f fd ps (spM ⟨K, w⟩ mg 1 m)) : FnOk P w K mg base CX k f fd ps (spL ⟨K, w⟩ m) :=
  h.imp fun vs H Q E ⟨F, ds, r, h1, h2, h3, h4, h5⟩ => ⟨F, ds, h1, h2, h3, by rw [h4]; exact h5⟩
theorem law_end {l : PySem.W.OpenLaw} {q : Program} {loose : List Str} {XP : (Str → Option Value) → Heap → Prop} {YP : World → Heap → Prop} {d : DefRec} {K : Params → PySem.W.Frag} {m : List D → R Ow} (k : Nat) (x : Str) (hn : l.most = some 63) (hdf : d.params.defaults = []) (hr : Room k callerA)
    (hY : ∀ (w : World) (h : Heap), YP w h → (K w.params).In h)
    (hm : ∀ ns : List Int, ns.length ≤ 63 → (∀ z ∈ ns, Builtin.Int.intBits z ≤ 1048576) → m [.list (ns.map .int)] = .ok (.d (.bool true)))
    (F : ∀ (w : World) (mg : Str → Option Value) (fa : Addr) (h : Heap), (K w.params).In h → h.Ns PySem.mainGlobals mg → mg d.name = some (.ref fa) →
      ∃ fd : FuncData, (∀ (s : Shared) (u : Value), BindsTo s fd ⟨[u], []⟩ [(x, u)]) ∧ ∀ base : Heap, (K w.params).In base → base.Ns PySem.mainGlobals mg → FnOk l.prog w (K w.params) mg base (L2.CX l.prog w) k fa fd [x] (spM ⟨K w.params, w⟩ mg 1 m)) :
    PySem.W.WalkO q loose XP YP l.row.toRowW d [] (fun f vs => PySem.call f vs) := by
  refine L2.walk_ofB (n := 63) (k := k) (x := x) (CX := fun w => L2.CX l.prog w) (sp := fun w => spL ⟨K w.params, w⟩ m) hn (by decide) hdf hr hY (fun w mg fa h a b c => ?_) (fun w H a ns hl hb _ hS => ?_) fun w H s e s' z => ?_
  · obtain ⟨fd, h1, h2⟩ := F w mg fa h a b c
    exact ⟨fd, h1, fun base p q => fnOk_spL (h2 base p q)⟩
  · refine ⟨H, [.list (ns.map .int)], _, Same.refl _, .cons (.lst hS (DpAll.of_ints ns)) .nil, rfl, hm ns hl hb, fun v F' H' _ ⟨fp, ow, _⟩ => ?_⟩
    cases ow with
    | d h => cases h; rfl
  · obtain ⟨_, _, _, _, _, _, _, _, _, _, _, _, z⟩ := z
    exact z
theorem room_eq {k : Nat} {A : Around} (r : Room k A) : A.units + 140 < cLine := by have := r.un; omega
end Mir
end
set_option Elab.async false
set_option linter.all false
set_option maxRecDepth 100000
set_option maxHeartbeats 4000000
noncomputable section
namespace Mir
open PySem PySem.Spec L2
section
variable {X : Cx} {W : WX} {S : Nat → Bool}
def gAddA : D → D → Option D
  | .int i, .int j => some (.int (i + j))
  | .str x, .str y => if x.length + y.length ≤ sizeLine then some (.str (x ++ y)) else none
  | _, _ => none
theorem iop_addA : OpR X (inplaceOp .Add) (fun x y H Q => rI0 (fun i j => .int (i + j)) x y H Q ∨ ∃ i j, x = .str i ∧ y = .str j ∧ i.length + j.length ≤ sizeLine ∧ Q (.str (i ++ j)) H) := OpR.or iop_add iop_add_str
theorem opS_addA {K : Kw} : OpS K (fun x y H Q => rI0 (fun i j => .int (i + j)) x y H Q ∨ ∃ i j, x = .str i ∧ y = .str j ∧ i.length + j.length ≤ sizeLine ∧ Q (.str (i ++ j)) H) gAddA := by
  intro H x y dx dy d Q hx hy e q
  unfold gAddA at e
  split at e
  · cases e
    cases dp_int hx
    cases dp_int hy
    exact .inl ⟨_, _, rfl, rfl, q _ fun F => .int _⟩
  · split at e
    · cases e
      cases dp_str hx
      cases dp_str hy
      exact .inr ⟨_, _, rfl, rfl, ‹_›, q _ fun F => .str _⟩
    · cases e
  · cases e
/-- name = [..], the list made data -/
theorem ds_setLcF {elt tg iter : Expr} {ifs : List Expr} {scope : Scope} {own : List (Str × Nat)} {g : D → Ev → Option Ev} {fi : Ev → R (List D)} {fc : Ev → R Bool} {fe : Ev → R Ow} {ix : List Nat} {y : Str} {py spos pos : Pos} (i : Nat) (hc : X.calm = true) (hN : X.N.Nodup) (hi : DI X W tg iter fi) (ok : BlkOk X.N X.env.scope scope own)
    (hg : ∀ (s : Shared) (H : Hp) (C : Addr) (cl : List (Str × Addr)) (fp : List Addr), DG (X.blk s H scope (compEnvC scope cl C X.env) fp) tg ix g) (ht : ∀ (s : Shared) (H : Hp) (C : Addr) (cl : List (Str × Addr)) (fp : List Addr), DTs (X.blk s H scope (compEnvC scope cl C X.env) fp) W0 ifs fc)
    (he : ∀ (s : Shared) (H : Hp) (C : Addr) (cl : List (Str × Addr)) (fp : List Addr), DE (X.blk s H scope (compEnvC scope cl C X.env) fp) W0 elt fe) (hix : ∀ i ∈ ix, i ∈ own.map (·.2) := by decide) (hs : ∀ x, foldedSetIterable iter X.env x = pure x := by intro _; rfl)
    (hy : X.N[i]? = some y := by rfl) (hyl : X.env.scope.names.lookup y = some .local := by rfl) (hsw : swapsWith (.ListComp elt [⟨tg, iter, ifs, 0⟩] scope pos) (some (.Name y py)) spos.line X.env = pure true := by exact sw_true rfl rfl rfl (by decide +kernel)) (hS : S i = true := by rfl) :
    DS X W S (.Assign [.Name y py] (.ListComp elt [⟨tg, iter, ifs, 0⟩] scope pos) spos) (sSet i (eM (eM (eLc fi g fc fe (own.map (·.2))) viewD) Ow.d)) := by
  obtain ⟨wi, pi, si⟩ := hi
  refine ⟨_, ps_setLc (g := tgOf X.KK ix g) (tt := tOf X.KK (Post X W0 PTb) fc) (te := tOf X.KK (Post X W0 (POw X.KK)) fe) hc hN hy hyl hsw pi ok (fun s H C cl fp => hg s H C cl fp) (fun s H C cl fp => (ht s H C cl fp).can) (fun s H C cl fp => (he s H C cl fp).can) hs, fun F H σ env fp D sat h => ?_⟩
  refine de_lc_core si hix F H σ env fp _ sat ?_
  unfold sSet eM at h
  cases e : eLc fi g fc fe (own.map (·.2)) env with
  | no => rw [e] at h; exact h
  | ex c => rw [e] at h; exact fun C F' H' m x => h C σ F' H' fp m (.refl _ _) (StepS.of_ext x fp) (sat.ext x)
  | ok r =>
    rw [e] at h
    intro v F' H' x ⟨fx, q, nd, n⟩
    have h' : PostS X W S σ F H fp D (if i < env.length then .nx (env.set i (some (.d (viewD r)))) else .no) := h
    split at h'
    · obtain ⟨F2, x2, q2⟩ := x.freeze q n
      obtain ⟨fp', s1, s2⟩ := put_step sat x2 (.d q2) List.nodup_nil (fun _ z => nomatch z) ‹_›
      exact h' _ F2 H' fp' (.set hS _) s1 s2
    · exact h'.elim
end
end Mir
end
set_option Elab.async false
set_option linter.all false
set_option maxRecDepth 100000
set_option maxHeartbeats 4000000
noncomputable section
namespace Mir
open PySem PySem.Spec L2

section
variable {α β γ : Type} (env : Ev)
@[simp] theorem eB_eq (f : Ev → R α) (g : α → R β) : eB f g env = (f env).bind g := rfl
@[simp] theorem eM_eq (f : Ev → R α) (g : α → β) : eM f g env = (f env).map g := rfl
@[simp] theorem eC_eq (d : D) : eC d env = .ok d := rfl
@[simp] theorem aNil_eq : aNil env = .ok [] := rfl
@[simp] theorem aCons_eq (f : Ev → R D) (g : Ev → R (List D)) : aCons f g env = (f env).bind fun d => (g env).map fun ds => d :: ds := rfl
@[simp] theorem eTup_eq (f : Ev → R (List D)) : eTup f env = (f env).bind fun ds => guard (ds.length ≤ sizeLine) (.ok (.tuple ds)) := rfl
@[simp] theorem eLst_eq (f : Ev → R (List D)) : eLst f env = (f env).bind fun ds => guard (ds.length ≤ sizeLine) (.ok (.l (ds.map Ow.d))) := rfl
@[simp] theorem eBin_eq (g : D → D → Option D) (f h : Ev → R D) : eBin g f h env = (f env).bind fun x => (h env).bind fun y => R.of (g x y) := rfl
@[simp] theorem eBinO_eq (g : D → D → Option Ow) (f h : Ev → R D) : eBinO g f h env = (f env).bind fun x => (h env).bind fun y => R.of (g x y) := rfl
@[simp] theorem eCa_eq (g : List D → Option Ow) (f : Ev → R (List D)) : eCa g f env = (f env).bind fun ds => R.of (g ds) := rfl
@[simp] theorem eNot_eq (f : Ev → R D) : eNot f env = ((f env).bind asB).bind fun b => .ok (.bool !b) := rfl
@[simp] theorem eAnd_eq (f g : Ev → R D) : eAnd f g env = ((f env).bind asB).bind fun b => if b = true then g env else .ok (.bool false) := rfl
@[simp] theorem eOr_eq (f g : Ev → R D) : eOr f g env = ((f env).bind asB).bind fun b => if b = true then .ok (.bool true) else g env := rfl
@[simp] theorem eIf_eq (c : Ev → R Bool) (f g : Ev → R D) : eIf c f g env = (c env).bind fun b => if b = true then f env else g env := rfl
@[simp] theorem tNotE_eq (f : Ev → R Bool) : tNotE f env = (f env).map (!·) := rfl
@[simp] theorem tAndE_eq (f g : Ev → R Bool) : tAndE f g env = (f env).bind fun b => if b = true then g env else .ok false := rfl
@[simp] theorem tOrE_eq (f g : Ev → R Bool) : tOrE f g env = (f env).bind fun b => if b = true then .ok true else g env := rfl
@[simp] theorem eRep_eq (f : Ev → R Ow) (g : Ev → R D) : eRep f g env = (f env).bind fun o => (g env).bind fun d => repO o d := rfl
@[simp] theorem eIxO_eq (f : Ev → R Ow) (g : Ev → R D) : eIxO f g env = (f env).bind fun o => (g env).bind fun d => ixO o d := rfl
@[simp] theorem eSl_eq (f : Ev → R D) (l h : Ev → R (Option Int)) : eSl f l h env = (f env).bind fun x => (l env).bind fun i => (h env).bind fun j => R.of (gSl x i j) := rfl
@[simp] theorem oNone_eq : oNone env = .ok none := rfl
@[simp] theorem asI_eq (i : Int) : asI (.int i) = .ok (some i) := rfl
@[simp] theorem cYes_eq : cYes env = .ok true := rfl
@[simp] theorem eVar_0 (x : D) : eVar 0 (some (.d x) :: env) = .ok x := rfl
@[simp] theorem eVarO_0 (x : Ow) : eVarO 0 (some x :: env) = .ok x := rfl
@[simp] theorem eVar_s (i : Nat) (x : Option Ow) : eVar (i + 1) (x :: env) = eVar i env := by unfold eVar; rw [List.getElem?_cons_succ]
@[simp] theorem eVarO_s (i : Nat) (x : Option Ow) : eVarO (i + 1) (x :: env) = eVarO i env := by unfold eVarO; rw [List.getElem?_cons_succ]
@[simp] theorem eVar_1 (a : Option Ow) (x : D) : eVar 1 (a :: some (.d x) :: env) = .ok x := rfl
@[simp] theorem eVar_2 (a b : Option Ow) (x : D) : eVar 2 (a :: b :: some (.d x) :: env) = .ok x := rfl
@[simp] theorem eVar_3 (a b c : Option Ow) (x : D) : eVar 3 (a :: b :: c :: some (.d x) :: env) = .ok x := rfl
@[simp] theorem eVar_4 (a b c d : Option Ow) (x : D) : eVar 4 (a :: b :: c :: d :: some (.d x) :: env) = .ok x := rfl
@[simp] theorem eVar_5 (a b c d e : Option Ow) (x : D) : eVar 5 (a :: b :: c :: d :: e :: some (.d x) :: env) = .ok x := rfl
@[simp] theorem eVar_6 (a b c d e f : Option Ow) (x : D) : eVar 6 (a :: b :: c :: d :: e :: f :: some (.d x) :: env) = .ok x := rfl
@[simp] theorem eVar_7 (a b c d e f g : Option Ow) (x : D) : eVar 7 (a :: b :: c :: d :: e :: f :: g :: some (.d x) :: env) = .ok x := rfl
@[simp] theorem eVar_8 (a b c d e f g h : Option Ow) (x : D) : eVar 8 (a :: b :: c :: d :: e :: f :: g :: h :: some (.d x) :: env) = .ok x := rfl
@[simp] theorem eVar_9 (a b c d e f g h i : Option Ow) (x : D) : eVar 9 (a :: b :: c :: d :: e :: f :: g :: h :: i :: some (.d x) :: env) = .ok x := rfl
@[simp] theorem eVarO_1 (a : Option Ow) (x : Ow) : eVarO 1 (a :: some x :: env) = .ok x := rfl
@[simp] theorem eVarO_2 (a b : Option Ow) (x : Ow) : eVarO 2 (a :: b :: some x :: env) = .ok x := rfl
@[simp] theorem eVarO_3 (a b c : Option Ow) (x : Ow) : eVarO 3 (a :: b :: c :: some x :: env) = .ok x := rfl
@[simp] theorem eVarO_4 (a b c d : Option Ow) (x : Ow) : eVarO 4 (a :: b :: c :: d :: some x :: env) = .ok x := rfl
@[simp] theorem eVarO_5 (a b c d e : Option Ow) (x : Ow) : eVarO 5 (a :: b :: c :: d :: e :: some x :: env) = .ok x := rfl
@[simp] theorem eVarO_6 (a b c d e f : Option Ow) (x : Ow) : eVarO 6 (a :: b :: c :: d :: e :: f :: some x :: env) = .ok x := rfl
@[simp] theorem eVarO_7 (a b c d e f g : Option Ow) (x : Ow) : eVarO 7 (a :: b :: c :: d :: e :: f :: g :: some x :: env) = .ok x := rfl
@[simp] theorem sSkip_eq : sSkip env = .nx env := rfl
@[simp] theorem sSeq_eq (f g : Ev → SR) : sSeq f g env = (f env).andThen g := rfl
@[simp] theorem sSet_eq (i : Nat) (f : Ev → R Ow) : sSet i f env = (f env).st env fun r => if i < env.length then .nx (env.set i (some r)) else .no := rfl
@[simp] theorem sRet_eq (f : Ev → R Ow) : sRet f env = (f env).st env fun r => .rt r env := rfl
@[simp] theorem sRetN_eq : sRetN env = .rt (.d .none) env := rfl
@[simp] theorem sIf_eq (c : Ev → R Bool) (f g : Ev → SR) : sIf c f g env = (c env).st env fun b => if b = true then f env else g env := rfl
@[simp] theorem sFor_eq (it : Ev → R (List D)) (g : D → Ev → Option Ev) (f : Ev → SR) : sFor it g f env = (it env).st env fun ds => forL g f ds env := rfl
@[simp] theorem sDrop_eq (f : Ev → R D) : sDrop f env = (f env).st env fun _ => .nx env := rfl
@[simp] theorem sAug_eq (h : D → D → Option D) (i : Nat) (f : Ev → R D) : sAug h i f env = (((eVar i env).bind fun x => (f env).bind fun y => R.of (h x y)).st env fun d => if i < env.length then .nx (env.set i (some (.d d))) else .no) := rfl
@[simp] theorem sAsg_eq (g : D → Ev → Option Ev) (f : Ev → R D) : sAsg g f env = (f env).st env fun d => match g d env with
  | some env' => .nx env'
  | none => .no := rfl
@[simp] theorem sApp_eq (i : Nat) (f : Ev → R Ow) : sApp i f env = ownL i env fun os => (f env).st env fun r => if os.length < sizeLine then .nx (env.set i (some (.l (os ++ [r])))) else .no := rfl
@[simp] theorem sExt_eq (i : Nat) (f : Ev → R D) : sExt i f env = ownL i env fun os => (f env).st env fun d => (asL d).st env fun ds => if os.length + ds.length ≤ sizeLine then .nx (env.set i (some (.l (os ++ ds.map Ow.d)))) else .no := rfl
@[simp] theorem sPut_eq (i : Nat) (f : Ev → R Ow) (g : Ev → R D) : sPut i f g env = (f env).st env fun r => ownL i env fun os => (g env).st env (putAt i env os r) := rfl
@[simp] theorem ownL_0 (os : List Ow) (k : List Ow → SR) : ownL 0 (some (.l os) :: env) k = k os := rfl
@[simp] theorem ownL_1 (a : Option Ow) (os : List Ow) (k : List Ow → SR) : ownL 1 (a :: some (.l os) :: env) k = k os := rfl
@[simp] theorem ownL_2 (a b : Option Ow) (os : List Ow) (k : List Ow → SR) : ownL 2 (a :: b :: some (.l os) :: env) k = k os := rfl
@[simp] theorem ownL_3 (a b c : Option Ow) (os : List Ow) (k : List Ow → SR) : ownL 3 (a :: b :: c :: some (.l os) :: env) k = k os := rfl
@[simp] theorem ownL_4 (a b c d : Option Ow) (os : List Ow) (k : List Ow → SR) : ownL 4 (a :: b :: c :: d :: some (.l os) :: env) k = k os := rfl
@[simp] theorem ownL_5 (a b c d e : Option Ow) (os : List Ow) (k : List Ow → SR) : ownL 5 (a :: b :: c :: d :: e :: some (.l os) :: env) k = k os := rfl
@[simp] theorem ownL_6 (a b c d e f : Option Ow) (os : List Ow) (k : List Ow → SR) : ownL 6 (a :: b :: c :: d :: e :: f :: some (.l os) :: env) k = k os := rfl
@[simp] theorem gtName_eq (i : Nat) (d : D) : gtName i d env = if i < env.length then some (env.set i (some (.d d))) else none := rfl
@[simp] theorem gtTup_eq (n : Nat) (h : List D → Ev → Option Ev) (ds : List D) : gtTup n h (.tuple ds) env = if ds.length = n then h ds env else none := rfl
@[simp] theorem gtCons_eq (g : D → Ev → Option Ev) (h : List D → Ev → Option Ev) (d : D) (ds : List D) : gtCons g h (d :: ds) env = (g d env).bind (h ds) := rfl
@[simp] theorem gtNil_eq : gtNil [] env = some env := rfl
theorem guard_ok {c : Prop} {r : R α} (h : c) : guard c r = r := guard_pos h
@[simp] theorem guard_true {r : R α} : guard True r = r := guard_pos trivial
@[simp] theorem guard_small {a : Nat} {r : R α} (h : a ≤ sizeLine) : guard (a ≤ sizeLine) r = r := guard_pos h
end
@[simp] theorem gAddA_int (i j : Int) : gAddA (.int i) (.int j) = some (.int (i + j)) := rfl
@[simp] theorem gEq_int (i j : Int) : gEq (.int i) (.int j) = some (.bool (i == j)) := rfl
@[simp] theorem gNe_int (i j : Int) : gNe (.int i) (.int j) = some (.bool (!(i == j))) := rfl
@[simp] theorem gNeg_int (i : Int) : gNeg (.int i) = .ok (.int (-i)) := rfl
@[simp] theorem gIx_lst (ds : List D) (i : Int) : gIx (.list ds) (.int i) = atI ds i := rfl
@[simp] theorem gIsi_int_int (i : Int) : gIsi "int" (.int i) = .ok (.bool true) := by rfl
@[simp] theorem gIsi_bool_int (i : Int) : gIsi "bool" (.int i) = .ok (.bool false) := by first | rfl | decide +kernel | kernel_rfl
@[simp] theorem gIsi_list_list (ds : List D) : gIsi "list" (.list ds) = .ok (.bool true) := by rfl
@[simp] theorem gIsi_tup_tup (ds : List D) : gIsi "tuple" (.tuple ds) = .ok (.bool true) := by rfl
@[simp] theorem ixO_l (os : List Ow) (k : Int) : ixO (.l os) (.int k) = match atI os k with
    | some o => .ok o
    | none => .no := rfl
@[simp] theorem R.st_no {α : Type} (env : Ev) (f : α → SR) : (R.no : R α).st env f = .no := rfl
theorem atI_natD {α : Type} {xs : List α} {k : Nat} {x : α} (h : xs[k]? = some x) : atI xs (k : Int) = some x := by
  unfold atI ixN
  have hl := (List.getElem?_eq_some_iff.mp h).1
  rw [if_pos (by omega), if_pos (by omega)]
  simpa using h
@[simp] theorem atI_0 {α : Type} (x : α) (xs : List α) : atI (x :: xs) 0 = some x := atI_natD (k := 0) rfl
@[simp] theorem atI_1 {α : Type} (x y : α) (xs : List α) : atI (x :: y :: xs) 1 = some y := atI_natD (k := 1) rfl
@[simp] theorem atI_2 {α : Type} (x y z : α) (xs : List α) : atI (x :: y :: z :: xs) 2 = some z := atI_natD (k := 2) rfl
@[simp] theorem atI_3 {α : Type} (x y z u : α) (xs : List α) : atI (x :: y :: z :: u :: xs) 3 = some u := atI_natD (k := 3) rfl
@[simp] theorem atI_4 {α : Type} (x y z u v : α) (xs : List α) : atI (x :: y :: z :: u :: v :: xs) 4 = some v := atI_natD (k := 4) rfl
theorem forL_ind {g : D → Ev → Option Ev} {f : Ev → SR} (items : List D) (I : Nat → Ev → Prop) (step : ∀ i d env, items[i]? = some d → I i env → ∃ env1, g d env = some env1 ∧ ∃ env2, (f env1 = .nx env2 ∨ f env1 = .ct env2) ∧ I (i + 1) env2) :
    ∀ env, I 0 env → ∃ env', forL g f items env = .nx env' ∧ I items.length env' := by
  suffices h : ∀ (ds : List D) (k : Nat) (env : Ev), items.drop k = ds → k ≤ items.length → I k env → ∃ env', forL g f ds env = .nx env' ∧ I items.length env' from fun env h0 => h items 0 env rfl (Nat.zero_le _) h0
  intro ds
  induction ds with
  | nil =>
    intro k env hd hk h
    have : k = items.length := by
      have := congrArg List.length hd
      simp at this
      omega
    subst this
    exact ⟨env, rfl, h⟩
  | cons d ds ih =>
    intro k env hd hk h
    have hk' : k < items.length := by
      have := congrArg List.length hd
      simp at this
      omega
    rw [List.drop_eq_getElem_cons hk'] at hd
    obtain ⟨e1, e2⟩ := List.cons.inj hd
    obtain ⟨env1, g1, env2, g2, g3⟩ := step k d env (by rw [List.getElem?_eq_getElem hk', e1]) h
    obtain ⟨env', r1, r2⟩ := ih (k + 1) env2 e2 hk' g3
    refine ⟨env', ?_, r2⟩
    unfold forL
    rw [g1]
    rcases g2 with g2 | g2 <;> (simp only; rw [g2]; exact r1)
theorem eLc_of {fi : Ev → R (List D)} {g : D → Ev → Option Ev} {c : Ev → R Bool} {e : Ev → R Ow} {vs : List Nat} {env : Ev} {ds : List D} {rs : List Ow} (h1 : fi env = .ok ds) (hl : ds.length ≤ sizeLine) (h2 : lcR g c e (wipeE env vs) ds = .ok rs) : eLc fi g c e vs env = .ok (.l rs) := by
  unfold eLc
  rw [h1, R.bind_ok, guard_ok hl, h2]
  rfl
def finR : SR → R Ow
  | .nx _ => .ok (.d .none)
  | .rt r _ => .ok r
  | .ex c _ => .ex c
  | _ => .no
theorem runB_fin (k : Nat) (f : Ev → SR) (ds : List D) : runB k f ds = finR (f (envOf k ds)) := by
  unfold runB
  cases f (envOf k ds) <;> rfl
@[simp] theorem finR_nx (env : Ev) : finR (.nx env) = .ok (.d .none) := rfl
@[simp] theorem finR_rt (r : Ow) (env : Ev) : finR (.rt r env) = .ok r := rfl
@[simp] theorem finR_ex (c : Str) (env : Ev) : finR (.ex c env) = .ex c := rfl
@[simp] theorem finR_no : finR .no = .no := rfl
@[simp] theorem envOf_nil (k : Nat) : envOf k [] = List.replicate k none := rfl
@[simp] theorem envOf_cons (k : Nat) (d : D) (ds : List D) : envOf k (d :: ds) = some (.d d) :: envOf k ds := rfl
end Mir
end
set_option Elab.async false
set_option linter.all false
set_option maxRecDepth 100000
set_option maxHeartbeats 4000000
noncomputable section
namespace Mir
open PySem PySem.Spec L2

section
variable {X : Cx} {W : WX} {S : Nat → Bool}
def sNo (_ : Ev) : SR := .no
def inD (d : D) (ds : List D) : Bool := ds.any fun e => PyData.eqv e d
def inOk (d : D) (ds : List D) : Bool := d.canLay0 && decide (d.depth ≤ 130) && ds.all fun e => e.canLay0
def gInB (neg : Bool) : D → D → Option D
  | .str x, .str z => match x.cps.toList with
    | [c] => some (.bool (xor neg (decide (c ∈ z.cps.toList))))
    | _ => none
  | d, .list ds => if inOk d ds = true then some (.bool (xor neg (inD d ds))) else none
  | d, .tuple ds => if inOk d ds = true then some (.bool (xor neg (inD d ds))) else none
  | _, _ => none
def gIn := gInB false
def gNotIn := gInB true
def rInA (K : Kw) (neg : Bool) : R2 := fun x y H Q => ∃ d ds, Dp K H x d ∧ (Dp K H y (.list ds) ∨ Dp K H y (.tuple ds)) ∧ inOk d ds = true ∧ Q (.bl (xor neg (inD d ds))) H
theorem inOk_cases {d : D} {ds : List D} (h : inOk d ds = true) : d.canLay0 = true ∧ d.depth ≤ 130 ∧ ∀ e ∈ ds, e.canLay0 = true := by
  unfold inOk at h
  simp only [Bool.and_eq_true, decide_eq_true_eq, List.all_eq_true] at h
  exact ⟨h.1.1, h.1.2, h.2⟩
open Classical in
/-- what the items answer, by the values -/
def eqW (s : Shared) (d : D) (ds : List D) (u : Value) : Bool := if ∃ e as, e ∈ ds ∧ PySem.Reads s.heap u e as ∧ PyData.eqv e d = true then true else false
theorem eqW_of {s : Shared} {d e : D} {ds : List D} {u : Value} {as : List Addr} (he : e ∈ ds) (hc : ∀ e ∈ ds, e.canLay0 = true) (r : PySem.Reads s.heap u e as) : eqW s d ds u = PyData.eqv e d := by
  unfold eqW
  cases h : PyData.eqv e d with
  | true => exact if_pos ⟨e, as, he, r, h⟩
  | false =>
    refine if_neg fun ⟨e', as', h1, h2, h3⟩ => ?_
    have := SeqAt.Reads.unique e' e u as' as (hc e' h1) h2 r
    subst this
    rw [h] at h3; cases h3
theorem any_eqW {s : Shared} {d : D} {ds0 : List D} (hc : ∀ e ∈ ds0, e.canLay0 = true) : ∀ {ds : List D} {us : List Value}, (∀ e ∈ ds, e ∈ ds0) → PySem.W.EachIs (fun v d => ∃ as, PySem.Reads s.heap v d as) us ds → us.any (eqW s d ds0) = ds.any fun e => PyData.eqv e d
  | _, _, _, .nil => rfl
  | _, _, hs, .cons ⟨as, r⟩ t => by
    rw [List.any_cons, List.any_cons, eqW_of (hs _ List.mem_cons_self) hc r, any_eqW hc (fun e he => hs e (List.mem_cons_of_mem _ he)) t]
theorem eachIs_mem {α β : Type} {T : α → β → Prop} : ∀ {as : List α} {bs : List β}, PySem.W.EachIs T as bs → ∀ a ∈ as, ∃ b ∈ bs, T a b
  | _, _, .nil, a, h => by cases h
  | _, _, .cons h t, a, hm => by
    rcases List.mem_cons.mp hm with e | e
    · subst e; exact ⟨_, List.mem_cons_self, h⟩
    · obtain ⟨b, b1, b2⟩ := eachIs_mem t a e
      exact ⟨b, List.mem_cons_of_mem _ b1, b2⟩
theorem each_reads0 {X : Cx} {pins : List (Addr × Obj)} {s : Shared} {σ : L2.St} {H : Hp} (I : Inv X pins σ H s) : ∀ {xs : List V} {vs : List Value} {ds : List D}, Vals xs vs → DpAll X.KK H xs ds → (∀ d ∈ ds, d.canLay0 = true) → PySem.W.EachIs (fun v d => ∃ as, PySem.Reads s.heap v d as) vs ds
  | _, _, _, .nil, h, _ => by cases h; exact .nil
  | _, _, _, .cons r t, h, c => by
    cases h with
    | cons h1 h2 => exact .cons (L2.Dp.reads I _ _ _ (Dp.kit _ _ h1 (c _ List.mem_cons_self)) r) (each_reads0 I t h2 fun d hd => c d (List.mem_cons_of_mem _ hd))
theorem op_inA (neg : Bool) (hu : X.A.units + 140 < cLine) : OpR X (compareOp (if neg then .NotIn else .In)) (rInA X.KK neg) := by
  intro pins s σ H x y v u Q I rx ry h
  obtain ⟨d, ds, hx, hy, ok, q⟩ := h
  obtain ⟨c1, c2, c3⟩ := inOk_cases ok
  obtain ⟨bs, rd⟩ := L2.Dp.reads I d x v (Dp.kit _ _ hx c1) rx
  have key : ∀ (its : List Value), PySem.W.EachIs (fun v d => ∃ as, PySem.Reads s.heap v d as) its ds → (∀ y, y ∈ its.toArray → SeqAt.EqAt X.A.in1 s y v (eqW s d ds y)) ∧ its.toArray.any (eqW s d ds) = inD d ds := fun its er => by
    refine ⟨fun w hw => ?_, ?_⟩
    · obtain ⟨e, he, as, re⟩ := eachIs_mem er w (by simpa using hw)
      rw [eqW_of he c3 re]
      refine SeqAt.eqAt_reads e d X.A.in1 s w v as bs re rd (c3 e he) c1 ?_
      have := Nat.min_le_right e.depth d.depth
      show X.A.units + 1 + min e.depth d.depth < cLine
      omega
    · rw [show its.toArray.any (eqW s d ds) = its.any (eqW s d ds) by simp, any_eqW c3 (fun _ h => h) er]
      rfl
  rcases hy with hy | hy
  · obtain ⟨p, xs, rfl, h1, h2⟩ := dp_lst hy
    obtain ⟨its, r, pl, hz⟩ := I.list h1
    cases ry
    obtain ⟨k1, k2⟩ := key its (each_reads0 I r h2 c3)
    cases neg with
    | false => exact SeqAt.in_listAt (eqW s d ds) pl.isList k1 ⟨.bl _, H, I, by rw [k2]; rfl, by simpa using q⟩
    | true => exact SeqAt.notIn_listAt (eqW s d ds) pl.isList k1 ⟨.bl _, H, I, by rw [k2]; rfl, by simpa using q⟩
  · obtain ⟨p, xs, rfl, h1, h2⟩ := dp_tup hy
    obtain ⟨its, r, pl, hz⟩ := I.tuple h1
    cases ry
    obtain ⟨k1, k2⟩ := key its (each_reads0 I r h2 c3)
    cases neg with
    | false => exact SeqAt.in_tupleAt (eqW s d ds) pl k1 ⟨.bl _, H, I, by rw [k2]; rfl, by simpa using q⟩
    | true => exact SeqAt.notIn_tupleAt (eqW s d ds) pl k1 ⟨.bl _, H, I, by rw [k2]; rfl, by simpa using q⟩
theorem str_one {x : Str} {c : Nat} (h : x.cps.toList = [c]) : x = ⟨#[c]⟩ := by
  cases x with
  | mk a =>
    have : a = #[c] := Array.toList_inj.mp h
    rw [this]
theorem opS_in {K : Kw} : OpS K (fun x y H Q => rInS x y H Q ∨ rInA K false x y H Q) gIn := by
  intro H x y dx dy d Q hx hy e q
  unfold gIn gInB at e
  split at e
  · rename_i a z
    split at e
    · rename_i c hc
      cases e
      cases dp_str hx
      cases dp_str hy
      exact .inl ⟨c, z, by rw [str_one hc], rfl, by simpa using q _ fun F => .bl _⟩
    · cases e
  · split at e
    · cases e
      exact .inr ⟨_, _, hx, .inl hy, ‹_›, q _ fun F => .bl _⟩
    · cases e
  · split at e
    · cases e
      exact .inr ⟨_, _, hx, .inr hy, ‹_›, q _ fun F => .bl _⟩
    · cases e
  · cases e
theorem opS_notIn {K : Kw} : OpS K (fun x y H Q => rNotInS x y H Q ∨ rInA K true x y H Q) gNotIn := by
  intro H x y dx dy d Q hx hy e q
  unfold gNotIn gInB at e
  split at e
  · rename_i a z
    split at e
    · rename_i c hc
      cases e
      cases dp_str hx
      cases dp_str hy
      exact .inl ⟨c, z, by rw [str_one hc], rfl, by simpa using q _ fun F => .bl _⟩
    · cases e
  · split at e
    · cases e
      exact .inr ⟨_, _, hx, .inl hy, ‹_›, q _ fun F => .bl _⟩
    · cases e
  · split at e
    · cases e
      exact .inr ⟨_, _, hx, .inr hy, ‹_›, q _ fun F => .bl _⟩
    · cases e
  · cases e
variable {a b : Expr} {pos : Pos} {f g : Ev → R D}
theorem op_inF (hu : X.A.units + 140 < cLine) : OpR X (compareOp .In) (rInA X.KK false) := op_inA false hu
theorem op_inT (hu : X.A.units + 140 < cLine) : OpR X (compareOp .NotIn) (rInA X.KK true) := op_inA true hu
theorem df_in (hu : X.A.units + 140 < cLine) (ha : DV X W a f) (hb : DV X W b g) (hm : behindInMarks .In b = false := by first | exact nomark _ | rfl) : DF X W (.Compare a [.In] [b] pos) (eBin gIn f g) := df_cmp (OpR.or op_inS (op_inF hu)) opS_in ha hb hm
theorem dt_in (hu : X.A.units + 140 < cLine) (ha : DV X W a f) (hb : DV X W b g) (hm : behindInMarks .In b = false := by first | exact nomark _ | rfl) : DT X W (.Compare a [.In] [b] pos) (eB (eBin gIn f g) asB) := dt_cmp (OpR.or op_inS (op_inF hu)) opS_in ha hb hm
theorem dt_notIn (hu : X.A.units + 140 < cLine) (ha : DV X W a f) (hb : DV X W b g) (hm : behindInMarks .NotIn b = false := by first | exact nomark _ | rfl) : DT X W (.Compare a [.NotIn] [b] pos) (eB (eBin gNotIn f g) asB) := dt_cmp (OpR.or op_notInS (op_inT hu)) opS_notIn ha hb hm
end
theorem gIn_sign (c : Nat) (z : Str) : gIn (.str ⟨#[c]⟩) (.str z) = some (.bool (decide (c ∈ z.cps.toList))) := by
  show some (PyData.bool (xor false (decide (c ∈ z.cps.toList)))) = _
  simp
@[simp] theorem sNo_eq (env : Ev) : sNo env = .no := rfl
end Mir
end
set_option Elab.async false
set_option linter.all false
set_option maxRecDepth 100000
noncomputable section
namespace Mir
open PySem PySem.Spec L2
@[simp] theorem ownL_7 (a0 a1 a2 a3 a4 a5 a6 : Option Ow) (os : List Ow) (env : Ev) (k : List Ow → SR) : ownL 7 (a0 :: a1 :: a2 :: a3 :: a4 :: a5 :: a6 :: some (.l os) :: env) k = k os := rfl
@[simp] theorem eVarO_8 (a0 a1 a2 a3 a4 a5 a6 a7 : Option Ow) (x : Ow) (env : Ev) : eVarO 8 (a0 :: a1 :: a2 :: a3 :: a4 :: a5 :: a6 :: a7 :: some x :: env) = .ok x := rfl
@[simp] theorem ownL_8 (a0 a1 a2 a3 a4 a5 a6 a7 : Option Ow) (os : List Ow) (env : Ev) (k : List Ow → SR) : ownL 8 (a0 :: a1 :: a2 :: a3 :: a4 :: a5 :: a6 :: a7 :: some (.l os) :: env) k = k os := rfl
@[simp] theorem eVarO_9 (a0 a1 a2 a3 a4 a5 a6 a7 a8 : Option Ow) (x : Ow) (env : Ev) : eVarO 9 (a0 :: a1 :: a2 :: a3 :: a4 :: a5 :: a6 :: a7 :: a8 :: some x :: env) = .ok x := rfl
@[simp] theorem ownL_9 (a0 a1 a2 a3 a4 a5 a6 a7 a8 : Option Ow) (os : List Ow) (env : Ev) (k : List Ow → SR) : ownL 9 (a0 :: a1 :: a2 :: a3 :: a4 :: a5 :: a6 :: a7 :: a8 :: some (.l os) :: env) k = k os := rfl
@[simp] theorem eVar_10 (a0 a1 a2 a3 a4 a5 a6 a7 a8 a9 : Option Ow) (x : D) (env : Ev) : eVar 10 (a0 :: a1 :: a2 :: a3 :: a4 :: a5 :: a6 :: a7 :: a8 :: a9 :: some (.d x) :: env) = .ok x := rfl
@[simp] theorem eVarO_10 (a0 a1 a2 a3 a4 a5 a6 a7 a8 a9 : Option Ow) (x : Ow) (env : Ev) : eVarO 10 (a0 :: a1 :: a2 :: a3 :: a4 :: a5 :: a6 :: a7 :: a8 :: a9 :: some x :: env) = .ok x := rfl
@[simp] theorem ownL_10 (a0 a1 a2 a3 a4 a5 a6 a7 a8 a9 : Option Ow) (os : List Ow) (env : Ev) (k : List Ow → SR) : ownL 10 (a0 :: a1 :: a2 :: a3 :: a4 :: a5 :: a6 :: a7 :: a8 :: a9 :: some (.l os) :: env) k = k os := rfl
@[simp] theorem eVar_11 (a0 a1 a2 a3 a4 a5 a6 a7 a8 a9 a10 : Option Ow) (x : D) (env : Ev) : eVar 11 (a0 :: a1 :: a2 :: a3 :: a4 :: a5 :: a6 :: a7 :: a8 :: a9 :: a10 :: some (.d x) :: env) = .ok x := rfl
@[simp] theorem eVarO_11 (a0 a1 a2 a3 a4 a5 a6 a7 a8 a9 a10 : Option Ow) (x : Ow) (env : Ev) : eVarO 11 (a0 :: a1 :: a2 :: a3 :: a4 :: a5 :: a6 :: a7 :: a8 :: a9 :: a10 :: some x :: env) = .ok x := rfl
@[simp] theorem ownL_11 (a0 a1 a2 a3 a4 a5 a6 a7 a8 a9 a10 : Option Ow) (os : List Ow) (env : Ev) (k : List Ow → SR) : ownL 11 (a0 :: a1 :: a2 :: a3 :: a4 :: a5 :: a6 :: a7 :: a8 :: a9 :: a10 :: some (.l os) :: env) k = k os := rfl
@[simp] theorem eVar_12 (a0 a1 a2 a3 a4 a5 a6 a7 a8 a9 a10 a11 : Option Ow) (x : D) (env : Ev) : eVar 12 (a0 :: a1 :: a2 :: a3 :: a4 :: a5 :: a6 :: a7 :: a8 :: a9 :: a10 :: a11 :: some (.d x) :: env) = .ok x := rfl
@[simp] theorem eVarO_12 (a0 a1 a2 a3 a4 a5 a6 a7 a8 a9 a10 a11 : Option Ow) (x : Ow) (env : Ev) : eVarO 12 (a0 :: a1 :: a2 :: a3 :: a4 :: a5 :: a6 :: a7 :: a8 :: a9 :: a10 :: a11 :: some x :: env) = .ok x := rfl
@[simp] theorem ownL_12 (a0 a1 a2 a3 a4 a5 a6 a7 a8 a9 a10 a11 : Option Ow) (os : List Ow) (env : Ev) (k : List Ow → SR) : ownL 12 (a0 :: a1 :: a2 :: a3 :: a4 :: a5 :: a6 :: a7 :: a8 :: a9 :: a10 :: a11 :: some (.l os) :: env) k = k os := rfl
@[simp] theorem eVar_13 (a0 a1 a2 a3 a4 a5 a6 a7 a8 a9 a10 a11 a12 : Option Ow) (x : D) (env : Ev) : eVar 13 (a0 :: a1 :: a2 :: a3 :: a4 :: a5 :: a6 :: a7 :: a8 :: a9 :: a10 :: a11 :: a12 :: some (.d x) :: env) = .ok x := rfl
@[simp] theorem eVarO_13 (a0 a1 a2 a3 a4 a5 a6 a7 a8 a9 a10 a11 a12 : Option Ow) (x : Ow) (env : Ev) : eVarO 13 (a0 :: a1 :: a2 :: a3 :: a4 :: a5 :: a6 :: a7 :: a8 :: a9 :: a10 :: a11 :: a12 :: some x :: env) = .ok x := rfl
@[simp] theorem ownL_13 (a0 a1 a2 a3 a4 a5 a6 a7 a8 a9 a10 a11 a12 : Option Ow) (os : List Ow) (env : Ev) (k : List Ow → SR) : ownL 13 (a0 :: a1 :: a2 :: a3 :: a4 :: a5 :: a6 :: a7 :: a8 :: a9 :: a10 :: a11 :: a12 :: some (.l os) :: env) k = k os := rfl
@[simp] theorem eVar_14 (a0 a1 a2 a3 a4 a5 a6 a7 a8 a9 a10 a11 a12 a13 : Option Ow) (x : D) (env : Ev) : eVar 14 (a0 :: a1 :: a2 :: a3 :: a4 :: a5 :: a6 :: a7 :: a8 :: a9 :: a10 :: a11 :: a12 :: a13 :: some (.d x) :: env) = .ok x := rfl
@[simp] theorem eVarO_14 (a0 a1 a2 a3 a4 a5 a6 a7 a8 a9 a10 a11 a12 a13 : Option Ow) (x : Ow) (env : Ev) : eVarO 14 (a0 :: a1 :: a2 :: a3 :: a4 :: a5 :: a6 :: a7 :: a8 :: a9 :: a10 :: a11 :: a12 :: a13 :: some x :: env) = .ok x := rfl
@[simp] theorem ownL_14 (a0 a1 a2 a3 a4 a5 a6 a7 a8 a9 a10 a11 a12 a13 : Option Ow) (os : List Ow) (env : Ev) (k : List Ow → SR) : ownL 14 (a0 :: a1 :: a2 :: a3 :: a4 :: a5 :: a6 :: a7 :: a8 :: a9 :: a10 :: a11 :: a12 :: a13 :: some (.l os) :: env) k = k os := rfl
@[simp] theorem eVar_15 (a0 a1 a2 a3 a4 a5 a6 a7 a8 a9 a10 a11 a12 a13 a14 : Option Ow) (x : D) (env : Ev) : eVar 15 (a0 :: a1 :: a2 :: a3 :: a4 :: a5 :: a6 :: a7 :: a8 :: a9 :: a10 :: a11 :: a12 :: a13 :: a14 :: some (.d x) :: env) = .ok x := rfl
@[simp] theorem eVarO_15 (a0 a1 a2 a3 a4 a5 a6 a7 a8 a9 a10 a11 a12 a13 a14 : Option Ow) (x : Ow) (env : Ev) : eVarO 15 (a0 :: a1 :: a2 :: a3 :: a4 :: a5 :: a6 :: a7 :: a8 :: a9 :: a10 :: a11 :: a12 :: a13 :: a14 :: some x :: env) = .ok x := rfl
@[simp] theorem ownL_15 (a0 a1 a2 a3 a4 a5 a6 a7 a8 a9 a10 a11 a12 a13 a14 : Option Ow) (os : List Ow) (env : Ev) (k : List Ow → SR) : ownL 15 (a0 :: a1 :: a2 :: a3 :: a4 :: a5 :: a6 :: a7 :: a8 :: a9 :: a10 :: a11 :: a12 :: a13 :: a14 :: some (.l os) :: env) k = k os := rfl
@[simp] theorem eVar_16 (a0 a1 a2 a3 a4 a5 a6 a7 a8 a9 a10 a11 a12 a13 a14 a15 : Option Ow) (x : D) (env : Ev) : eVar 16 (a0 :: a1 :: a2 :: a3 :: a4 :: a5 :: a6 :: a7 :: a8 :: a9 :: a10 :: a11 :: a12 :: a13 :: a14 :: a15 :: some (.d x) :: env) = .ok x := rfl
@[simp] theorem eVarO_16 (a0 a1 a2 a3 a4 a5 a6 a7 a8 a9 a10 a11 a12 a13 a14 a15 : Option Ow) (x : Ow) (env : Ev) : eVarO 16 (a0 :: a1 :: a2 :: a3 :: a4 :: a5 :: a6 :: a7 :: a8 :: a9 :: a10 :: a11 :: a12 :: a13 :: a14 :: a15 :: some x :: env) = .ok x := rfl
@[simp] theorem ownL_16 (a0 a1 a2 a3 a4 a5 a6 a7 a8 a9 a10 a11 a12 a13 a14 a15 : Option Ow) (os : List Ow) (env : Ev) (k : List Ow → SR) : ownL 16 (a0 :: a1 :: a2 :: a3 :: a4 :: a5 :: a6 :: a7 :: a8 :: a9 :: a10 :: a11 :: a12 :: a13 :: a14 :: a15 :: some (.l os) :: env) k = k os := rfl
@[simp] theorem eVar_17 (a0 a1 a2 a3 a4 a5 a6 a7 a8 a9 a10 a11 a12 a13 a14 a15 a16 : Option Ow) (x : D) (env : Ev) : eVar 17 (a0 :: a1 :: a2 :: a3 :: a4 :: a5 :: a6 :: a7 :: a8 :: a9 :: a10 :: a11 :: a12 :: a13 :: a14 :: a15 :: a16 :: some (.d x) :: env) = .ok x := rfl
@[simp] theorem eVarO_17 (a0 a1 a2 a3 a4 a5 a6 a7 a8 a9 a10 a11 a12 a13 a14 a15 a16 : Option Ow) (x : Ow) (env : Ev) : eVarO 17 (a0 :: a1 :: a2 :: a3 :: a4 :: a5 :: a6 :: a7 :: a8 :: a9 :: a10 :: a11 :: a12 :: a13 :: a14 :: a15 :: a16 :: some x :: env) = .ok x := rfl
@[simp] theorem ownL_17 (a0 a1 a2 a3 a4 a5 a6 a7 a8 a9 a10 a11 a12 a13 a14 a15 a16 : Option Ow) (os : List Ow) (env : Ev) (k : List Ow → SR) : ownL 17 (a0 :: a1 :: a2 :: a3 :: a4 :: a5 :: a6 :: a7 :: a8 :: a9 :: a10 :: a11 :: a12 :: a13 :: a14 :: a15 :: a16 :: some (.l os) :: env) k = k os := rfl
@[simp] theorem eVar_18 (a0 a1 a2 a3 a4 a5 a6 a7 a8 a9 a10 a11 a12 a13 a14 a15 a16 a17 : Option Ow) (x : D) (env : Ev) : eVar 18 (a0 :: a1 :: a2 :: a3 :: a4 :: a5 :: a6 :: a7 :: a8 :: a9 :: a10 :: a11 :: a12 :: a13 :: a14 :: a15 :: a16 :: a17 :: some (.d x) :: env) = .ok x := rfl
@[simp] theorem eVarO_18 (a0 a1 a2 a3 a4 a5 a6 a7 a8 a9 a10 a11 a12 a13 a14 a15 a16 a17 : Option Ow) (x : Ow) (env : Ev) : eVarO 18 (a0 :: a1 :: a2 :: a3 :: a4 :: a5 :: a6 :: a7 :: a8 :: a9 :: a10 :: a11 :: a12 :: a13 :: a14 :: a15 :: a16 :: a17 :: some x :: env) = .ok x := rfl
@[simp] theorem ownL_18 (a0 a1 a2 a3 a4 a5 a6 a7 a8 a9 a10 a11 a12 a13 a14 a15 a16 a17 : Option Ow) (os : List Ow) (env : Ev) (k : List Ow → SR) : ownL 18 (a0 :: a1 :: a2 :: a3 :: a4 :: a5 :: a6 :: a7 :: a8 :: a9 :: a10 :: a11 :: a12 :: a13 :: a14 :: a15 :: a16 :: a17 :: some (.l os) :: env) k = k os := rfl
@[simp] theorem eVar_19 (a0 a1 a2 a3 a4 a5 a6 a7 a8 a9 a10 a11 a12 a13 a14 a15 a16 a17 a18 : Option Ow) (x : D) (env : Ev) : eVar 19 (a0 :: a1 :: a2 :: a3 :: a4 :: a5 :: a6 :: a7 :: a8 :: a9 :: a10 :: a11 :: a12 :: a13 :: a14 :: a15 :: a16 :: a17 :: a18 :: some (.d x) :: env) = .ok x := rfl
@[simp] theorem eVarO_19 (a0 a1 a2 a3 a4 a5 a6 a7 a8 a9 a10 a11 a12 a13 a14 a15 a16 a17 a18 : Option Ow) (x : Ow) (env : Ev) : eVarO 19 (a0 :: a1 :: a2 :: a3 :: a4 :: a5 :: a6 :: a7 :: a8 :: a9 :: a10 :: a11 :: a12 :: a13 :: a14 :: a15 :: a16 :: a17 :: a18 :: some x :: env) = .ok x := rfl
@[simp] theorem ownL_19 (a0 a1 a2 a3 a4 a5 a6 a7 a8 a9 a10 a11 a12 a13 a14 a15 a16 a17 a18 : Option Ow) (os : List Ow) (env : Ev) (k : List Ow → SR) : ownL 19 (a0 :: a1 :: a2 :: a3 :: a4 :: a5 :: a6 :: a7 :: a8 :: a9 :: a10 :: a11 :: a12 :: a13 :: a14 :: a15 :: a16 :: a17 :: a18 :: some (.l os) :: env) k = k os := rfl
@[simp] theorem eVar_20 (a0 a1 a2 a3 a4 a5 a6 a7 a8 a9 a10 a11 a12 a13 a14 a15 a16 a17 a18 a19 : Option Ow) (x : D) (env : Ev) : eVar 20 (a0 :: a1 :: a2 :: a3 :: a4 :: a5 :: a6 :: a7 :: a8 :: a9 :: a10 :: a11 :: a12 :: a13 :: a14 :: a15 :: a16 :: a17 :: a18 :: a19 :: some (.d x) :: env) = .ok x := rfl
@[simp] theorem eVarO_20 (a0 a1 a2 a3 a4 a5 a6 a7 a8 a9 a10 a11 a12 a13 a14 a15 a16 a17 a18 a19 : Option Ow) (x : Ow) (env : Ev) : eVarO 20 (a0 :: a1 :: a2 :: a3 :: a4 :: a5 :: a6 :: a7 :: a8 :: a9 :: a10 :: a11 :: a12 :: a13 :: a14 :: a15 :: a16 :: a17 :: a18 :: a19 :: some x :: env) = .ok x := rfl
@[simp] theorem ownL_20 (a0 a1 a2 a3 a4 a5 a6 a7 a8 a9 a10 a11 a12 a13 a14 a15 a16 a17 a18 a19 : Option Ow) (os : List Ow) (env : Ev) (k : List Ow → SR) : ownL 20 (a0 :: a1 :: a2 :: a3 :: a4 :: a5 :: a6 :: a7 :: a8 :: a9 :: a10 :: a11 :: a12 :: a13 :: a14 :: a15 :: a16 :: a17 :: a18 :: a19 :: some (.l os) :: env) k = k os := rfl
@[simp] theorem eVar_21 (a0 a1 a2 a3 a4 a5 a6 a7 a8 a9 a10 a11 a12 a13 a14 a15 a16 a17 a18 a19 a20 : Option Ow) (x : D) (env : Ev) : eVar 21 (a0 :: a1 :: a2 :: a3 :: a4 :: a5 :: a6 :: a7 :: a8 :: a9 :: a10 :: a11 :: a12 :: a13 :: a14 :: a15 :: a16 :: a17 :: a18 :: a19 :: a20 :: some (.d x) :: env) = .ok x := rfl
@[simp] theorem eVarO_21 (a0 a1 a2 a3 a4 a5 a6 a7 a8 a9 a10 a11 a12 a13 a14 a15 a16 a17 a18 a19 a20 : Option Ow) (x : Ow) (env : Ev) : eVarO 21 (a0 :: a1 :: a2 :: a3 :: a4 :: a5 :: a6 :: a7 :: a8 :: a9 :: a10 :: a11 :: a12 :: a13 :: a14 :: a15 :: a16 :: a17 :: a18 :: a19 :: a20 :: some x :: env) = .ok x := rfl
@[simp] theorem ownL_21 (a0 a1 a2 a3 a4 a5 a6 a7 a8 a9 a10 a11 a12 a13 a14 a15 a16 a17 a18 a19 a20 : Option Ow) (os : List Ow) (env : Ev) (k : List Ow → SR) : ownL 21 (a0 :: a1 :: a2 :: a3 :: a4 :: a5 :: a6 :: a7 :: a8 :: a9 :: a10 :: a11 :: a12 :: a13 :: a14 :: a15 :: a16 :: a17 :: a18 :: a19 :: a20 :: some (.l os) :: env) k = k os := rfl
@[simp] theorem eVar_22 (a0 a1 a2 a3 a4 a5 a6 a7 a8 a9 a10 a11 a12 a13 a14 a15 a16 a17 a18 a19 a20 a21 : Option Ow) (x : D) (env : Ev) : eVar 22 (a0 :: a1 :: a2 :: a3 :: a4 :: a5 :: a6 :: a7 :: a8 :: a9 :: a10 :: a11 :: a12 :: a13 :: a14 :: a15 :: a16 :: a17 :: a18 :: a19 :: a20 :: a21 :: some (.d x) :: env) = .ok x := rfl
@[simp] theorem eVarO_22 (a0 a1 a2 a3 a4 a5 a6 a7 a8 a9 a10 a11 a12 a13 a14 a15 a16 a17 a18 a19 a20 a21 : Option Ow) (x : Ow) (env : Ev) : eVarO 22 (a0 :: a1 :: a2 :: a3 :: a4 :: a5 :: a6 :: a7 :: a8 :: a9 :: a10 :: a11 :: a12 :: a13 :: a14 :: a15 :: a16 :: a17 :: a18 :: a19 :: a20 :: a21 :: some x :: env) = .ok x := rfl
@[simp] theorem ownL_22 (a0 a1 a2 a3 a4 a5 a6 a7 a8 a9 a10 a11 a12 a13 a14 a15 a16 a17 a18 a19 a20 a21 : Option Ow) (os : List Ow) (env : Ev) (k : List Ow → SR) : ownL 22 (a0 :: a1 :: a2 :: a3 :: a4 :: a5 :: a6 :: a7 :: a8 :: a9 :: a10 :: a11 :: a12 :: a13 :: a14 :: a15 :: a16 :: a17 :: a18 :: a19 :: a20 :: a21 :: some (.l os) :: env) k = k os := rfl
@[simp] theorem eVar_23 (a0 a1 a2 a3 a4 a5 a6 a7 a8 a9 a10 a11 a12 a13 a14 a15 a16 a17 a18 a19 a20 a21 a22 : Option Ow) (x : D) (env : Ev) : eVar 23 (a0 :: a1 :: a2 :: a3 :: a4 :: a5 :: a6 :: a7 :: a8 :: a9 :: a10 :: a11 :: a12 :: a13 :: a14 :: a15 :: a16 :: a17 :: a18 :: a19 :: a20 :: a21 :: a22 :: some (.d x) :: env) = .ok x := rfl
@[simp] theorem eVarO_23 (a0 a1 a2 a3 a4 a5 a6 a7 a8 a9 a10 a11 a12 a13 a14 a15 a16 a17 a18 a19 a20 a21 a22 : Option Ow) (x : Ow) (env : Ev) : eVarO 23 (a0 :: a1 :: a2 :: a3 :: a4 :: a5 :: a6 :: a7 :: a8 :: a9 :: a10 :: a11 :: a12 :: a13 :: a14 :: a15 :: a16 :: a17 :: a18 :: a19 :: a20 :: a21 :: a22 :: some x :: env) = .ok x := rfl
@[simp] theorem ownL_23 (a0 a1 a2 a3 a4 a5 a6 a7 a8 a9 a10 a11 a12 a13 a14 a15 a16 a17 a18 a19 a20 a21 a22 : Option Ow) (os : List Ow) (env : Ev) (k : List Ow → SR) : ownL 23 (a0 :: a1 :: a2 :: a3 :: a4 :: a5 :: a6 :: a7 :: a8 :: a9 :: a10 :: a11 :: a12 :: a13 :: a14 :: a15 :: a16 :: a17 :: a18 :: a19 :: a20 :: a21 :: a22 :: some (.l os) :: env) k = k os := rfl
@[simp] theorem eVar_24 (a0 a1 a2 a3 a4 a5 a6 a7 a8 a9 a10 a11 a12 a13 a14 a15 a16 a17 a18 a19 a20 a21 a22 a23 : Option Ow) (x : D) (env : Ev) : eVar 24 (a0 :: a1 :: a2 :: a3 :: a4 :: a5 :: a6 :: a7 :: a8 :: a9 :: a10 :: a11 :: a12 :: a13 :: a14 :: a15 :: a16 :: a17 :: a18 :: a19 :: a20 :: a21 :: a22 :: a23 :: some (.d x) :: env) = .ok x := rfl
@[simp] theorem eVarO_24 (a0 a1 a2 a3 a4 a5 a6 a7 a8 a9 a10 a11 a12 a13 a14 a15 a16 a17 a18 a19 a20 a21 a22 a23 : Option Ow) (x : Ow) (env : Ev) : eVarO 24 (a0 :: a1 :: a2 :: a3 :: a4 :: a5 :: a6 :: a7 :: a8 :: a9 :: a10 :: a11 :: a12 :: a13 :: a14 :: a15 :: a16 :: a17 :: a18 :: a19 :: a20 :: a21 :: a22 :: a23 :: some x :: env) = .ok x := rfl
@[simp] theorem ownL_24 (a0 a1 a2 a3 a4 a5 a6 a7 a8 a9 a10 a11 a12 a13 a14 a15 a16 a17 a18 a19 a20 a21 a22 a23 : Option Ow) (os : List Ow) (env : Ev) (k : List Ow → SR) : ownL 24 (a0 :: a1 :: a2 :: a3 :: a4 :: a5 :: a6 :: a7 :: a8 :: a9 :: a10 :: a11 :: a12 :: a13 :: a14 :: a15 :: a16 :: a17 :: a18 :: a19 :: a20 :: a21 :: a22 :: a23 :: some (.l os) :: env) k = k os := rfl
@[simp] theorem eVar_25 (a0 a1 a2 a3 a4 a5 a6 a7 a8 a9 a10 a11 a12 a13 a14 a15 a16 a17 a18 a19 a20 a21 a22 a23 a24 : Option Ow) (x : D) (env : Ev) : eVar 25 (a0 :: a1 :: a2 :: a3 :: a4 :: a5 :: a6 :: a7 :: a8 :: a9 :: a10 :: a11 :: a12 :: a13 :: a14 :: a15 :: a16 :: a17 :: a18 :: a19 :: a20 :: a21 :: a22 :: a23 :: a24 :: some (.d x) :: env) = .ok x := rfl
@[simp] theorem eVarO_25 (a0 a1 a2 a3 a4 a5 a6 a7 a8 a9 a10 a11 a12 a13 a14 a15 a16 a17 a18 a19 a20 a21 a22 a23 a24 : Option Ow) (x : Ow) (env : Ev) : eVarO 25 (a0 :: a1 :: a2 :: a3 :: a4 :: a5 :: a6 :: a7 :: a8 :: a9 :: a10 :: a11 :: a12 :: a13 :: a14 :: a15 :: a16 :: a17 :: a18 :: a19 :: a20 :: a21 :: a22 :: a23 :: a24 :: some x :: env) = .ok x := rfl
@[simp] theorem ownL_25 (a0 a1 a2 a3 a4 a5 a6 a7 a8 a9 a10 a11 a12 a13 a14 a15 a16 a17 a18 a19 a20 a21 a22 a23 a24 : Option Ow) (os : List Ow) (env : Ev) (k : List Ow → SR) : ownL 25 (a0 :: a1 :: a2 :: a3 :: a4 :: a5 :: a6 :: a7 :: a8 :: a9 :: a10 :: a11 :: a12 :: a13 :: a14 :: a15 :: a16 :: a17 :: a18 :: a19 :: a20 :: a21 :: a22 :: a23 :: a24 :: some (.l os) :: env) k = k os := rfl
theorem fin_step {f g : Ev → SR} {env env1 : Ev} {o : R Ow} (h1 : f env = .nx env1) (h2 : finR (g env1) = o) : finR (sSeq f g env) = o := by
  rw [sSeq_eq, h1]
  exact h2
end Mir
end
set_option Elab.async false
set_option linter.all false
set_option maxRecDepth 100000
set_option maxHeartbeats 4000000
noncomputable section
namespace Mir
open PySem PySem.Spec L2

def PostX (K : Kw) {α β : Type} (P : Hp → α → β → Prop) (F H : Hp) (fp : List Addr) (σ : L2.St) : R (α × Ev) → (β → Hp → Prop) → Prop
  | .ok (a, env), Q => ∀ v F' H' fp', StepS F H fp F' H' fp' → Sat K F' H' σ env fp' → P F' a v → Q v H'
  | _, _ => False
def SmX (K : Kw) {α β : Type} (P : Hp → α → β → Prop) (t : L2.St → Hp → (β → Hp → Prop) → Prop) (f : Ev → R (α × Ev)) : Prop :=
  ∀ F H σ env fp Q, Sat K F H σ env fp → PostX K P F H fp σ (f env) Q → t σ H Q
def XD (K : Kw) (F : Hp) (d : D) (v : V) : Prop := Dp K F v d
section
variable {K : Kw} {α β γ δ : Type} {P : Hp → α → β → Prop} {P2 : Hp → γ → δ → Prop} {F H F1 H1 : Hp} {fp fp1 : List Addr} {σ : L2.St}
theorem PostX.step {r : R (α × Ev)} {Q : β → Hp → Prop} (h : PostX K P F H fp σ r Q) (s : StepS F H fp F1 H1 fp1) : PostX K P F1 H1 fp1 σ r Q := by
  cases r with
  | no => exact h
  | ex c => exact h
  | ok p => exact fun v F' H' fp' s' => h v F' H' fp' (s.trans s')
theorem SmX.go {t : L2.St → Hp → (β → Hp → Prop) → Prop} {f : Ev → R (α × Ev)} (s : SmX K P t f) {g : α × Ev → R (γ × Ev)} {env : Ev} {Q : δ → Hp → Prop} {T : β → Hp → Prop} (sat : Sat K F H σ env fp) (h : PostX K P2 F H fp σ ((f env).bind g) Q)
    (k : ∀ a env1 v F1 H1 fp1, StepS F H fp F1 H1 fp1 → Sat K F1 H1 σ env1 fp1 → P F1 a v → PostX K P2 F1 H1 fp1 σ (g (a, env1)) Q → T v H1) : t σ H T := by
  refine s F H σ env fp T sat ?_
  cases e : f env with
  | no => rw [e] at h; exact h
  | ex c => rw [e] at h; exact h
  | ok p =>
    obtain ⟨a, env1⟩ := p
    rw [e] at h
    exact fun v F' H' fp' st sat' q => k a env1 v F' H' fp' st sat' q (PostX.step (show PostX K P2 F H fp σ (g (a, env1)) Q from h) st)
end
section
variable (X : Cx)
def DXF (e : Expr) (f : Ev → R (D × Ev)) : Prop := ∃ t, PE X e t ∧ SmX X.KK (XD X.KK) t f
end
section
variable {X : Cx} {W : WX} {e a b : Expr} {es : List Expr} {pos p : Pos} {x : Str}
/-- a plain expression -/
def xP (f : Ev → R D) (env : Ev) : R (D × Ev) := match f env with
  | .ok d => .ok (d, env)
  | _ => .no
def xBin (g : D → D → Option D) (f h : Ev → R (D × Ev)) (env : Ev) : R (D × Ev) := (f env).bind fun p => (h p.2).bind fun q => (R.of (g p.1 q.1)).bind fun d => .ok (d, q.2)
def xNil (env : Ev) : R (List D × Ev) := .ok ([], env)
def xCons (f : Ev → R (D × Ev)) (g : Ev → R (List D × Ev)) (env : Ev) : R (List D × Ev) := (f env).bind fun p => (g p.2).bind fun q => .ok (p.1 :: q.1, q.2)
/-- a def that changes nothing, called -/
def xCall (m : List D → R Ow) (fa : Ev → R (List D × Ev)) (env : Ev) : R (D × Ev) := (fa env).bind fun p => match m p.1 with
  | .ok r => .ok (viewD r, p.2)
  | _ => .no
def lstAt (i : Nat) (env : Ev) : Option (List D) := match env[i]? with
  | some (some (.l os)) => unDs os
  | _ => none
end
end Mir
end
set_option Elab.async false
set_option linter.all false
set_option maxRecDepth 100000
set_option maxHeartbeats 4000000
noncomputable section
namespace Mir
open PySem PySem.Spec L2

def tOfX (K : Kw) (f : Ev → R (D × Ev)) : TE := fun σ H Q => ∃ F env fp, Sat K F H σ env fp ∧ PostX K (XD K) F H fp σ (f env) Q
theorem DXF.can {X : Cx} {e : Expr} {f : Ev → R (D × Ev)} (h : DXF X e f) : PE X e (tOfX X.KK f) := by
  obtain ⟨t, p, s⟩ := h
  refine PE.imp p ?_
  rintro σ H Q ⟨F, env, fp, sat, h⟩
  exact s F H σ env fp Q sat h
theorem EnvAt.re {K : Kw} {F H : Hp} {σ : L2.St} {env : Ev} {fp : List Addr} (h : EnvAt K F H σ env fp) : ∀ {σ' : L2.St}, σ'.length = σ.length → (∀ (j : Nat) (o : Ow), env[j]? = some (some o) → σ'[j]? = σ[j]?) → EnvAt K F H σ' env fp := by
  induction h with
  | nil =>
    intro σ' hl _
    cases σ' with
    | nil => exact .nil
    | cons => simp at hl
  | @non x σ env fp h ih =>
    intro σ' hl hs
    cases σ' with
    | nil => simp at hl
    | cons y σ' => exact .non (ih (by simpa using hl) fun j o e => by simpa using hs (j + 1) o (by simpa using e))
  | @som v o σ env fp fps h1 h2 ih =>
    intro σ' hl hs
    cases σ' with
    | nil => simp at hl
    | cons y σ' =>
      have := hs 0 o rfl
      simp at this
      subst this
      exact .som h1 (ih (by simpa using hl) fun j o e => by simpa using hs (j + 1) o (by simpa using e))
section
variable {X : Cx} {W : WX} {S : Nat → Bool} {pos : Pos}
def xSet (i : Nat) (r : R (D × Ev)) : SR := match r with
  | .ok (d, env1) => if i < env1.length then .nx (env1.set i (some (.d d))) else .no
  | _ => .no
def sXSet (i : Nat) (f : Ev → R (D × Ev)) (env : Ev) : SR := xSet i (f env)
def sXRet (f : Ev → R (D × Ev)) (env : Ev) : SR := match f env with
  | .ok (d, env1) => .rt (.d d) env1
  | _ => .no
/-- tuple(e), list handed -/
def xCa (g : List D → Option Ow) (fa : Ev → R (List D × Ev)) (env : Ev) : R (D × Ev) := (fa env).bind fun p => match g p.1 with
  | some r => .ok (viewD r, p.2)
  | none => .no
end
section
variable {P : Program} {w : World} {K : PySem.W.Frag} {mg : Str → Option Value} {base : Heap}
end
end Mir
end
set_option Elab.async false
set_option linter.all false
set_option maxRecDepth 100000
set_option maxHeartbeats 4000000
noncomputable section
namespace RT
open PySem PySem.Spec PyProof.Rows
section
variable {prog : Program} {w : World} {A : Around} {E : Value → Shared → Prop} {s : Shared}
end
end RT
namespace Mir
open PySem PySem.Spec PyProof.Rows L2 RT
section
variable {X : Cx} {W : WX}
def gListRev : D → Option Ow
  | .list ds => some (.l (ds.reverse.map Ow.d))
  | _ => none
@[simp] theorem gListRev_list (ds : List D) : gListRev (.list ds) = some (.l (ds.reverse.map Ow.d)) := rfl
theorem DpAll.reverse {K : Kw} {H : Hp} : ∀ {ds : List D} {vs : List V}, DpAll K H vs ds → DpAll K H vs.reverse ds.reverse
  | [], _, h => by cases h; exact .nil
  | d :: ds, _, h => by
    cases h with
    | cons h1 h2 =>
      rw [List.reverse_cons, List.reverse_cons]
      exact Mir.DpAll.append (DpAll.reverse h2) (.cons h1 .nil)
def eListRev (f : Ev → R D) (env : Ev) : R Ow := (f env).bind fun d => R.of (gListRev d)
@[simp] theorem eListRev_eq (f : Ev → R D) (env : Ev) : eListRev f env = (f env).bind fun d => R.of (gListRev d) := rfl
end
end Mir
end
set_option Elab.async false
set_option linter.all false
set_option maxRecDepth 100000
set_option maxHeartbeats 4000000
noncomputable section
namespace Mir
open PySem PySem.Spec PyProof.Rows L2
def repS (z : Str) (n : Nat) : Str := ⟨(List.replicate n z.cps.toList).flatten.toArray⟩
theorem foldl_rep (a : Array Nat) : ∀ (n : Nat) (b : Array Nat), ((List.replicate n a).foldl (· ++ ·) b) = ⟨b.toList ++ (List.replicate n a.toList).flatten⟩
  | 0, b => by simp
  | n + 1, b => by
    rw [List.replicate_succ, List.foldl_cons, foldl_rep a n, List.replicate_succ, List.flatten_cons]
    simp
section
variable {X : Cx} {W : WX} {a b : Expr} {pos : Pos} {f g : Ev → R D}
theorem op_mul_strN : OpR X (binaryOp .Mult) (fun x y H Q => ∃ (z : Str) (n : Nat), x = .str z ∧ y = .int (n : Int) ∧ 1 ≤ n ∧ n ≤ 1000000 ∧ z.length * n ≤ sizeLine ∧ Q (.str (repS z n)) H) := by
  intro pins s σ H x y v u Q I rx ry h
  obtain ⟨z, n, rfl, rfl, h1, hn, hz, q⟩ := h
  obtain ⟨t, rfl⟩ := rx
  obtain ⟨t', rfl⟩ := ry
  have s0 : sizeLine = 16777216 := sizeLine_eq
  refine PySem.P.mul_str ?_ (fun _ _ => ?_) (fun _ _ => ?_) ?_
  · rw [decide_eq_false (by omega), decide_eq_false (by omega)]; rfl
  · rw [Int.not_lt]
    refine Int.le_ediv_of_mul_le (by omega) ?_
    have : ((z.length * n : Nat) : Int) ≤ 16777216 := by omega
    rw [Int.natCast_mul] at this
    omega
  · unfold Builtin.Str.tooLong
    rw [Int.toNat_natCast]
    exact decide_eq_false (by omega)
  · rw [if_neg (by omega)]
    have e1 : (⟨(List.replicate (n : Int).toNat z.cps).foldl (· ++ ·) #[]⟩ : Str) = repS z n := by
      rw [foldl_rep, Int.toNat_natCast]
      unfold repS
      simp
    split
    · rename_i c
      have ez : repS z n = z := by
        unfold repS
        simp only [Bool.or_eq_true, beq_iff_eq] at c
        rcases c with c | c
        · have : n = 1 := by omega
          subst this
          simp
        · have : z.cps.toList = [] := by
            have : z.cps.size = 0 := c
            simpa using this
          rw [this]
          cases z with
          | mk a => simp at this ⊢; subst this; simp
      rw [ez] at q
      exact ⟨.str z, H, I, ⟨_, rfl⟩, q⟩
    · rw [e1]
      refine ⟨?_, ⟨.str (repS z n), H, I.tok _, ⟨_, rfl⟩, q⟩⟩
      have : (repS z n).length = n * z.length := by
        show (repS z n).cps.size = n * z.cps.size
        unfold repS
        simp
      rw [this, Nat.mul_comm]
      exact hz
def gMulS : D → D → Option D
  | .int i, .int j => gMul (.int i) (.int j)
  | .str z, .int n => if 1 ≤ n ∧ n ≤ 1000000 ∧ z.length * n.toNat ≤ sizeLine then some (.str (repS z n.toNat)) else none
  | _, _ => none
@[simp] theorem gMulS_int (i j : Int) : gMulS (.int i) (.int j) = gMul (.int i) (.int j) := rfl
theorem op_mulSV : OpR X (binaryOp .Mult) (fun x y H Q => rI (fun i j => CMul i j ∨ CMulW i j) (fun i j => .int (i * j)) x y H Q ∨ ∃ (z : Str) (n : Nat), x = .str z ∧ y = .int (n : Int) ∧ 1 ≤ n ∧ n ≤ 1000000 ∧ z.length * n ≤ sizeLine ∧ Q (.str (repS z n)) H) := OpR.or op_mulV op_mul_strN
def gIsB : D → D → Option D
  | .bool p, .bool q => some (.bool (p == q))
  | _, _ => none
def gNotB : D → D → Option D
  | .bool p, .bool q => some (.bool (!(p == q)))
  | _, _ => none
@[simp] theorem gIsB_bool (p q : Bool) : gIsB (.bool p) (.bool q) = some (.bool (p == q)) := rfl
@[simp] theorem gNotB_bool (p q : Bool) : gNotB (.bool p) (.bool q) = some (.bool (!(p == q))) := rfl
section
variable {F G : Ev → R (D × Ev)}
end
end
end Mir
end
set_option Elab.async false
set_option linter.all false
set_option maxRecDepth 100000
set_option maxHeartbeats 4000000
noncomputable section
namespace Mir
open PySem PySem.Spec L2
section
variable {X : Cx} {W : WX} {S : Nat → Bool} {pos : Pos}
/-- a target stored from an expression that changes own lists -/
def sXAsg (g : D → Ev → Option Ev) (f : Ev → R (D × Ev)) (env : Ev) : SR := match f env with
  | .ok (d, env1) => match g d env1 with
    | some env2 => .nx env2
    | none => .no
  | _ => .no
end
def flatD : D → Bool
  | .none => true
  | .bool _ => true
  | .int _ => true
  | .str _ => true
  | _ => false
def flatR : R Ow → R D
  | .ok (.d x) => if flatD x = true then .ok x else .no
  | .ex c => .ex c
  | _ => .no
def eCallV (m : List D → R Ow) (fa : Ev → R (List D)) (env : Ev) : R D := (fa env).bind fun ds => flatR (m ds)
@[simp] theorem eCallV_eq (m : List D → R Ow) (fa : Ev → R (List D)) (env : Ev) : eCallV m fa env = (fa env).bind fun ds => flatR (m ds) := rfl
@[simp] theorem flatR_bool (b : Bool) : flatR (.ok (.d (.bool b))) = .ok (.bool b) := rfl
@[simp] theorem flatR_int (b : Int) : flatR (.ok (.d (.int b))) = .ok (.int b) := rfl
@[simp] theorem flatR_none : flatR (.ok (.d .none)) = .ok .none := rfl
section
variable {X : Cx} {W : WX} {e : Expr} {es : List Expr} {pos p : Pos}
end
section
variable (env : Ev)
theorem lstAt_of {i : Nat} {env : Ev} {dk : List D} (h : env[i]? = some (some (.l (dk.map Ow.d)))) : lstAt i env = some dk := by unfold lstAt; rw [h]; exact unDs_map dk
@[simp] theorem lstAt_0 (dk : List D) : lstAt 0 (some (.l (dk.map Ow.d)) :: env) = some dk := lstAt_of rfl
@[simp] theorem lstAt_0n : lstAt 0 (some (.l []) :: env) = some [] := rfl
@[simp] theorem lstAt_s (i : Nat) (x : Option Ow) : lstAt (i + 1) (x :: env) = lstAt i env := by unfold lstAt; rw [List.getElem?_cons_succ]
@[simp] theorem xP_eq (f : Ev → R D) : xP f env = match f env with
  | .ok d => .ok (d, env)
  | _ => .no := rfl
@[simp] theorem xBin_eq (g : D → D → Option D) (f h : Ev → R (D × Ev)) : xBin g f h env = (f env).bind fun p => (h p.2).bind fun q => (R.of (g p.1 q.1)).bind fun d => .ok (d, q.2) := rfl
@[simp] theorem xNil_eq : xNil env = .ok ([], env) := rfl
@[simp] theorem xCons_eq (f : Ev → R (D × Ev)) (g : Ev → R (List D × Ev)) : xCons f g env = (f env).bind fun p => (g p.2).bind fun q => .ok (p.1 :: q.1, q.2) := rfl
@[simp] theorem xCall_eq (m : List D → R Ow) (fa : Ev → R (List D × Ev)) : xCall m fa env = (fa env).bind fun p => match m p.1 with
  | .ok r => .ok (viewD r, p.2)
  | _ => .no := rfl
@[simp] theorem xCa_eq (g : List D → Option Ow) (fa : Ev → R (List D × Ev)) : xCa g fa env = (fa env).bind fun p => match g p.1 with
  | some r => .ok (viewD r, p.2)
  | none => .no := rfl
@[simp] theorem sXSet_eq (i : Nat) (f : Ev → R (D × Ev)) : sXSet i f env = match f env with
  | .ok (d, env1) => if i < env1.length then .nx (env1.set i (some (.d d))) else .no
  | _ => .no := by unfold sXSet xSet; rfl
@[simp] theorem sXRet_eq (f : Ev → R (D × Ev)) : sXRet f env = match f env with
  | .ok (d, env1) => .rt (.d d) env1
  | _ => .no := rfl
@[simp] theorem sXAsg_eq (g : D → Ev → Option Ev) (f : Ev → R (D × Ev)) : sXAsg g f env = match f env with
  | .ok (d, env1) => match g d env1 with
    | some env2 => .nx env2
    | none => .no
  | _ => .no := rfl
end
end Mir
end
set_option Elab.async false
set_option linter.all false
set_option maxRecDepth 100000
set_option maxHeartbeats 4000000
noncomputable section
namespace Mir
open PySem PySem.Spec PyProof.Rows L2
def strsD : List D → Option (List Str)
  | [] => some []
  | .str z :: ds => (strsD ds).map fun zs => z :: zs
  | _ :: _ => none
theorem strsD_map : ∀ zs : List Str, strsD (zs.map PyData.str) = some zs
  | [] => rfl
  | z :: zs => by rw [List.map_cons, strsD, strsD_map zs]; rfl
theorem strsD_dp {K : Kw} {F : Hp} : ∀ {ds : List D} {vs : List V} {zs : List Str}, DpAll K F vs ds → strsD ds = some zs → vs = zs.map V.str
  | [], vs, zs, h, e => by cases h; cases e; rfl
  | d :: ds, vs, zs, h, e => by
    cases h with
    | cons h1 h2 =>
      unfold strsD at e
      split at e
      · rename_i he; cases he
      · rename_i z ds' he
        cases he
        obtain ⟨ws, w1, rfl⟩ := Option.map_eq_some_iff.mp e
        rw [strsD_dp h2 w1, List.map_cons]
        cases dp_str h1
        rfl
      · cases e
def joinS (a : Str) (ys : List Str) : Option D := open Classical in if (ys.map (·.length)).sum + ys.length * a.length ≤ 16777216 then some (.str (Txt.join a ys)) else none
def gJoin : D → D → Option D
  | .str a, .list ds => (strsD ds).bind (joinS a)
  | .str a, .tuple ds => (strsD ds).bind (joinS a)
  | _, _ => none
theorem joinS_ok {a : Str} {ys : List Str} (h : (ys.map (·.length)).sum + ys.length * a.length ≤ 16777216) : joinS a ys = some (.str (Txt.join a ys)) := by
  unfold joinS
  rw [if_pos h]
theorem gJoin_list {a : Str} {ys : List Str} (h : (ys.map (·.length)).sum + ys.length * a.length ≤ 16777216) : gJoin (.str a) (.list (ys.map PyData.str)) = some (.str (Txt.join a ys)) := by
  show (strsD _).bind _ = _
  rw [strsD_map]
  exact joinS_ok h
def eJoin (f g : Ev → R D) (env : Ev) : R D := (f env).bind fun d => match d with
  | .str z => (g env).bind fun d' => R.of (gJoin (.str z) d')
  | _ => .no
theorem eJoin_eq {f g : Ev → R D} {env : Ev} {a : Str} {d : D} (h : f env = .ok (.str a)) (h2 : g env = .ok d) : eJoin f g env = R.of (gJoin (.str a) d) := by
  unfold eJoin
  rw [h, R.bind_ok]
  simp only [h2, R.bind_ok]
section
variable {X : Cx} {W : WX} {o e : Expr} {apos pos : Pos} {f g : Ev → R D}
theorem joinS_some {a : Str} {ys : List Str} {d : D} (h : joinS a ys = some d) : (ys.map (·.length)).sum + ys.length * a.length ≤ 16777216 ∧ d = .str (Txt.join a ys) := by
  unfold joinS at h
  split at h
  · rename_i c
    exact ⟨c, (Option.some.inj h).symm⟩
  · cases h
theorem df_join (ho : DV X W o f) (he : DL X W e g)
    (hs : starEach [e] X.env = [(false, eval e X.env)] := by rfl)
    (hb : attributeBase o (Str.ofString "join") X.env (eval o X.env) = eval o X.env := by rfl)
    (hp : (apos.endLine == pos.line) = true := by rfl) : DF X W (.Call (.Attribute o "join" apos) [e] [] pos) (eJoin f g) := by
  obtain ⟨ta, pa, sa⟩ := ho
  obtain ⟨tb, pb, sb⟩ := he
  refine ⟨_, pe_join pa pb hs hb hp, fun F H σ env fp Q sat hp => ?_⟩
  refine sa.go sat hp fun d v F1 H1 sat1 q _ h1 => ?_
  have key : ∀ z, d = .str z → (∃ a, v = V.str a) := fun z hz => by subst hz; cases dp_str q; exact ⟨_, rfl⟩
  cases d with
  | str z =>
    refine ⟨key z rfl, ?_⟩
    cases dp_str q
    refine sb.go sat1 h1 fun d' v' F2 H2 sat2 q' x2 h2 => ?_
    obtain ⟨r, hr, h3⟩ := post_of h2
    cases d' with
    | list ds =>
      obtain ⟨ys, y1, y2⟩ := Option.bind_eq_some_iff.mp hr
      obtain ⟨c, rfl⟩ := joinS_some y2
      obtain ⟨p, vs, rfl, p1, p2⟩ := q'
      have ev := strsD_dp p2 y1
      subst ev
      exact ⟨z, p, ys, rfl, rfl, .inl p1, c, h3 _ _ _ (.refl sat2.fh) (.str _)⟩
    | tuple ds =>
      obtain ⟨ys, y1, y2⟩ := Option.bind_eq_some_iff.mp hr
      obtain ⟨c, rfl⟩ := joinS_some y2
      obtain ⟨p, vs, rfl, p1, p2⟩ := dp_tup q'
      have ev := strsD_dp p2 y1
      subst ev
      exact ⟨z, p, ys, rfl, rfl, .inr (SqT_mono sat2.fh p1), c, h3 _ _ _ (.refl sat2.fh) (.str _)⟩
    | _ => cases hr
  | _ => exact h1.elim
end
end Mir
end
set_option Elab.async false
set_option linter.all false
set_option maxRecDepth 100000
set_option maxHeartbeats 4000000
noncomputable section
namespace Mir
open PySem PySem.Spec PyProof.Rows L2
section
variable {X : Cx} {W : WX} {S : Nat → Bool} {e a b : Expr} {es : List Expr} {pos p : Pos} {x : Str}
def xTup (f : Ev → R (List D × Ev)) (env : Ev) : R (D × Ev) := (f env).bind fun p => guard (p.1.length ≤ sizeLine) (.ok (.tuple p.1, p.2))
def xBinO (g : D → D → Option Ow) (f h : Ev → R (D × Ev)) (env : Ev) : R (D × Ev) := (f env).bind fun p => (h p.2).bind fun q => (R.of (g p.1 q.1)).bind fun o => .ok (viewD o, q.2)
def xRg1 (f : Ev → R (List D × Ev)) (env : Ev) : R (List D × Ev) := (f env).bind fun p => (rg1 p.1).bind fun ds => .ok (ds, p.2)
end
section
variable {X : Cx} {W : WX} {S : Nat → Bool} {e : Expr} {pos cpos apos npos : Pos} {x : Str}
section
variable (env : Ev)
@[simp] theorem xTup_eq (f : Ev → R (List D × Ev)) : xTup f env = (f env).bind fun p => guard (p.1.length ≤ sizeLine) (.ok (.tuple p.1, p.2)) := rfl
@[simp] theorem xBinO_eq (g : D → D → Option Ow) (f h : Ev → R (D × Ev)) : xBinO g f h env = (f env).bind fun p => (h p.2).bind fun q => (R.of (g p.1 q.1)).bind fun o => .ok (viewD o, q.2) := rfl
@[simp] theorem xRg1_eq (f : Ev → R (List D × Ev)) : xRg1 f env = (f env).bind fun p => (rg1 p.1).bind fun ds => .ok (ds, p.2) := rfl
end
end
end Mir
end
set_option Elab.async false
set_option linter.all false
set_option maxRecDepth 100000
set_option maxHeartbeats 4000000
noncomputable section
namespace Mir
open PySem PySem.Spec PyProof.Rows L2
def pairsD : List D → Option (List (Str × D))
  | [] => some []
  | .tuple [.str k, v] :: ds => (pairsD ds).map fun r => (k, v) :: r
  | _ :: _ => none
/-- the last pair of the key -/
def lastP : List (Str × D) → Str → Option D
  | [], _ => none
  | p :: ps, k => (lastP ps k).or (if p.1 = k then some p.2 else none)
def asPairs : D → Option (List (Str × D))
  | .list ds => pairsD ds
  | _ => none
def lookP (ps : List (Str × D)) : D → Option D
  | .str k => lastP ps k
  | _ => none
def eDictIx (f g : Ev → R D) (env : Ev) : R D := (f env).bind fun d => match asPairs d with
  | none => .no
  | some ps => (g env).bind fun k => R.of (lookP ps k)
def inP (ps : List (Str × D)) (no : Bool) : D → Option D
  | .str k => some (.bool ((lastP ps k).isSome != no))
  | _ => none
def eInDict (no : Bool) (g f : Ev → R D) (env : Ev) : R D := (g env).bind fun k => (f env).bind fun d => match asPairs d with
  | none => .no
  | some ps => R.of (inP ps no k)
@[simp] theorem eDictIx_eq (f g : Ev → R D) (env : Ev) : eDictIx f g env = (f env).bind fun d => match asPairs d with
  | none => .no
  | some ps => (g env).bind fun k => R.of (lookP ps k) := rfl
@[simp] theorem eInDict_eq (no : Bool) (g f : Ev → R D) (env : Ev) : eInDict no g f env = (g env).bind fun k => (f env).bind fun d => match asPairs d with
  | none => .no
  | some ps => R.of (inP ps no k) := rfl
@[simp] theorem lookP_str (ps : List (Str × D)) (k : Str) : lookP ps (.str k) = lastP ps k := rfl
@[simp] theorem inP_str (ps : List (Str × D)) (no : Bool) (k : Str) : inP ps no (.str k) = some (.bool ((lastP ps k).isSome != no)) := rfl
section
variable {X : Cx} {W : WX} {e key : Expr} {p pos cpos : Pos} {f g : Ev → R D}
end
def boolsD : List D → Option (List Bool)
  | [] => some []
  | .bool b :: ds => (boolsD ds).map fun bs => b :: bs
  | _ :: _ => none
theorem boolsD_map : ∀ bs : List Bool, boolsD (bs.map PyData.bool) = some bs
  | [] => rfl
  | b :: bs => by rw [List.map_cons, boolsD, boolsD_map bs]; rfl
theorem boolsD_dp {K : Kw} {F : Hp} : ∀ {ds : List D} {vs : List V} {bs : List Bool}, DpAll K F vs ds → boolsD ds = some bs → vs = bs.map V.bl
  | [], vs, bs, h, e => by cases h; cases e; rfl
  | d :: ds, vs, bs, h, e => by
    cases h with
    | cons h1 h2 =>
      unfold boolsD at e
      split at e
      · rename_i he; cases he
      · rename_i b ds' he
        cases he
        obtain ⟨ws, w1, rfl⟩ := Option.map_eq_some_iff.mp e
        rw [boolsD_dp h2 w1, List.map_cons]
        cases dp_bool h1
        rfl
      · cases e
def gAny : List D → Option Ow
  | [.list ds] => (boolsD ds).map fun bs => .d (.bool (bs.any id))
  | _ => none
theorem caG_any {K : Kw} : CaG K (rAny K) gAny := by
  intro F H vs ds o Q s h e q
  unfold gAny at e
  split at e
  · obtain ⟨bs, b1, rfl⟩ := Option.map_eq_some_iff.mp e
    obtain ⟨v, rfl, w⟩ := psqs1 h
    obtain ⟨a, xs, rfl, q1, q2⟩ := w
    rw [boolsD_dp q2 b1] at q1
    exact ⟨a, bs, rfl, q1, q _ _ _ (.refl s) (own_d (.bl _))⟩
  · cases e
section
variable {X : Cx} {W : WX} {a b c : Expr} {pos : Pos} {f g h : Ev → R D}
theorem de_any {x : Expr} {p : Pos} {f : Ev → R (List D)} (hc : X.calm = true) (hg : Gl X "any") (hm : X.mg "any" = none) (ha : DAl X W [x] f) (he : starEach [x] X.env = (false, eval x X.env) :: starEach [] X.env := by rfl) : DE X W (.Call (.Name "any" p) [x] [] pos) (eCa gAny f) :=
  de_callB (cr_any hc) caG_any hg hm (by decide +kernel) ha (he := he)
end
end Mir
end
set_option Elab.async false
set_option linter.all false
set_option maxRecDepth 100000
set_option maxHeartbeats 4000000
noncomputable section
namespace Mir
open PySem PySem.Spec PyProof.Rows L2
theorem fits (x : Int) (h : -(2 ^ 62) ≤ x) (h' : x < 2 ^ 62) : Builtin.Range.rangeFitsLong x = true := by
  unfold Builtin.Range.rangeFitsLong
  simp only [Bool.and_eq_true, decide_eq_true_eq]
  constructor <;> omega
section
variable {X : Cx} {W : WX} {tg e e2 e3 : Expr} {p pos : Pos} {fa : Ev → R (List D)}
end
end Mir
end
set_option Elab.async false
set_option linter.all false
set_option maxRecDepth 100000
set_option maxHeartbeats 4000000
noncomputable section
namespace Mir
open PySem PySem.Spec PyProof.Rows L2
open AutoSeq1 (wpAny_loadPart')
section
variable {X : Cx} {W : WX} {S : Nat → Bool} {e : Expr} {pos cpos apos npos : Pos} {x : Str}
def asT : D → R (List D)
  | .tuple ds => .ok ds
  | _ => .no
@[simp] theorem asT_tup (ds : List D) : asT (.tuple ds) = .ok ds := rfl
def sExtT (i : Nat) (f : Ev → R D) (env : Ev) : SR := ownL i env fun os => (f env).st env fun d => (asT d).st env fun ds => if os.length + ds.length ≤ sizeLine then .nx (env.set i (some (.l (os ++ ds.map Ow.d)))) else .no
@[simp] theorem sExtT_eq (i : Nat) (f : Ev → R D) (env : Ev) : sExtT i f env = ownL i env fun os => (f env).st env fun d => (asT d).st env fun ds => if os.length + ds.length ≤ sizeLine then .nx (env.set i (some (.l (os ++ ds.map Ow.d)))) else .no := rfl
end
end Mir
end
set_option Elab.async false
set_option linter.all false
set_option maxRecDepth 100000
set_option maxHeartbeats 4000000
noncomputable section
namespace Mir
open PySem PySem.Spec PySem.Calls PyProof.Rows L2
def keyEq : D → D → Bool
  | .int i, .int j => i == j
  | .str x, .str y => x == y
  | _, _ => false
def isKey : D → Bool
  | .int _ => true
  | .str _ => true
  | _ => false
def getP (ps : List (D × D)) (k : D) : Option D := (ps.find? fun p => keyEq p.1 k).map (·.2)
def putP (ps : List (D × D)) (k v : D) : List (D × D) := if (ps.any fun p => keyEq p.1 k) = true then ps.map (fun p => if keyEq p.1 k = true then (p.1, v) else p) else ps ++ [(k, v)]
theorem key_of_data {k : D} (h : isKey k = true) : ∃ q : Key, k = keyD q := by
  cases k <;> first | cases h; done | skip
  · exact ⟨.inl _, rfl⟩
  · exact ⟨.inr _, rfl⟩
theorem keyEq_iff (p q : Key) : keyEq (keyD p) (keyD q) = decide (p = q) := by
  cases p <;> cases q <;> simp [keyD, keyEq] <;> rfl
theorem key_dp {K : Kw} {H : Hp} {v : V} {q : Key} (h : Dp K H v (keyD q)) : v = kV q := by
  cases q with
  | inl i => cases h; rfl
  | inr z => cases h; rfl
theorem dpKv_len {K : Kw} {H : Hp} : ∀ {kvs : List (Key × V)} {ps : List (D × D)}, DpKv K H kvs ps → kvs.length = ps.length
  | [], _, h => by cases h; rfl
  | p :: kvs, _, h => by
    cases h with
    | cons h1 h2 => simp [dpKv_len h2]
theorem dpKv_any {K : Kw} {H : Hp} (q : Key) : ∀ {kvs : List (Key × V)} {ps : List (D × D)}, DpKv K H kvs ps → (ps.any fun p => keyEq p.1 (keyD q)) = (kvs.any fun kv => decide (kv.1 = q))
  | [], _, h => by cases h; rfl
  | p :: kvs, _, h => by
    cases h with
    | cons h1 h2 =>
      rw [List.any_cons, List.any_cons, dpKv_any q h2]
      show (keyEq (keyD _) (keyD q) || _) = _
      rw [keyEq_iff]
theorem dpKv_get {K : Kw} {H : Hp} (q : Key) : ∀ {kvs : List (Key × V)} {ps : List (D × D)}, DpKv K H kvs ps → (getP ps (keyD q) = none ∧ valV kvs q = none) ∨ ∃ d v, getP ps (keyD q) = some d ∧ valV kvs q = some v ∧ Dp K H v d
  | [], _, h => by cases h; exact .inl ⟨rfl, rfl⟩
  | p :: kvs, _, h => by
    cases h with
    | @cons k v _ d ps h1 h2 =>
      by_cases c : k = q
      · refine .inr ⟨d, v, ?_, valV_pos c, h1⟩
        unfold getP
        rw [List.find?_cons_of_pos (by rw [keyEq_iff]; simpa using c)]
        rfl
      · have e1 : getP ((keyD k, d) :: ps) (keyD q) = getP ps (keyD q) := by
          unfold getP
          rw [List.find?_cons_of_neg (by rw [keyEq_iff]; simpa using c)]
        have e2 : valV ((k, v) :: kvs) q = valV kvs q := valV_neg c
        rw [e1, e2]
        exact dpKv_get q h2
theorem dpKv_map {K : Kw} {H : Hp} (q : Key) {w : V} {x : D} (hw : Dp K H w x) : ∀ {kvs : List (Key × V)} {ps : List (D × D)}, DpKv K H kvs ps → DpKv K H (kvs.map fun kv => if kv.1 = q then (kv.1, w) else kv) (ps.map fun p => if keyEq p.1 (keyD q) = true then (p.1, x) else p)
  | [], _, h => by cases h; exact .nil
  | p :: kvs, _, h => by
    cases h with
    | @cons k v _ d ps h1 h2 =>
      rw [List.map_cons, List.map_cons]
      have e : keyEq (keyD k) (keyD q) = decide (k = q) := keyEq_iff k q
      simp only [e, decide_eq_true_eq]
      by_cases c : k = q
      · rw [if_pos c, if_pos c]
        exact .cons hw (dpKv_map q hw h2)
      · rw [if_neg c, if_neg c]
        exact .cons h1 (dpKv_map q hw h2)
theorem dpKv_snoc {K : Kw} {H : Hp} {q : Key} {w : V} {x : D} (hw : Dp K H w x) : ∀ {kvs : List (Key × V)} {ps : List (D × D)}, DpKv K H kvs ps → DpKv K H (kvs ++ [(q, w)]) (ps ++ [(keyD q, x)])
  | [], _, h => by cases h; exact .cons hw .nil
  | p :: kvs, _, h => by
    cases h with
    | cons h1 h2 => exact .cons h1 (dpKv_snoc hw h2)
theorem dpKv_put {K : Kw} {H : Hp} {q : Key} {w : V} {x : D} (hw : Dp K H w x) {kvs : List (Key × V)} {ps : List (D × D)} (h : DpKv K H kvs ps) : DpKv K H (putK kvs q w) (putP ps (keyD q) x) := by
  unfold putK putP
  rw [dpKv_any q h]
  split
  · exact dpKv_map q hw h
  · exact dpKv_snoc hw h
section
variable {X : Cx} {W : WX} {S : Nat → Bool} {e k : Expr} {pos tpos npos p2 : Pos} {x : Str} {f g : Ev → R D}
/-- {} -/
def eDictNew (_ : Ev) : R Ow := .ok (.m [])
@[simp] theorem eDictNew_eq (env : Ev) : eDictNew env = .ok (.m []) := rfl
theorem de_dictNew : DE X W (.Dict [] [] pos) eDictNew := by
  refine ⟨_, pe_dnewK, fun F H σ env fp Q sat hp => ?_⟩
  intro p hn
  refine hp _ F _ (Ext.own sat.fh hn _) ⟨[p], .m (free_of sat.fh hn) upd_same .nil, by simp, fun b hb => by rw [List.mem_singleton.mp hb]; exact hn⟩
/-- the own dict at a slot -/
def mAt (i : Nat) (env : Ev) : Option (List (D × D)) := match env[i]? with
  | some (some (.m ps)) => some ps
  | _ => none
theorem keyEq_ref {K : Kw} {H : Hp} {b : Addr} {x : D} (q : Key) (h : Dp K H (.ref b) x) : keyEq x (keyD q) = false := by
  cases q <;> (cases h <;> rfl)
theorem getP_dcn {K : Kw} {H : Hp} (q : Key) : ∀ {ps : List (D × D)} {kvs : List (NestedKey × Addr × V)}, DpKn K H kvs ps → getP ps (keyD q) = none
  | [], _, _ => rfl
  | _ :: ps, _, h => by
    cases h with
    | cons h1 h2 h3 h4 =>
      unfold getP
      rw [List.find?_cons_of_neg (by rw [keyEq_ref q h1]; exact Bool.false_ne_true)]
      exact getP_dcn q h4
theorem getP_non {x : D} (q : Key) : getP [(.none, x)] (keyD q) = none := by cases q <;> rfl
/-- d[k], d any data that is a dict -/
def gGetD : D → D → Option D
  | .dict ps, k => if isKey k = true then getP ps k else none
  | _, _ => none
/-- the dict in slot i, and what is left when it is changed -/
theorem mut_stepO {F H F1 H1 : Hp} {a : Addr} {o o' : HO} (x : Ext F H F1 H1) (hf : F a = none) (h : H a = some o) : StepS F H [a] F1 (upd H1 a o') [a] := by
  refine ⟨x.ff, fun b u q n => ?_, fun b u q => (x.fn b u q).imp id .inr, fun b hb => .inl hb⟩
  rw [upd_ne (fun e => n (by rw [e]; exact List.mem_singleton.mpr rfl))]
  exact x.hh _ _ q
theorem mut_freeO {F H F1 H1 : Hp} {a : Addr} {o : HO} (x : Ext F H F1 H1) (hf : F a = none) (h : H a = some o) : F1 a = none := by
  cases q : F1 a with
  | none => rfl
  | some u =>
    rcases x.fn a u q with z | z
    · rw [hf] at z; cases z
    · rw [h] at z; cases z
theorem Sat.mutM {K : Kw} {F H : Hp} {σ : L2.St} {env : Ev} {fp : List Addr} (sat : Sat K F H σ env fp) {i : Nat} {ps : List (D × D)} (hi : env[i]? = some (some (.m ps))) : ∃ a kvs, σ[i]? = some (some (.ref a)) ∧ H a = some (.dK kvs) ∧ DpKv K F kvs ps ∧
    ∀ F1 H1 kvs' ps', Ext F H F1 H1 → DpKv K F1 kvs' ps' → ∃ fp', StepS F H fp F1 (upd H1 a (.dK kvs')) fp' ∧ Sat K F1 (upd H1 a (.dK kvs')) σ (env.set i (some (.m ps'))) fp' := by
  have hl : i < env.length := (List.getElem?_eq_some_iff.mp hi).1
  obtain ⟨fr, fo0, a1, a2, a3, a3', a4, a5, a6⟩ := sat.en.put hl sat.nd
  obtain ⟨v, e1, e2⟩ := a5 _ hi
  cases e2 with
  | @m a kvs _ h1 h2 h3 =>
    refine ⟨a, kvs, e1, h2, h3, fun F1 H1 kvs' ps' x dp' => ?_⟩
    have na : a ∉ fr := a4 a List.mem_cons_self
    have fa := mut_freeO x h1 h2
    have st : StepS F H [a] F1 (upd H1 a (.dK kvs')) [a] := mut_stepO x h1 h2
    obtain ⟨fp', b1, b2, b3⟩ := (a6 F1 (upd H1 a (.dK kvs')) [a] [a] st fun b hb z => na (by rw [← List.mem_singleton.mp z]; exact hb)).2 (.ref a) (.m ps') [a] (.m fa upd_same dp') (by simp) fun b hb => by rw [List.mem_singleton.mp hb]; exact na
    rw [set_self e1] at b3
    refine ⟨fp', ⟨st.ff, fun b o q n => st.fr b o q fun z => n (by rw [List.mem_singleton.mp z]; exact a2 a List.mem_cons_self), fun b o q => (st.fn b o q).imp id (.imp (fun z => by rw [List.mem_singleton.mp z]; exact a2 a List.mem_cons_self) id), fun b hb => ?_⟩, mut_same x.fh fa, b3, b1⟩
    rcases b2 b hb with q | q
    · rw [List.mem_singleton.mp q]; exact .inl (a2 a List.mem_cons_self)
    · exact .inl (a1 b q)
end
@[simp] theorem mAt_0 (ps : List (D × D)) (env : Ev) : mAt 0 (some (.m ps) :: env) = some ps := rfl
@[simp] theorem mAt_s (i : Nat) (x : Option Ow) (env : Ev) : mAt (i + 1) (x :: env) = mAt i env := by unfold mAt; rw [List.getElem?_cons_succ]
@[simp] theorem mAt_1 (a0 : Option Ow) (ps : List (D × D)) (env : Ev) : mAt 1 (a0 :: some (.m ps) :: env) = some ps := rfl
@[simp] theorem mAt_2 (a0 a1 : Option Ow) (ps : List (D × D)) (env : Ev) : mAt 2 (a0 :: a1 :: some (.m ps) :: env) = some ps := rfl
@[simp] theorem mAt_3 (a0 a1 a2 : Option Ow) (ps : List (D × D)) (env : Ev) : mAt 3 (a0 :: a1 :: a2 :: some (.m ps) :: env) = some ps := rfl
@[simp] theorem mAt_4 (a0 a1 a2 a3 : Option Ow) (ps : List (D × D)) (env : Ev) : mAt 4 (a0 :: a1 :: a2 :: a3 :: some (.m ps) :: env) = some ps := rfl
@[simp] theorem gGetD_dict (ps : List (D × D)) (k : D) : gGetD (.dict ps) k = if isKey k = true then getP ps k else none := rfl
@[simp] theorem isKey_int (i : Int) : isKey (.int i) = true := rfl
@[simp] theorem isKey_str (z : Str) : isKey (.str z) = true := rfl
end Mir
end
set_option Elab.async false
set_option linter.all false
set_option maxRecDepth 100000
set_option maxHeartbeats 4000000
noncomputable section
namespace Mir
open PySem PySem.Spec L2
section
variable {X : Cx} {W : WX} {S : Nat → Bool} {e k : Expr} {pos tpos npos p2 : Pos} {x : Str} {f g : Ev → R D}
/-- d[k], d data that stays and is a dict -/
theorem df_getD (hu : X.A.units + 140 < cLine) (he : DF X W e f) (hk : DV X W k g) (hs : NoSl k := by exact fun _ _ => rfl) : DF X W (.Subscript e k pos) (eBin gGetD f g) := by
  obtain ⟨te, pe, se⟩ := he
  obtain ⟨t, pk, sk⟩ := hk
  refine ⟨_, pe_dget (by omega) pe pk hs, fun F H σ env fp Q sat hp => ?_⟩
  refine se.go sat hp fun d u F1 H1 sat1 q1 x1 h1 => ?_
  refine sk.go sat1 h1 fun d2 u2 F2 H2 sat2 q2 x2 h2 => ?_
  obtain ⟨z, hz, h3⟩ := post_of h2
  have q1 : Dp X.KK F1 u d := q1
  cases d with
  | dict ps =>
    have hz' : (if isKey d2 = true then getP ps d2 else none) = some z := hz
    clear hz
    split at hz'
    · rename_i c
      have hz := hz'
      clear hz'
      obtain ⟨q, rfl⟩ := key_of_data c
      cases q1 with
      | @dct a kvs _ m2 m3 =>
        rcases dpKv_get q (DpKv.mono x2.ff _ _ m3) with ⟨g1, _⟩ | ⟨d, w, g1, g2, g3⟩
        · rw [g1] at hz; cases hz
        · rw [g1] at hz; cases hz
          have hg : DGet H2 a (kV q) (valV kvs q) := .inl ⟨kvs, q, Same.rd sat2.fh (Same.rd x2.ff m2), rfl, rfl⟩
          rw [g2] at hg
          refine ⟨a, w, rfl, ?_, h3 _ F2 H2 (.refl sat2.fh) g3⟩
          rw [key_dp q2]
          exact hg
      | @dcn a kvs _ m2 m3 => rw [getP_dcn q m3] at hz; cases hz
      | exc _ => rw [getP_non q] at hz; cases hz
      | ins _ => rw [getP_non q] at hz; cases hz
    · cases hz'
  | _ => cases hz
/-- what a stateful expression tells, walked: a list -/
def xSeq (f : Ev → R (D × Ev)) (env : Ev) : R (List D × Ev) := (f env).bind fun p => match p.1 with
  | .list ds => .ok (ds, p.2)
  | _ => .no
@[simp] theorem xSeq_eq (f : Ev → R (D × Ev)) (env : Ev) : xSeq f env = (f env).bind fun p => match p.1 with
  | .list ds => .ok (ds, p.2)
  | _ => .no := rfl
end
end Mir
end
set_option Elab.async false
set_option linter.all false
set_option maxRecDepth 100000
set_option maxHeartbeats 4000000
noncomputable section
namespace Mir
open PySem PySem.Spec PyProof.Rows L2
/-- what is to be known of an own class over ValueError -/
structure ExcT (K : PySem.W.Frag) (mg : Str → Option Value) (x : Str) (C : Addr) : Prop where
  gC : mg x = some (.ref C)
  ex : PySem.W.excIn K C [.type "ValueError", .type "Exception", .type "BaseException", .type "object"] "ValueError.__new__" = true
  kC : PySem.W.keepIn K (.ref C) = true
  bP : PySem.W.subIn K (.ref C) (.type "BaseException") = some true
  tP : PySem.W.typeIn K (.ref C) = some (.type "type")
def sRaise (x : Str) (env : Ev) : SR := .ex x env
@[simp] theorem sRaise_eq (x : Str) (env : Ev) : sRaise x env = .ex x env := rfl
section
variable {X : Cx} {W : WX} {S : Nat → Bool} {pos p p2 np pos' : Pos} {x m : Str} {j : Nat} {C : Addr}
theorem ds_raise (hc : X.calm = true) (tk : Takes X W) (T : ExcT X.K X.mg x C) (hg : Gl X x) (hdb : (x == ("__debug__" : Str)) = false := by decide) : DS X W S (.Raise (some (.Call (.Name x p) [.Constant (.str m) j p2] [] pos')) none pos) (sRaise x) := by
  refine ⟨_, ps_raise hc tk (pmk_own PySem.F.excBase_ValueError T.ex T.gC T.kC (raises_own T.bP T.tP) hg hdb), fun F H σ env fp D sat h => ?_⟩
  exact h C σ F H fp T.gC (.refl _ _) (StepS.of_ext (.refl sat.fh) fp) sat
theorem PSs.imp {st : List Stmt} {t t' : TS} (h : PSs X st t) (k : ∀ D σ H, t' D σ H → t D σ H) : PSs X st t' := ⟨fun pins s σ H D I q => h.run pins s σ H D I (k D σ H q)⟩
/-- canonical: what a block's mirror asks -/
def tsOf (X : Cx) (W : WX) (S : Nat → Bool) (f : Ev → SR) : TS := fun D σ H => ∃ F env fp, Sat X.KK F H σ env fp ∧ PostS X W S σ F H fp D (f env)
theorem DSs.can {st : List Stmt} {f : Ev → SR} (h : DSs X W S st f) : PSs X st (tsOf X W S f) := by
  obtain ⟨t, p, s⟩ := h
  refine PSs.imp p ?_
  rintro D σ H ⟨F, env, fp, sat, h⟩
  exact s F H σ env fp D sat h
end
section
variable {X : Cx} {W : WX} {S : Nat → Bool} {i : Nat} {a : Addr} {pos p p2 np pos' : Pos} {x n T : Str} {e e1 e2 : Expr} {g g1 g2 : Ev → R D}
/-- a flat name -/
def eFlat (k : Nat) (env : Ev) : R D := (eVar k env).bind fun d => if flatD d = true then .ok d else .no
@[simp] theorem eFlat_eq (k : Nat) (env : Ev) : eFlat k env = (eVar k env).bind fun d => if flatD d = true then .ok d else .no := rfl
/-- int(a truth) -/
def eIntB (g : Ev → R D) (env : Ev) : R D := (g env).bind fun d => match d with
  | .bool b => .ok (.int (if b = true then 1 else 0))
  | _ => .no
@[simp] theorem eIntB_eq (g : Ev → R D) (env : Ev) : eIntB g env = (g env).bind fun d => match d with
  | .bool b => .ok (.int (if b = true then 1 else 0))
  | _ => .no := rfl
/-- + of whole numbers -/
def eAddI (g1 g2 : Ev → R D) (env : Ev) : R D := (g1 env).bind fun x => (g2 env).bind fun y => match x, y with
  | .int i, .int j => .ok (.int (i + j))
  | _, _ => .no
@[simp] theorem eAddI_eq (g1 g2 : Ev → R D) (env : Ev) : eAddI g1 g2 env = (g1 env).bind fun x => (g2 env).bind fun y => match x, y with
  | .int i, .int j => .ok (.int (i + j))
  | _, _ => .no := rfl
end
end Mir
end
set_option Elab.async false
set_option linter.all false
set_option maxRecDepth 100000
set_option maxHeartbeats 4000000
noncomputable section
namespace Mir
open PySem PySem.Spec PyProof.Rows L2
section
variable {X : Cx} {W : WX} {S : Nat → Bool} {i : Nat} {a : Addr} {pos p p2 np pos' : Pos} {x n T : Str} {e e1 e2 : Expr} {g g1 g2 : Ev → R D}
end
section
variable {K : PySem.W.Frag}
end
end Mir
end
set_option Elab.async false
set_option linter.all false
set_option maxRecDepth 100000
set_option maxHeartbeats 4000000
noncomputable section
namespace Mir
open PySem PySem.Spec PyProof.Rows L2
def gLtS : D → D → Option D
  | .str x, .str y => some (.bool (decide (x.cps.toList < y.cps.toList)))
  | _, _ => none
@[simp] theorem gLtS_str (x y : Str) : gLtS (.str x) (.str y) = some (.bool (decide (x.cps.toList < y.cps.toList))) := rfl
section
variable {X : Cx} {W : WX} {a b : Expr} {f g : Ev → R D} {pos : Pos}
end
end Mir
end
set_option Elab.async false
set_option linter.all false
set_option maxRecDepth 100000
set_option maxHeartbeats 4000000
noncomputable section
namespace Mir
open PySem PySem.Spec PyProof.Rows L2
section
variable {X : Cx} {W : WX} {S : Nat → Bool} {e k : Expr} {pos cpos apos npos tpos : Pos} {x : Str}
end
end Mir
end
set_option Elab.async false
set_option linter.all false
set_option maxRecDepth 100000
set_option maxHeartbeats 4000000
noncomputable section
namespace Mir
open PySem PySem.Spec PyProof.Rows L2
section
variable {K : Kw} {F H : Hp} {σ : L2.St} {env : Ev} {fp : List Addr}
end
section
variable {X : Cx} {W : WX} {S : Nat → Bool} {e k k2 : Expr} {pos cpos apos npos tpos tpos2 : Pos} {x : Str}
end
end Mir
end
set_option Elab.async false
set_option linter.all false
set_option maxRecDepth 100000
set_option maxHeartbeats 4000000
noncomputable section
namespace Mir
open PySem PySem.Spec PyProof.Rows L2
section
variable {X : Cx} {W : WX} {S : Nat → Bool} {e k : Expr} {es : List Expr} {pos cpos apos npos p p2 pos2 : Pos} {x : Str} {tg : Expr}
def mergeD (acc : List (D × D)) (ps : List (Str × D)) : List (D × D) := ps.foldl (fun acc p => putP acc (.str p.1) p.2) acc
def eDictOf (f : Ev → R D) (env : Ev) : R Ow := (f env).bind fun d => match asPairs d with
  | none => .no
  | some ps => .ok (.m (mergeD [] ps))
@[simp] theorem eDictOf_eq (f : Ev → R D) (env : Ev) : eDictOf f env = (f env).bind fun d => match asPairs d with
  | none => .no
  | some ps => .ok (.m (mergeD [] ps)) := rfl
def PAo (K : Kw) (H : Hp) (os : List Ow) (vs : List V) (F' H' : Hp) : Prop := ∃ fp, OwnAll K F' H' vs os fp ∧ fp.Nodup ∧ ∀ b ∈ fp, H b = none
def DAo (X : Cx) (W : WX) (es : List Expr) (f : Ev → R (List Ow)) : Prop := ∃ t, PA X es t ∧ Sm X W (PAo X.KK) t f
def oNil (_ : Ev) : R (List Ow) := .ok []
def oCons (f : Ev → R Ow) (g : Ev → R (List Ow)) (env : Ev) : R (List Ow) := (f env).bind fun o => (g env).map fun os => o :: os
@[simp] theorem oNil_eq (env : Ev) : oNil env = .ok [] := rfl
@[simp] theorem oCons_eq (f : Ev → R Ow) (g : Ev → R (List Ow)) (env : Ev) : oCons f g env = (f env).bind fun o => (g env).map fun os => o :: os := rfl
theorem dao_nil : DAo X W [] oNil := ⟨_, pa_nil, fun F H σ env fp Q sat h => h _ F H (.refl sat.fh) ⟨[], .nil, List.nodup_nil, fun b z => nomatch z⟩⟩
theorem dao_cons {f : Ev → R Ow} {g : Ev → R (List Ow)} (hf : DE X W e f) (hg : DAo X W es g) (hs : starEach (e :: es) X.env = (false, eval e X.env) :: starEach es X.env := by rfl) : DAo X W (e :: es) (oCons f g) := by
  obtain ⟨t, p, s⟩ := hf
  obtain ⟨t', p', s'⟩ := hg
  refine ⟨_, pa_cons p p' hs, fun F H σ env fp Q sat h => ?_⟩
  refine s F H σ env fp _ sat ?_
  unfold oCons at h
  cases ef : f env with
  | no => rw [ef] at h; exact h.elim
  | ex c => rw [ef] at h; exact h
  | ok o =>
    rw [ef] at h
    intro v F1 H1 x1 ⟨fx, ow, nx, fr⟩
    refine s' F1 H1 σ env fp _ (sat.ext x1) ?_
    cases eg : g env with
    | no => rw [eg] at h; exact h.elim
    | ex c => rw [eg] at h; exact fun C F' H' m x => h C F' H' m (x1.trans x)
    | ok os =>
      rw [eg] at h
      intro vs F2 H2 x2 ⟨fy, oy, ny, fry⟩
      have h' : Post X W (PAo X.KK) F H σ (.ok (o :: os)) Q := h
      refine h' (v :: vs) F2 H2 (x1.trans x2) ⟨fx ++ fy, .cons (ow.ext x2) oy, ?_, fun b hb => ?_⟩
      · rw [List.nodup_append]
        refine ⟨nx, ny, fun a ha b hb e => ?_⟩
        subst e
        obtain ⟨_, w, e⟩ := OwnAt.there _ _ _ ow a ha
        rw [fry a hb] at e; cases e
      · rcases List.mem_append.mp hb with z | z
        · exact fr b z
        · cases hz : H b with
          | none => rfl
          | some w => have := x1.hh _ _ hz; rw [fry b z] at this; cases this
def eLstO (f : Ev → R (List Ow)) (env : Ev) : R Ow := (f env).bind fun os => guard (os.length ≤ sizeLine) (.ok (.l os))
@[simp] theorem eLstO_eq (f : Ev → R (List Ow)) (env : Ev) : eLstO f env = (f env).bind fun os => guard (os.length ≤ sizeLine) (.ok (.l os)) := rfl
theorem de_lstO {f : Ev → R (List Ow)} (hf : DAo X W es f) : DE X W (.List es pos) (eLstO f) := by
  obtain ⟨t, p, s⟩ := hf
  refine ⟨_, pe_lst p, fun F H σ env fp Q sat h => ?_⟩
  refine s F H σ env fp _ sat ?_
  unfold eLstO at h
  cases ef : f env with
  | no => rw [ef] at h; exact h.elim
  | ex c => rw [ef] at h; exact h
  | ok os =>
    rw [ef] at h
    have h' : Post X W (POw X.KK) F H σ (guard (os.length ≤ sizeLine) (.ok (.l os))) Q := h
    intro vs F1 H1 x1 ⟨fy, oy, ny, fry⟩
    obtain ⟨hl, h2⟩ := guard_post h'
    refine ⟨by rw [OwnAll.len oy]; exact hl, fun p hp => ?_⟩
    have fh := x1.fh
    have x := Ext.own fh hp (.lst vs)
    have fp0 : ∀ b ∈ fy, b ≠ p := fun b hb e => by
      subst e
      obtain ⟨_, w, e⟩ := OwnAll.there _ _ _ oy b hb
      rw [hp] at e; cases e
    refine h2 _ F1 _ (x1.trans x) ⟨p :: fy, .l (free_of fh hp) upd_same (oy.ext x), List.nodup_cons.mpr ⟨fun z => fp0 p z rfl, ny⟩, fun b hb => ?_⟩
    rcases List.mem_cons.mp hb with z | z
    · subst z
      cases hz : H b with
      | none => rfl
      | some w => have := x1.hh _ _ hz; rw [hp] at this; cases this
    · exact fry b z
def eLenO (f : Ev → R Ow) (env : Ev) : R D := (f env).bind fun o => match o with
  | .l os => .ok (.int (os.length : Nat))
  | _ => .no
@[simp] theorem eLenO_eq (f : Ev → R Ow) (env : Ev) : eLenO f env = (f env).bind fun o => match o with
  | .l os => .ok (.int (os.length : Nat))
  | _ => .no := rfl
end
end Mir
end
set_option Elab.async false
set_option linter.all false
set_option maxRecDepth 100000
set_option maxHeartbeats 4000000
noncomputable section
namespace Mir
open PySem PySem.Spec PyProof.Rows L2
section
variable {K : Kw} {F H : Hp} {σ : L2.St} {env : Ev} {fp : List Addr}
end
section
variable {X : Cx} {W : WX} {S : Nat → Bool} {e k k2 : Expr} {pos npos tpos tpos2 : Pos} {x : Str}
end

section
variable {X : Cx} {W : WX} {S : Nat → Bool} {e : Expr} {st : Stmt} {fs : Ev → SR}
/-- an item of an own list, which is data -/
def asD : Ow → R D
  | .d x => .ok x
  | _ => .no
@[simp] theorem asD_d (x : D) : asD (.d x) = .ok x := rfl
end
end Mir
end
set_option Elab.async false
set_option linter.all false
set_option maxRecDepth 100000
set_option maxHeartbeats 4000000
noncomputable section
namespace Mir
open PySem PySem.Spec PyProof.Rows L2
section
variable {X : Cx} {W : WX} {S : Nat → Bool} {pos npos ypos : Pos} {x y : Str} {fs : Ev → SR}
end
end Mir
end
set_option Elab.async false
set_option linter.all false
set_option maxRecDepth 100000
set_option maxHeartbeats 4000000
noncomputable section
namespace Mir
open PySem PySem.Spec L2
section
variable {X : Cx} {es : List Expr} {pos : Pos}
def xLst (f : Ev → R (List D × Ev)) (env : Ev) : R (D × Ev) := (f env).bind fun p => guard (p.1.length ≤ sizeLine) (.ok (.list p.1, p.2))
@[simp] theorem xLst_eq (f : Ev → R (List D × Ev)) (env : Ev) : xLst f env = (f env).bind fun p => guard (p.1.length ≤ sizeLine) (.ok (.list p.1, p.2)) := rfl
end
end Mir
end
set_option Elab.async false
set_option linter.all false
set_option maxRecDepth 100000
set_option maxHeartbeats 4000000
noncomputable section
namespace Mir
open PySem PySem.Spec L2
section
variable {X : Cx} {W : WX} {S : Nat → Bool} {pos : Pos} {e a b : Expr} {x : Str} {npos : Pos}
end
end Mir
end
set_option Elab.async false
set_option linter.all false
set_option maxRecDepth 100000
set_option maxHeartbeats 4000000
noncomputable section
namespace Mir
open PySem PySem.Spec PyProof.Rows L2
section
variable {X : Cx} {W : WX} {o e : Expr} {apos cpos : Pos} {f g : Ev → R D}
def firstAt (z : Str) : List Str → Nat → Option Nat
  | [], _ => none
  | y :: ys, k => if (y == z) = true then some k else firstAt z ys (k + 1)
theorem firstAt_ok {z : Str} : ∀ {ys : List Str} {k j : Nat}, firstAt z ys k = some j → k ≤ j ∧ ys[j - k]? = some z ∧ ∀ m, m < j - k → ∀ y, ys[m]? = some y → (y == z) = false
  | [], k, j, h => by cases h
  | y :: ys, k, j, h => by
    rw [firstAt] at h
    by_cases c : (y == z) = true
    · rw [if_pos c] at h
      cases h
      rw [Nat.sub_self]
      exact ⟨Nat.le_refl _, by rw [eq_of_beq c]; rfl, fun m hm => by omega⟩
    · rw [if_neg c] at h
      obtain ⟨h1, h2, h3⟩ := firstAt_ok h
      have e : j - k = (j - (k + 1)) + 1 := by omega
      rw [e]
      refine ⟨by omega, h2, fun m hm y' hy => ?_⟩
      cases m with
      | zero =>
        have : y = y' := by simpa using hy
        subst this
        simpa using c
      | succ m => exact h3 m (by omega) y' (by simpa using hy)
def firstAtI (z : Int) : List Int → Nat → Option Nat
  | [], _ => none
  | y :: ys, k => if y = z then some k else firstAtI z ys (k + 1)
theorem firstAtI_ok {z : Int} : ∀ {ys : List Int} {k j : Nat}, firstAtI z ys k = some j → k ≤ j ∧ ys[j - k]? = some z ∧ ∀ m, m < j - k → ∀ y, ys[m]? = some y → y ≠ z
  | [], k, j, h => by cases h
  | y :: ys, k, j, h => by
    rw [firstAtI] at h
    by_cases c : y = z
    · rw [if_pos c] at h
      cases h
      rw [Nat.sub_self]
      exact ⟨Nat.le_refl _, by rw [c]; rfl, fun m hm => by omega⟩
    · rw [if_neg c] at h
      obtain ⟨h1, h2, h3⟩ := firstAtI_ok h
      have e : j - k = (j - (k + 1)) + 1 := by omega
      rw [e]
      refine ⟨by omega, h2, fun m hm y' hy => ?_⟩
      cases m with
      | zero =>
        have : y = y' := by simpa using hy
        subst this
        exact c
      | succ m => exact h3 m (by omega) y' (by simpa using hy)
/-- x.index(y): a text in a text, among texts, or a whole number among such -/
def gIndex : D → D → Option D
  | .str a, .str y => match Builtin.Str.occurrences a y 0 a.length 1 with
    | i :: _ => some (.int (i : Nat))
    | [] => none
  | .list ds, .str z => (strsD ds).bind fun ys => (firstAt z ys 0).map fun j => .int (j : Nat)
  | .list ds, .int z => (intsD ds).bind fun ys => (firstAtI z ys 0).map fun j => .int (j : Nat)
  | _, _ => none
def eLsIndex (f g : Ev → R D) (env : Ev) : R D := (f env).bind fun d => match d with
  | .list ds => (g env).bind fun y => R.of (gIndex (.list ds) y)
  | _ => .no
theorem df_lsIndex (ho : DL X W o f) (he : DV X W e g)
    (hbase : attributeBase o "index" X.env (eval o X.env) = eval o X.env := by rfl)
    (hfew : ((backTo cpos (starEach [e] X.env)).all (fun x => !x.1) && (backToKw cpos (keywordEach [] X.env)).all (fun x => x.1.isSome) && decide ([e].length + ([] : List Keyword).length + (if ([] : List Keyword).isEmpty then 0 else 1) < 30)) = true := by rfl)
    (hline : (apos.endLine == cpos.line) = true := by rfl) (hst : starEach [e] X.env = (false, eval e X.env) :: starEach [] X.env := by rfl) (hplain : (backTo cpos (starEach [] X.env)).any (·.1) = false := by rfl) :
    DF X W (.Call (.Attribute o "index" apos) [e] [] cpos) (eLsIndex f g) := by
  obtain ⟨ta, pa, sa⟩ := ho
  obtain ⟨tb, pb, sb⟩ := he
  refine ⟨_, pe_bm PySem.F.plainAttrs_list PySem.F.slot_list_index PySem.F.type_list_index mt_index pa (pa_cons pb pa_nil hst) hbase hfew hline hst hplain, fun F H σ env fp Q sat hp => ?_⟩
  refine sa.go sat hp fun d v F1 H1 sat1 q _ h1 => ?_
  cases d with
  | list ds =>
    obtain ⟨p, vs, rfl, q1, q2⟩ := q
    refine ⟨.inl ⟨rfl, vs, q1⟩, ?_⟩
    refine sb.go sat1 h1 fun d' y F2 H2 sat2 q' x2 h2 => ?_
    obtain ⟨r, hr, h3⟩ := post_of h2
    cases d' with
    | str z =>
      cases dp_str q'
      have hr : ((strsD ds).bind fun ys => (firstAt z ys 0).map fun j => PyData.int (j : Nat)) = some r := hr
      obtain ⟨ys, y1, y2⟩ := Option.bind_eq_some_iff.mp hr
      obtain ⟨j, j1, rfl⟩ := Option.map_eq_some_iff.mp y2
      have ev := strsD_dp q2 y1
      subst ev
      obtain ⟨_, k2, k3⟩ := firstAt_ok j1
      rw [Nat.sub_zero] at k2 k3
      refine ⟨p, ys.map V.str, .str z, j, .str z, rfl, rfl, x2.hh.seq q1, rfl, ?_, by rw [List.getElem?_map, k2]; rfl, ?_, fun m z' hm hz => ?_, h3 _ F2 H2 (.refl sat2.fh) (.int _)⟩
      · rw [List.all_map]
        exact List.all_eq_true.mpr fun _ _ => rfl
      · show (z == z) = true
        exact beq_self_eq_true z
      · rw [List.getElem?_map] at hz
        obtain ⟨y, hy, rfl⟩ := Option.map_eq_some_iff.mp hz
        exact k3 m hm y hy
    | int z =>
      cases dp_int q'
      have hr : ((intsD ds).bind fun ys => (firstAtI z ys 0).map fun j => PyData.int (j : Nat)) = some r := hr
      obtain ⟨ys, y1, y2⟩ := Option.bind_eq_some_iff.mp hr
      obtain ⟨j, j1, rfl⟩ := Option.map_eq_some_iff.mp y2
      have ed := intsD_eq y1
      subst ed
      have ev := DpAll.ints ys q2
      subst ev
      obtain ⟨_, k2, k3⟩ := firstAtI_ok j1
      rw [Nat.sub_zero] at k2 k3
      refine ⟨p, ys.map V.int, .int z, j, .int z, rfl, rfl, x2.hh.seq q1, rfl, ?_, by rw [List.getElem?_map, k2]; rfl, ?_, fun m z' hm hz => ?_, h3 _ F2 H2 (.refl sat2.fh) (.int _)⟩
      · rw [List.all_map]
        exact List.all_eq_true.mpr fun _ _ => rfl
      · show (z == z) = true
        exact beq_self_eq_true z
      · rw [List.getElem?_map] at hz
        obtain ⟨y, hy, rfl⟩ := Option.map_eq_some_iff.mp hz
        have := k3 m hm y hy
        show (y == z) = false
        simpa using this
    | _ => cases hr
  | _ => exact h1.elim
end
end Mir
end
set_option Elab.async false
set_option linter.all false
set_option maxRecDepth 100000
set_option maxHeartbeats 4000000
noncomputable section
namespace Mir
open PySem PySem.Spec PyProof.Rows L2
section
variable {X : Cx} {W : WX}
end
end Mir
end
set_option Elab.async false
set_option linter.all false
set_option maxRecDepth 100000
set_option maxHeartbeats 4000000
noncomputable section
namespace Mir
open PySem PySem.Spec PyProof.Rows L2
/-- what an exception at hand may be tracked as -/
structure ExH (φ : Heap → Prop) (cls : Value) (d : Option Addr) (a : Addr) : Prop where
  of : ∀ (h : Heap) (oe : Obj) (vs : Array Value), h.get? a = some oe → Zc cls d oe → oe.data = .fields vs → φ h
  st : ∀ h1 h2 : Heap, φ h1 → (∀ o, h1.get? a = some o → h2.get? a = some o) → φ h2
section
variable {X : Cx} {x n : Str} {c : Value} {i : Nat} {body suite : List Stmt} {b₀ : Stmt} {np pos pos' : Pos} {tb : WX → TS} {ts : TS} {Wout : WX}
end
/-- what each class is, where it is caught: true, let out: false; else not mirrored -/
def lookE : List (Str × Bool) → Str → Option Bool
  | [], _ => none
  | p :: ps, c => if p.1 = c then some p.2 else lookE ps c
/-- the own classes of a program, where they stand -/
structure OwnC (K : PySem.W.Frag) (mg : Str → Option Value) (c : Str) (C : Addr) : Prop where
  ns : PySem.W.nsIn K mainGlobals c = some (some (.ref C))
  gC : mg c = some (.ref C)
inductive CatchT (K : PySem.W.Frag) (mg : Str → Option Value) (x : Addr) : List (Str × Bool) → Prop
  | nil : CatchT K mg x []
  | cons {c : Str} {C : Addr} {b : Bool} {l : List (Str × Bool)} : OwnC K mg c C → PySem.W.exmOne K (.ref C) (.ref x) = some b → CatchT K mg x l → CatchT K mg x ((c, b) :: l)
/-- slot i holds nothing behind the suite -/
def dropT (i : Nat) : SR → SR
  | .nx env => .nx (env.set i none)
  | .rt r env => .rt r env
  | _ => .no
section
variable {X : Cx} {W : WX} {S : Nat → Bool} {x n : Str} {np pos pos' : Pos}
end
inductive TyE (K : Kw) (H : Hp) (x : V) (t : Value) : Prop
  | ty (h : TyX K.K H x t) : TyE K H x t
  | exc {a : Addr} {c : Str} {C : Addr} (hx : x = .ref a) (ht : t = .ref C) (ha : Rd H a (excO K a c)) (hc : PySem.W.nsIn K.K mainGlobals c = some (some (.ref C))) (ec : ExcC K.K C) : TyE K H x t
section
variable {X : Cx}
end
/-- a class asked of each own class, and of None -/
inductive AskT (K : PySem.W.Frag) (us : List Value) : List (Str × Bool) → Prop
  | nil : AskT K us []
  | cons {c : Str} {C : Addr} {b : Bool} {l : List (Str × Bool)} : PySem.W.nsIn K mainGlobals c = some (some (.ref C)) → ExcC K C → PySem.W.kitAny K (.ref C) us = some b → AskT K us l → AskT K us ((c, b) :: l)
/-- isinstance(e, X), e an exception or None -/
def gIsE (l : List (Str × Bool)) : D → R D
  | .none => .ok (.bool false)
  | .dict [(.none, .str c)] => match lookE l c with
    | some b => .ok (.bool b)
    | none => .no
  | _ => .no
@[simp] theorem gIsE_none (l : List (Str × Bool)) : gIsE l .none = .ok (.bool false) := rfl
section
variable {X : Cx} {W : WX} {a : Expr} {pos p p2 : Pos} {T : Str} {f : Ev → R D}
end
end Mir
end
set_option Elab.async false
set_option linter.all false
set_option maxRecDepth 100000
set_option maxHeartbeats 4000000
noncomputable section
namespace Mir
open PySem PySem.Spec PyProof.Rows L2
section
variable {K : Kw} {F' F'' H' : Hp} (hT : ∀ a xs, SqT K.K F' a xs → SqT K.K F'' a xs)
include hT
variable (hn : ∀ b, F' b = none → F'' b = none)
include hn
end
/-- neither a tuple nor a thing that is held still -/
def notT (u : HO) : Prop := (∀ xs, u ≠ .tup xs) ∧ ∀ o w, u ≠ .frz o w
mutual
theorem OwnAt.kinds {K : Kw} {F H : Hp} : ∀ (o : Ow) (v : V) (fp : List Addr), OwnAt K F H v o fp → ∀ b ∈ fp, ∃ u, H b = some u ∧ notT u
  | .d x, v, fp, h, b, hb => by cases h; cases hb
  | .l os, v, fp, h, b, hb => by
    cases h with
    | l h1 h2 h3 =>
      rcases List.mem_cons.mp hb with e | e
      · subst e; exact ⟨_, h2, (fun _ z => nomatch z), fun _ _ z => nomatch z⟩
      · exact OwnAll.kinds os _ _ h3 b e
  | .m ps, v, fp, h, b, hb => by
    cases h with
    | m h1 h2 h3 =>
      rw [List.mem_singleton] at hb
      subst hb; exact ⟨_, h2, (fun _ z => nomatch z), fun _ _ z => nomatch z⟩
  | .t os, v, fp, h, b, hb => by
    cases h with
    | t h1 h2 => exact OwnAll.kinds os _ _ h2 b hb
  | .k _ os, v, fp, h, b, hb => by
    cases h with
    | k h1 h2 h3 =>
      rcases List.mem_cons.mp hb with e | e
      · subst e; exact ⟨_, h2, (fun _ z => nomatch z), fun _ _ z => nomatch z⟩
      · exact OwnAll.kinds os _ _ h3 b e
  | .n _ os, v, fp, h, b, hb => by
    cases h with
    | n h1 h2 h3 h4 =>
      rcases List.mem_cons.mp hb with e | e
      · subst e; exact ⟨_, h2, (fun _ z => nomatch z), fun _ _ z => nomatch z⟩
      · exact OwnAll.kinds os _ _ h4 b e
  | .o _ _ os, v, fp, h, b, hb => by
    cases h with
    | o h0 h1 h2 h3 h4 h5 =>
      rcases List.mem_cons.mp hb with e | e
      · subst e; exact ⟨_, h3, (fun _ z => nomatch z), fun _ _ z => nomatch z⟩
      · rcases List.mem_cons.mp e with e | e
        · subst e; exact ⟨_, h4, (fun _ z => nomatch z), fun _ _ z => nomatch z⟩
        · exact OwnAll.kinds os _ _ h5 b e
theorem OwnAll.kinds {K : Kw} {F H : Hp} : ∀ (o : List Ow) (v : List V) (fp : List Addr), OwnAll K F H v o fp → ∀ b ∈ fp, ∃ u, H b = some u ∧ notT u
  | [], v, fp, h, b, hb => by cases h; cases hb
  | o :: os, v, fp, h, b, hb => by
    cases h with
    | cons h1 h2 =>
      rcases List.mem_append.mp hb with e | e
      · exact OwnAt.kinds o _ _ h1 b e
      · exact OwnAll.kinds os _ _ h2 b e
end
section
variable {X : Cx} {W : WX} {S : Nat → Bool} {fs : Ev → SR} {st : Stmt}
end
end Mir
end
set_option Elab.async false
set_option linter.all false
set_option maxRecDepth 100000
set_option maxHeartbeats 4000000
noncomputable section
namespace Mir
open PySem PySem.Spec PyProof.Rows L2
section
variable {X : Cx} {W : WX} {S : Nat → Bool} {e a b : Expr} {es : List Expr} {pos : Pos} {f g : Ev → R Ow}
theorem OwnAll.append {K : Kw} {F H : Hp} : ∀ {os os' : List Ow} {vs ws : List V} {fp fp' : List Addr}, OwnAll K F H vs os fp → OwnAll K F H ws os' fp' → OwnAll K F H (vs ++ ws) (os ++ os') (fp ++ fp')
  | [], _, _, _, _, _, h, g => by cases h; exact g
  | o :: os, _, _, _, _, _, h, g => by
    cases h with
    | cons h1 h2 =>
      rw [List.append_assoc]
      exact .cons h1 (OwnAll.append h2 g)
/-- + of two new lists with own items -/
def eAddO (f g : Ev → R Ow) (env : Ev) : R Ow := (f env).bind fun x => (g env).bind fun y => match x, y with
  | .l xs, .l ys => guard (xs.length + ys.length ≤ sizeLine) (.ok (.l (xs ++ ys)))
  | _, _ => .no
@[simp] theorem eAddO_eq (f g : Ev → R Ow) (env : Ev) : eAddO f g env = (f env).bind fun x => (g env).bind fun y => match x, y with
  | .l xs, .l ys => guard (xs.length + ys.length ≤ sizeLine) (.ok (.l (xs ++ ys)))
  | _, _ => .no := rfl
/-- a tuple with own things in it -/
def eTupO (f : Ev → R (List Ow)) (env : Ev) : R Ow := (f env).bind fun os => guard (os.length ≤ sizeLine) (.ok (.t os))
@[simp] theorem eTupO_eq (f : Ev → R (List Ow)) (env : Ev) : eTupO f env = (f env).bind fun os => guard (os.length ≤ sizeLine) (.ok (.t os)) := rfl
theorem de_tupO {x1} {f : Ev → R (List Ow)} (hf : DAo X W es f) : DE X W (.Tuple es x1 pos) (eTupO f) := by
  obtain ⟨t, p, s⟩ := hf
  refine ⟨_, pe_tup p, fun F H σ env fp Q sat h => ?_⟩
  refine s F H σ env fp _ sat ?_
  rw [eTupO_eq] at h
  cases ef : f env with
  | no => rw [ef] at h; exact h.elim
  | ex c => rw [ef] at h; exact h
  | ok os =>
  rw [ef, R.bind_ok] at h
  obtain ⟨hl, h2⟩ := guard_post h
  intro vs F1 H1 x1 ⟨fo, o1, n1, r1⟩
  have sat1 := sat.ext x1
  refine ⟨by rw [o1.len]; exact hl, fun p hp => ?_⟩
  have x := Ext.frz sat1.fh hp (.tup vs)
  exact h2 _ _ _ (x1.trans x) ⟨fo, .t (SqT.of upd_same) (OwnAll.ext o1 x), n1, r1⟩
end
end Mir
end
set_option Elab.async false
set_option linter.all false
set_option maxRecDepth 100000
set_option maxHeartbeats 4000000
noncomputable section
namespace Mir
open PySem PySem.Spec PyProof.Rows L2
/-- an exception that has come to the clauses -/
structure Air (X : Cx) (pins : List (Addr × Obj)) (a : Addr) (B : Heap) (sI s' : Shared) (h3 : Heap) (σ : L2.St) (H : Hp) (cls : Value) (d : Option Addr) : Prop where
  J : Inv X pins σ H sI
  nb : ∀ b o, sI.heap.get? b = some o → b ∉ frs X.stack → B.get? b = some o
  fl : HandSPX.FlyingZ B (X.env :: X.outer) a (Zc cls d) h3
  up : sI.heap.UpToSlots h3
  na : H a = none
  os : s'.os = sI.os
  ag : AllBare s'.gens
def HdsT (X : Cx) (hds : List ExceptHandler) (w : WX → Ends → WX) : Prop := ∀ (Wout : WX), Takes X Wout → ∀ pins D a B sI s' h3 σ H cls d, Air X pins a B sI s' h3 σ H cls d → w Wout D cls d σ H →
  wpAny (model X.prog X.w) X.A (handleBy (.ref a) X.env hds) (SP X pins D) X.xe { s' with heap := h3 }
section
variable {X : Cx} {x n : Str} {c : Value} {i : Nat} {suite : List Stmt} {b₀ : Stmt} {np pos pos' : Pos} {ts : TS} {hds : List ExceptHandler} {w : WX → Ends → WX}
end
abbrev Cl := List (Str × Bool) × Option Nat × (Ev → SR)
def noX : SR → SR
  | .ex _ _ => .no
  | r => r
def sHds : List Cl → Str → Ev → SR
  | [], c, env => .ex c env
  | h :: hs, c, env => match lookE h.1 c with
    | some true => match h.2.1 with
      | some i => if i < env.length then dropT i (h.2.2 (env.set i (some (.d (excD c))))) else .no
      | none => noX (h.2.2 env)
    | some false => sHds hs c env
    | none => .no
section
variable {X : Cx} {W : WX} {S : Nat → Bool} {x n : Str} {np pos pos' : Pos} {hds : List ExceptHandler} {hs : List Cl}
structure HdsD (X : Cx) (W : WX) (S : Nat → Bool) (hds : List ExceptHandler) (hs : List Cl) (w : WX → Ends → WX) : Prop where
  run : HdsT X hds w
  sem : ∀ c C σ F H fp env D, X.mg c = some (.ref C) → Sat X.KK F H σ env fp → PostS X W S σ F H fp D (sHds hs c env) → w W D (.ref C) none σ H
end
section
variable {X : Cx} {W : WX} {S : Nat → Bool} {e : Expr} {pos : Pos} {f : Ev → R (D × Ev)}
end
end Mir
end
set_option Elab.async false
set_option linter.all false
set_option maxRecDepth 100000
set_option maxHeartbeats 4000000
noncomputable section
namespace HT
open PySem PySem.Spec PyProof.Rows
section
variable {prog : Program} {w : World} {A : Around} {E : Value → Shared → Prop} {s : Shared}
end
end HT
namespace Mir
open PySem PySem.Spec PyProof.Rows L2
section
variable {X : Cx} {W : WX}
def gRevA : D → Option Ow
  | .list ds => some (.l (ds.reverse.map Ow.d))
  | .tuple ds => some (.d (.tuple ds.reverse))
  | _ => none
@[simp] theorem gRevA_list (ds : List D) : gRevA (.list ds) = some (.l (ds.reverse.map Ow.d)) := rfl
@[simp] theorem gRevA_tup (ds : List D) : gRevA (.tuple ds) = some (.d (.tuple ds.reverse)) := rfl
def eRevA (f : Ev → R D) (env : Ev) : R Ow := (f env).bind fun d => R.of (gRevA d)
@[simp] theorem eRevA_eq (f : Ev → R D) (env : Ev) : eRevA f env = (f env).bind fun d => R.of (gRevA d) := rfl
end
end Mir
end
set_option Elab.async false
set_option linter.all false
set_option maxRecDepth 100000
set_option maxHeartbeats 4000000
noncomputable section
namespace Mir
open PySem PySem.Spec PyProof.Rows L2
def noFrz (u : HO) : Prop := ∀ o v, u ≠ .frz o v
/-- what F tells F' tells, but for locks -/
structure Rl (F F' : Hp) : Prop where
  rd : ∀ a u, noFrz u → Rd F a u → Rd F' a u
  ins : ∀ a C dx fs, F a = some (.ins C dx fs) → F' a = some (.ins C dx fs)
theorem Rl.seq {K : PySem.W.Frag} {F F' : Hp} (r : Rl F F') {a : Addr} {xs : List V} (h : SqL K F a xs) : SqL K F' a xs := h.imp (r.rd a _ fun _ _ z => nomatch z) id
theorem Rl.seqT {K : PySem.W.Frag} {F F' : Hp} (r : Rl F F') {a : Addr} {xs : List V} (h : SqT K F a xs) : SqT K F' a xs := h.imp (r.rd a _ fun _ _ z => nomatch z) id
section
variable {K : Kw}
mutual
theorem Dp.rl {H H' : Hp} (e : Rl H H') : ∀ (d : D) (v : V), Dp K H v d → Dp K H' v d
  | .none, _, h => by cases h; exact .non
  | .bool b, _, h => by cases h; exact .bl b
  | .int b, _, h => by cases h; exact .int b
  | .str b, _, h => by cases h; exact .str b
  | .list ds, _, h => by
    cases h with
    | lst hs ha => exact .lst (e.seq hs) (DpAll.rl e ds _ ha)
  | .tuple ds, _, h => by
    cases h with
    | tup hs ha => exact .tup (e.seqT hs) (DpAll.rl e ds _ ha)
  | .dict ps, _, h => by
    cases h with
    | dct hs ha => exact .dct (e.rd _ _ (fun _ _ z => nomatch z) hs) (DpKv.rl e ps _ ha)
    | dcn hs ha => exact .dcn (e.rd _ _ (fun _ _ z => nomatch z) hs) (DpKn.rl e ps _ ha)
    | exc hs => exact .exc (e.rd _ _ (fun _ _ z => nomatch z) hs)
    | ins hs => exact .ins (e.ins _ _ _ _ hs)
theorem DpAll.rl {H H' : Hp} (e : Rl H H') : ∀ (ds : List D) (vs : List V), DpAll K H vs ds → DpAll K H' vs ds
  | [], _, h => by cases h; exact .nil
  | d :: ds, _, h => by
    cases h with
    | cons h1 h2 => exact .cons (Dp.rl e d _ h1) (DpAll.rl e ds _ h2)
theorem DpKv.rl {H H' : Hp} (e : Rl H H') : ∀ (ps : List (D × D)) (kvs : List (Key × V)), DpKv K H kvs ps → DpKv K H' kvs ps
  | [], _, h => by cases h; exact .nil
  | (x, d) :: ps, _, h => by
    cases h with
    | cons h1 h2 => exact .cons (Dp.rl e d _ h1) (DpKv.rl e ps _ h2)
theorem DpKn.rl {H H' : Hp} (e : Rl H H') : ∀ (ps : List (D × D)) (kvs : List (NestedKey × Addr × V)), DpKn K H kvs ps → DpKn K H' kvs ps
  | [], _, h => by cases h; exact .nil
  | (x, d) :: ps, _, h => by
    cases h with
    | cons h0 h1 h2 h3 => exact .cons (Dp.rl e _ _ h0) h1 (Dp.rl e d _ h2) (DpKn.rl e ps _ h3)
end
/-- .. and what stands beside F stays -/
structure Rlh (F H F' H' : Hp) : Prop where
  rl : Rl F F'
  fn : ∀ a, F a = none → F' a = none
  hh : ∀ a x, F a = none → H a = some x → H' a = some x
mutual
theorem OwnAt.rl {F H F' H' : Hp} (e : Rlh F H F' H') : ∀ (o : Ow) (v : V) (fp : List Addr), OwnAt K F H v o fp → OwnAt K F' H' v o fp
  | .d x, _, _, h => by cases h with | d h => exact .d (Dp.rl e.rl _ _ h)
  | .l os, _, _, h => by cases h with | l h1 h2 h3 => exact .l (e.fn _ h1) (e.hh _ _ h1 h2) (OwnAll.rl e os _ _ h3)
  | .m ps, _, _, h => by cases h with | m h1 h2 h3 => exact .m (e.fn _ h1) (e.hh _ _ h1 h2) (DpKv.rl e.rl _ _ h3)
  | .t os, _, _, h => by cases h with | t h1 h2 => exact .t (e.rl.seqT h1) (OwnAll.rl e os _ _ h2)
  | .k ks os, _, _, h => by cases h with | k h1 h2 h3 => exact .k (e.fn _ h1) (e.hh _ _ h1 h2) (OwnAll.rl e os _ _ h3)
  | .n ks os, _, _, h => by cases h with | n h1 h2 h3 h4 => exact .n (e.fn _ h1) (e.hh _ _ h1 h2) (fun p hp => ⟨Dp.rl e.rl _ _ (h3 p hp).1, (h3 p hp).2⟩) (OwnAll.rl e os _ _ h4)
  | .o c ns os, _, _, h => by cases h with | o h1 h2 h3 h4 h5 h6 => exact .o h1 (e.fn _ h2) (e.fn _ h3) (e.hh _ _ h2 h4) (e.hh _ _ h3 h5) (OwnAll.rl e os _ _ h6)
theorem OwnAll.rl {F H F' H' : Hp} (e : Rlh F H F' H') : ∀ (os : List Ow) (vs : List V) (fp : List Addr), OwnAll K F H vs os fp → OwnAll K F' H' vs os fp
  | [], _, _, h => by cases h; exact .nil
  | o :: os, _, _, h => by
    cases h with
    | cons h1 h2 => exact .cons (OwnAt.rl e o _ _ h1) (OwnAll.rl e os _ _ h2)
end
theorem EnvAt.rl {F H F' H' : Hp} (e : Rlh F H F' H') {σ : L2.St} {env : Ev} {fp : List Addr} (h : EnvAt K F H σ env fp) : EnvAt K F' H' σ env fp := by
  induction h with
  | nil => exact .nil
  | non h ih => exact .non ih
  | som h1 h2 ih => exact .som (OwnAt.rl e _ _ _ h1) ih
theorem rlh_lock {F H : Hp} {d : Addr} {u : HO} {od : Obj} (hF : F d = some u) (nf : noFrz u) (ni : ∀ C dx fs, u ≠ .ins C dx fs) : Rlh F H (upd F d (.frz od u)) (upd H d (.frz od u)) where
  rl := ⟨fun a x nx h => by
    by_cases e : a = d
    · subst e
      rcases h with h | ⟨o, h⟩
      · rw [hF] at h; cases h; exact .inr ⟨od, upd_same⟩
      · rw [hF] at h; exact absurd (Option.some.inj h) (nf _ _)
    · rcases h with h | ⟨o, h⟩
      · exact .inl (by rw [upd_ne e]; exact h)
      · exact .inr ⟨o, by rw [upd_ne e]; exact h⟩, fun a C dx fs h => by
    by_cases e : a = d
    · subst e; rw [hF] at h; exact absurd (Option.some.inj h) (ni _ _ _)
    · rw [upd_ne e]; exact h⟩
  fn := fun a h => by
    by_cases e : a = d
    · subst e; rw [hF] at h; cases h
    · rw [upd_ne e]; exact h
  hh := fun a x h g => by
    by_cases e : a = d
    · subst e; rw [hF] at h; cases h
    · rw [upd_ne e]; exact g
theorem rlh_unlock {F H : Hp} {d : Addr} {u : HO} {od : Obj} (hF : F d = some (.frz od u)) : Rlh F H (upd F d u) (upd H d u) where
  rl := ⟨fun a x nx h => by
    by_cases e : a = d
    · subst e
      rcases h with h | ⟨o, h⟩
      · rw [hF] at h; cases h; exact absurd rfl (nx _ _)
      · rw [hF] at h; cases h; exact .inl upd_same
    · rcases h with h | ⟨o, h⟩
      · exact .inl (by rw [upd_ne e]; exact h)
      · exact .inr ⟨o, by rw [upd_ne e]; exact h⟩, fun a C dx fs h => by
    by_cases e : a = d
    · subst e; rw [hF] at h; cases h
    · rw [upd_ne e]; exact h⟩
  fn := fun a h => by
    by_cases e : a = d
    · subst e; rw [hF] at h; cases h
    · rw [upd_ne e]; exact h
  hh := fun a x h g => by
    by_cases e : a = d
    · subst e; rw [hF] at h; cases h
    · rw [upd_ne e]; exact g
theorem same_both {F H : Hp} (s : Same F H) {d : Addr} (u : HO) : Same (upd F d u) (upd H d u) := fun b o q => by
  by_cases e : b = d
  · subst e; rw [upd_same] at q ⊢; exact q
  · rw [upd_ne e] at q ⊢; exact s _ _ q
theorem Sat.lock {F H : Hp} {σ : L2.St} {env : Ev} {fp : List Addr} {d : Addr} {u : HO} (od : Obj) (sat : Sat K F H σ env fp) (hF : F d = some u) (nf : noFrz u) (ni : ∀ C dx fs, u ≠ .ins C dx fs) : Sat K (upd F d (.frz od u)) (upd H d (.frz od u)) σ env fp :=
  ⟨same_both sat.fh _, sat.en.rl (rlh_lock hF nf ni), sat.nd⟩
theorem Sat.unlock {F H : Hp} {σ : L2.St} {env : Ev} {fp : List Addr} {d : Addr} {u : HO} {od : Obj} (sat : Sat K F H σ env fp) (hF : F d = some (.frz od u)) : Sat K (upd F d u) (upd H d u) σ env fp :=
  ⟨same_both sat.fh _, sat.en.rl (rlh_unlock hF), sat.nd⟩
theorem StepS.unlock {F H F' H' : Hp} {fp fp' : List Addr} {d : Addr} {u : HO} {od : Obj} (hF : F d = some u) (hH : H d = some u) (s : StepS (upd F d (.frz od u)) (upd H d (.frz od u)) fp F' H' fp') : StepS F H fp (upd F' d u) (upd H' d u) fp' where
  ff := fun b o h => by
    by_cases e : b = d
    · subst e; rw [hF] at h; cases h; exact upd_same
    · rw [upd_ne e]; exact s.ff b o (by rw [upd_ne e]; exact h)
  fr := fun b o h n => by
    by_cases e : b = d
    · subst e; rw [hH] at h; cases h; exact upd_same
    · rw [upd_ne e]; exact s.fr b o (by rw [upd_ne e]; exact h) n
  fn := fun b o h => by
    by_cases e : b = d
    · subst e; rw [upd_same] at h; cases h; exact .inl hF
    · rw [upd_ne e] at h
      rcases s.fn b o h with g | g | g
      · rw [upd_ne e] at g; exact .inl g
      · exact .inr (.inl g)
      · rw [upd_ne e] at g; exact .inr (.inr g)
  sub := fun b h => by
    rcases s.sub b h with g | g
    · exact .inl g
    · by_cases e : b = d
      · subst e; rw [upd_same] at g; cases g
      · rw [upd_ne e] at g; exact .inr g
end
/-- the ends of what runs while d is locked -/
def lockEnds (d : Addr) (u : HO) (od : Obj) (D : Ends) : Ends := ⟨fun σ' H' => H' d = some (.frz od u) ∧ D.nx σ' (upd H' d u), fun v H' => H' d = some (.frz od u) ∧ D.rt v (upd H' d u), fun σ' H' => H' d = some (.frz od u) ∧ D.bk σ' (upd H' d u), fun σ' H' => H' d = some (.frz od u) ∧ D.ct σ' (upd H' d u)⟩
theorem PostS.lock {X : Cx} {W W2 : WX} {S : Nat → Bool} {σ0 : L2.St} {F H : Hp} {fp : List Addr} {D : Ends} {r : SR} {d : Addr} {u : HO} (od : Obj) (hF : F d = some u) (hH : H d = some u) (h : PostS X W S σ0 F H fp D (noX r)) : PostS X W2 S σ0 (upd F d (.frz od u)) (upd H d (.frz od u)) fp (lockEnds d u od D) r := by
  have loc : ∀ {F' H' : Hp} {fp'}, StepS (upd F d (.frz od u)) (upd H d (.frz od u)) fp F' H' fp' → F' d = some (.frz od u) := fun s => s.ff d _ upd_same
  cases r with
  | no => exact h
  | ex c env => exact h.elim
  | nx env => exact fun σ F' H' fp' o s sat => ⟨sat.fh d _ (loc s), h σ _ _ fp' o (s.unlock hF hH) (sat.unlock (loc s))⟩
  | bk env => exact fun σ F' H' fp' o s sat => ⟨sat.fh d _ (loc s), h σ _ _ fp' o (s.unlock hF hH) (sat.unlock (loc s))⟩
  | ct env => exact fun σ F' H' fp' o s sat => ⟨sat.fh d _ (loc s), h σ _ _ fp' o (s.unlock hF hH) (sat.unlock (loc s))⟩
  | rt r env => exact fun v σ F' H' fx fp' o s sat ow nd => ⟨sat.fh d _ (loc s), h v σ _ _ fx fp' o (s.unlock hF hH) (sat.unlock (loc s)) (OwnAt.rl (rlh_unlock (loc s)) _ _ _ ow) nd⟩
theorem dp_kV {K : Kw} {H : Hp} (k : Key) : Dp K H (kV k) (keyD k) := by
  cases k with
  | inl i => exact .int i
  | inr z => exact .str z
section
variable {X : Cx} {pins : List (Addr × Obj)} {σ : L2.St} {H : Hp} {s : Shared} {d : Addr} {o : Obj}
end
section
variable {X : Cx} {W : WX} {S : Nat → Bool} {tg e : Expr} {td : TE}
theorem PS.or {st : Stmt} {t t' : TS} (h : PS X st t) (h' : PS X st t') : PS X st (fun D σ H => t D σ H ∨ t' D σ H) := ⟨fun pins s σ H D I q => by
  rcases q with q | q
  · exact h.run pins s σ H D I q
  · exact h'.run pins s σ H D I q⟩
theorem forK_core {body : List Stmt} {g : D → Ev → Option Ev} {fs : Ev → SR} {tb : TS} {ix : List Nat} {wi : TI} {i : Nat} (sb : SmS X W S tb fs) (hS : ix.all S = true) {F H : Hp} {σ : L2.St} {env : Ev} {fp : List Addr} {D : Ends} {items : List PyData} {J : It} (sat : Sat X.KK F H σ env fp) (wk : WalkF X.KK J F items) (wh : ∀ R : It → Hp → Prop, R J H → wi σ H R) (h : PostS X W S σ F H fp D (forL g fs items env)) : tFor wi (tgOf X.KK ix g) tb D σ H := by
  refine wh _ ?_
  refine ⟨fun i m σ' H' => m = items.length - i ∧ i ≤ items.length ∧ ∃ F' env' fp', Same F F' ∧ Sat X.KK F' H' σ' env' fp' ∧ PostS X W S σ' F' H' fp' D (forL g fs (items.drop i) env'),
    ⟨items.length, by simp, Nat.zero_le _, F, env, fp, Same.refl _, sat, h⟩, ?_⟩
  rintro i m σ' H' ⟨rfl, hi, F', env', fp', st, sat', h2⟩
  by_cases hlt : i < items.length
  · refine .inr ⟨wk.go i F' H' hlt st sat'.fh, fun σ2 H2 => ∃ F2 env2 fp2, Same F F2 ∧ Sat X.KK F2 H2 σ2 env2 fp2 ∧ PostS X W S σ2 F2 H2 fp2 D (forL g fs (items.drop (i + 1)) env2), ?_, ?_⟩
    · rintro σ2 H2 ⟨F2, env2, fp2, a, b, c⟩
      exact ⟨items.length - (i + 1), by omega, rfl, hlt, F2, env2, fp2, a, b, c⟩
    · intro x H3 y
      obtain ⟨d, F3, e1, x3, dp⟩ := wk.yld i F' H' x H3 hlt st sat'.fh y
      have ed : items.drop i = d :: items.drop (i + 1) := by
        rw [List.drop_eq_getElem_cons hlt]
        have : items[i] = d := by rw [List.getElem?_eq_getElem hlt] at e1; exact Option.some.inj e1
        rw [this]
      rw [ed] at h2
      unfold forL at h2
      cases eg : g d env' with
      | none => rw [eg] at h2; exact h2.elim
      | some env1 =>
        rw [eg] at h2
        simp only at h2
        refine ⟨F3, env', fp', d, env1, sat'.ext x3, dp, eg, fun σ4 fp4 sat4 sub4 off4 => ?_⟩
        have st4 : StepS F' H' fp' F3 H3 fp4 := (StepS.of_ext x3 fp').subset sub4
        have h4 := PostS.step h2 (.of off4 hS) st4
        refine sb F3 H3 σ4 env1 fp4 _ sat4 ?_
        cases ef : fs env1 with
        | no => rw [ef] at h4; exact h4
        | nx env2 => rw [ef] at h4; exact fun σ5 F5 H5 fp5 o5 s5 sat5 => ⟨F5, env2, fp5, st.trans (x3.ff.trans s5.ff), sat5, PostS.step h4 o5 s5⟩
        | ct env2 => rw [ef] at h4; exact fun σ5 F5 H5 fp5 o5 s5 sat5 => ⟨F5, env2, fp5, st.trans (x3.ff.trans s5.ff), sat5, PostS.step h4 o5 s5⟩
        | bk env2 => rw [ef] at h4; exact h4
        | rt r env2 => rw [ef] at h4; exact h4
        | ex c env2 => rw [ef] at h4; exact h4
  · have e : i = items.length := by omega
    subst e
    rw [List.drop_length] at h2
    exact .inl ⟨wk.stop F' H' st sat'.fh, h2 σ' F' H' fp' (.refl _ _) (StepS.of_ext (.refl sat'.fh) fp') sat'⟩
end
end Mir
end
set_option Elab.async false
set_option linter.all false
set_option maxRecDepth 100000
set_option maxHeartbeats 4000000
noncomputable section
namespace Mir
open PySem PySem.Spec PyProof.Rows L2
abbrev NKvs := List (NestedKey × Addr × V)
section
variable {X : Cx} {pins : List (Addr × Obj)} {σ : L2.St} {H : Hp} {s : Shared}
variable {A : Around} {E : Value → Shared → Prop} {d b : Addr} {kvs : NKvs} {k : NestedKey}
end
def eqD (a b : D) : Bool := @decide (a = b) (Classical.propDecidable _)
theorem eqD_iff {a b : D} : eqD a b = true ↔ a = b := @decide_eq_true_iff _ (Classical.propDecidable _)
@[simp] theorem eqD_self (a : D) : eqD a a = true := eqD_iff.mpr rfl
section
variable {X : Cx} {W : WX} {a b e k : Expr} {f g : Ev → R D} {pos : Pos}
end
def nO (ps : List (D × D)) : Ow := .n (ps.map (·.1)) (ps.map fun p => .d p.2)
theorem zip_fs : ∀ ps : List (D × D), (ps.map (·.1)).zip (ps.map (·.2)) = ps
  | [] => rfl
  | p :: ps => by rw [List.map_cons, List.map_cons, List.zip_cons_cons, zip_fs ps]
@[simp] theorem viewD_nO (ps : List (D × D)) : viewD (nO ps) = .dict ps := by
  unfold nO
  rw [viewD_n]
  have : viewAll (ps.map fun p => Ow.d p.2) = ps.map (·.2) := by
    have := viewAll_mapd (ps.map (·.2))
    rw [List.map_map] at this
    exact this
  rw [this, zip_fs]
section
variable {X : Cx} {W : WX} {S : Nat → Bool} {e k : Expr} {pos tpos npos : Pos} {x : Str} {f g : Ev → R D}
def eDictNewN (_ : Ev) : R Ow := .ok (nO [])
@[simp] theorem eDictNewN_eq (env : Ev) : eDictNewN env = .ok (nO []) := rfl
end
end Mir
end
set_option Elab.async false
set_option linter.all false
set_option maxRecDepth 100000
set_option maxHeartbeats 4000000
noncomputable section
namespace Mir
open PySem PySem.Spec PyProof.Rows L2
section
variable {K : Kw} {F H : Hp} {σ : L2.St} {env : Ev} {fp : List Addr}
end
section
variable {X : Cx} {W : WX} {S : Nat → Bool} {e k : Expr} {pos tpos npos apos cpos : Pos} {x : Str} {f : Ev → R Ow} {g : Ev → R D}
end
end Mir
end
set_option Elab.async false
set_option linter.all false
set_option maxRecDepth 100000
set_option maxHeartbeats 4000000
noncomputable section
namespace Mir
open PySem PySem.Spec PyProof.Rows L2
section
variable {X : Cx} {W : WX} {a b : Expr} {pos : Pos} {f g : Ev → R D}
end
end Mir
set_option Elab.async false
set_option linter.all false
set_option maxRecDepth 100000
set_option maxHeartbeats 4000000
noncomputable section
namespace Mir
open PySem PySem.Spec PyProof.Rows L2
section
variable {X : Cx} {W : WX}
end
end Mir
set_option Elab.async false
set_option linter.all false
set_option maxRecDepth 100000
set_option maxHeartbeats 4000000
noncomputable section
namespace Mir
open PySem PySem.Spec PyProof.Rows L2
section
variable {X : Cx} {W : WX} {a b : Expr} {pos : Pos} {f g : Ev → R D}
end
theorem op_mul_str0 {X : Cx} : OpR X (binaryOp .Mult) (fun x y H Q => ∃ z : Str, x = .str z ∧ y = .int 0 ∧ Q (.str (repS z 0)) H) := by
  intro pins s σ H x y v u Q I rx ry h
  obtain ⟨z, rfl, rfl, q⟩ := h
  obtain ⟨t, rfl⟩ := rx
  obtain ⟨t', rfl⟩ := ry
  exact PySem.P.mul_str_none (by decide) (by decide) ⟨.str Str.empty, H, I.tok _, ⟨_, rfl⟩, q⟩
def gMulZ : D → D → Option D
  | .int i, .int j => gMul (.int i) (.int j)
  | .str z, .int n => if 0 ≤ n ∧ n ≤ 1000000 ∧ z.length * n.toNat ≤ sizeLine then some (.str (repS z n.toNat)) else none
  | _, _ => none
@[simp] theorem gMulZ_int (i j : Int) : gMulZ (.int i) (.int j) = gMul (.int i) (.int j) := rfl
theorem gMulZ_str {z : Str} {n : Nat} (h2 : n ≤ 1000000) (h3 : z.length * n ≤ sizeLine) : gMulZ (.str z) (.int (n : Int)) = some (.str (repS z n)) := if_pos ⟨by omega, by omega, by rw [Int.toNat_natCast]; exact h3⟩
section
variable {X : Cx} {W : WX} {a b : Expr} {pos : Pos} {f g : Ev → R D}
theorem opS_mulZ {K : Kw} : OpS K (fun x y H Q => (∃ z : Str, x = .str z ∧ y = .int 0 ∧ Q (.str (repS z 0)) H) ∨ (fun x y H Q => rI (fun i j => CMul i j ∨ CMulW i j) (fun i j => .int (i * j)) x y H Q ∨ ∃ (z : Str) (n : Nat), x = .str z ∧ y = .int (n : Int) ∧ 1 ≤ n ∧ n ≤ 1000000 ∧ z.length * n ≤ sizeLine ∧ Q (.str (repS z n)) H) x y H Q) gMulZ := by
  intro H x y dx dy d Q hx hy e q
  unfold gMulZ at e
  split at e
  · exact .inr (.inl (opS_I H x y _ _ d Q hx hy e q))
  · split at e
    · rename_i z n c
      cases e
      cases dp_str hx
      cases dp_int hy
      by_cases n0 : n = 0
      · subst n0
        exact .inl ⟨z, rfl, rfl, q _ fun F => .str _⟩
      · exact .inr (.inr ⟨z, n.toNat, rfl, by rw [Int.toNat_of_nonneg (by omega)], by omega, by omega, c.2.2, q _ fun F => .str _⟩)
    · cases e
  · cases e
theorem df_mulZ (ha : DV X W a f) (hb : DV X W b g) : DF X W (.BinOp a .Mult b pos) (eBin gMulZ f g) := df_bin (OpR.or op_mul_str0 op_mulSV) opS_mulZ ha hb
end
section
variable {K : Kw} {F H : Hp} {σ : L2.St} {env : Ev} {fp : List Addr}
end
section
variable {X : Cx} {x : Str}
end
end Mir
set_option Elab.async false
set_option linter.all false
set_option maxRecDepth 100000
set_option maxHeartbeats 4000000
noncomputable section
namespace RT
open PySem PySem.Spec PyProof.Rows
open PySem.Sem (wp)
section
variable {prog : Program} {w : World} {A : Around} {E : Value → Shared → Prop} {s : Shared} {z TI TO i1 i2 T : Addr} {fp1 fp2 : List Addr} {n1 n2 i : Nat} {P1 P2 : Nat → Value → Prop} {St1 St2 : Nat → Heap → Prop} {f : Bool} {oT : Obj}
/-- a zip at turn i, with no tuple out or with one that is held -/
def ZipSt (h : Heap) (z TI TO S i1 i2 : Addr) (i : Nat) : Prop :=
  (i = 0 ∧ IsZip h z TI TO .none ∧ ∃ a1 a2, IsTupOf2 h TO a1 a2) ∨ ∃ T f oT, IsZipHeld h z TI TO T f ∧ h.get? T = some oT ∧ T ≠ z ∧ T ≠ i1 ∧ T ≠ i2 ∧ T ≠ S
theorem ZipSt.keep {h h' : Heap} {z TI TO S i1 i2 : Addr} {i : Nat} (q : ZipSt h z TI TO S i1 i2 i) (up : ∀ b o, b ≠ S → h.get? b = some o → h'.get? b = some o) (zs : z ≠ S) (ts : TO ≠ S) : ZipSt h' z TI TO S i1 i2 i := by
  rcases q with ⟨a, b, c, d, e⟩ | ⟨T, f, oT, a, b, c, d, e, g⟩
  · exact .inl ⟨a, up _ _ zs b, c, d, up _ _ ts e⟩
  · exact .inr ⟨T, f, oT, up _ _ zs a, up _ _ g b, c, d, e, g⟩
end
end RT
set_option Elab.async false
set_option linter.all false
set_option maxRecDepth 100000
set_option maxHeartbeats 4000000
noncomputable section
namespace RT
open PySem PySem.Spec PyProof.Rows
open PySem.Sem (wp)
structure ZipG (P1 P2 : Nat → Value → Prop) (lo : Addr) (h : Heap) (as : List Addr) : Prop where
  rise : as.Pairwise (· < ·)
  above : ∀ a ∈ as, lo < a
  pairs : ∀ (j : Nat) (a : Addr), as[j]? = some a → ∃ x y, P1 j x ∧ P2 j y ∧ h.get? a = some { cls := .type "tuple", data := .seq #[x, y] }
theorem ZipG.there {P1 P2 : Nat → Value → Prop} {lo : Addr} {h : Heap} {as : List Addr} (g : ZipG P1 P2 lo h as) {a : Addr} (ha : a ∈ as) : a < h.objs.size := by
  obtain ⟨j, hj⟩ := List.mem_iff_getElem?.mp ha
  obtain ⟨_, _, _, _, e⟩ := g.pairs j a hj
  exact Heap.lt_size e
section
variable {prog : Program} {w : World} {A : Around} {E : Value → Shared → Prop} {s : Shared} {R : Result → Shared → Prop} {z TI TO i1 i2 : Addr} {fp1 fp2 : List Addr} {n1 n2 : Nat} {P1 P2 : Nat → Value → Prop} {St1 St2 : Nat → Heap → Prop}
end
end RT
set_option Elab.async false
set_option linter.all false
set_option maxRecDepth 100000
set_option maxHeartbeats 4000000
noncomputable section
namespace Mir
open PySem PySem.Spec PyProof.Rows L2 RT
section
variable {X : Cx} {pins : List (Addr × Obj)} {σ : L2.St} {H : Hp} {s : Shared} {h' : Heap}
end
section
variable {X : Cx} {W : WX}
end
end Mir
end
noncomputable section
namespace Mir
open PySem PySem.Spec PyProof.Rows L2 RT
def ownL1 (zs : List D) : Ow := .l (zs.map Ow.d)
def eListZip (fa : Ev → R (List D)) : Ev → R Ow := eM (eB fa zpArg) ownL1
@[simp] theorem eListZip_eq (fa : Ev → R (List D)) (env : Ev) : eListZip fa env = ((fa env).bind zpArg).map ownL1 := rfl
section
variable {X : Cx} {W : WX}
end
end Mir
end
noncomputable section
namespace Mir
open PySem PySem.Spec PyProof.Rows L2
def gtLst (n : Nat) (h : List D → Ev → Option Ev) : D → Ev → Option Ev
  | .list ds, env => if ds.length = n then h ds env else none
  | _, _ => none
@[simp] theorem gtLst_eq (n : Nat) (h : List D → Ev → Option Ev) (ds : List D) (env : Ev) : gtLst n h (.list ds) env = if ds.length = n then h ds env else none := rfl
end Mir
end
set_option Elab.async false
set_option linter.all false
set_option maxRecDepth 100000
set_option maxHeartbeats 4000000
noncomputable section
namespace Mir
open PySem PySem.Spec PyProof.Rows L2
section
variable {K : Kw} {F H : Hp} {σ : L2.St} {env : Ev} {fp : List Addr}
/-- what lies beside it may change -/
theorem Sat.beside {F' H' : Hp} {fx fy : List Addr} (sat : Sat K F H σ env fp) (st : StepS F H fx F' H' fy) (dj : ∀ b ∈ fp, b ∉ fx) (sf : Same F' H') : Sat K F' H' σ env fp := ⟨sf, sat.en.keep st dj, sat.nd⟩
end
def insV {α : Type} (p : Nat) (x : α) (xs : List α) : List α := xs.take p ++ x :: xs.drop p
@[simp] theorem insV_0 {α : Type} (x : α) (xs : List α) : insV 0 x xs = x :: xs := by simp [insV]
@[simp] theorem insV_s {α : Type} (p : Nat) (x y : α) (xs : List α) : insV (p + 1) x (y :: xs) = y :: insV p x xs := by simp [insV]
def envP (p l : Nat) (o : Ow) (ds : List D) : Ev := insV p (some o) (ds.map fun d => some (Ow.d d)) ++ List.replicate l none
section
variable {P : Program} {w : World} {K : PySem.W.Frag} {mg : Str → Option Value} {base : Heap}
end
inductive RY (α : Type) where
  | no
  | ok (a : α) (env : Ev)
  | ex (c : Str) (env : Ev)
def RY.bind {α β : Type} : RY α → (α → Ev → RY β) → RY β
  | .no, _ => .no
  | .ok a env, g => g a env
  | .ex c env, _ => .ex c env
@[simp] theorem RY.bind_ok {α β : Type} (a : α) (env : Ev) (g : α → Ev → RY β) : (RY.ok a env).bind g = g a env := rfl
@[simp] theorem RY.bind_ex {α β : Type} (c : Str) (env : Ev) (g : α → Ev → RY β) : (RY.ex c env : RY α).bind g = .ex c env := rfl
def PostY (X : Cx) (W : WX) {α β : Type} (P : Hp → α → β → Prop) (F H : Hp) (fp : List Addr) (σ : L2.St) : RY α → (β → Hp → Prop) → Prop
  | .no, _ => False
  | .ok a env, Q => ∀ v F' H' fp', StepS F H fp F' H' fp' → Sat X.KK F' H' σ env fp' → P F' a v → Q v H'
  | .ex c env, _ => ∀ C F' H' fp', X.mg c = some (.ref C) → StepS F H fp F' H' fp' → Sat X.KK F' H' σ env fp' → W (.ref C) none σ H'
def SmY (X : Cx) (W : WX) {α β : Type} (P : Hp → α → β → Prop) (t : L2.St → Hp → (β → Hp → Prop) → Prop) (f : Ev → RY α) : Prop :=
  ∀ F H σ env fp Q, Sat X.KK F H σ env fp → PostY X W P F H fp σ (f env) Q → t σ H Q
section
variable {X : Cx} {W : WX} {α β γ δ : Type} {P : Hp → α → β → Prop} {P2 : Hp → γ → δ → Prop} {F H F1 H1 : Hp} {fp fp1 : List Addr} {σ : L2.St}
theorem PostY.step {r : RY α} {Q : β → Hp → Prop} (h : PostY X W P F H fp σ r Q) (s : StepS F H fp F1 H1 fp1) : PostY X W P F1 H1 fp1 σ r Q := by
  cases r with
  | no => exact h
  | ex c env => exact fun C F' H' fp' m s' => h C F' H' fp' m (s.trans s')
  | ok a env => exact fun v F' H' fp' s' => h v F' H' fp' (s.trans s')
theorem SmY.go {t : L2.St → Hp → (β → Hp → Prop) → Prop} {f : Ev → RY α} (s : SmY X W P t f) {g : α → Ev → RY γ} {env : Ev} {Q : δ → Hp → Prop} {T : β → Hp → Prop} (sat : Sat X.KK F H σ env fp) (h : PostY X W P2 F H fp σ ((f env).bind g) Q)
    (k : ∀ a env1 v F1 H1 fp1, StepS F H fp F1 H1 fp1 → Sat X.KK F1 H1 σ env1 fp1 → P F1 a v → PostY X W P2 F1 H1 fp1 σ (g a env1) Q → T v H1) : t σ H T := by
  refine s F H σ env fp T sat ?_
  cases e : f env with
  | no => rw [e] at h; exact h
  | ex c env1 => rw [e] at h; exact h
  | ok a env1 =>
    rw [e] at h
    exact fun v F' H' fp' st sat' q => k a env1 v F' H' fp' st sat' q (PostY.step (show PostY X W P2 F H fp σ (g a env1) Q from h) st)
end
section
variable {X : Cx} {W : WX} {e a b : Expr} {es : List Expr} {pos p : Pos} {x : Str}
end
end Mir
end
set_option Elab.async false
set_option linter.all false
set_option maxRecDepth 100000
set_option maxHeartbeats 4000000
noncomputable section
namespace Mir
open PySem PySem.Spec PyProof.Rows L2
section
variable {X : Cx} {W : WX} {e a b : Expr} {es : List Expr} {pos p : Pos} {x : Str}
end
section
variable {X : Cx} {pins : List (Addr × Obj)} {σ : L2.St} {H : Hp} {s : Shared} {A : Around} {E : Value → Shared → Prop} {d b : Addr} {kvs : NKvs} {k : NestedKey}
end
section
variable {X : Cx} {W : WX} {o e f : Expr} {td ty tx : TE} {apos cpos npos : Pos} {x : Str}
end
section
variable {X : Cx} {W : WX} {S : Nat → Bool} {e : Expr} {pos cpos apos npos : Pos} {x : Str} {f : Ev → RY D}
end
end Mir
end
set_option Elab.async false
set_option linter.all false
set_option maxRecDepth 100000
set_option maxHeartbeats 4000000
noncomputable section
namespace Mir
open PySem PySem.Spec PyProof.Rows L2
section
variable {X : Cx} {W : WX} {e : Expr} {p pos npos : Pos} {x : Str} {td : TE}
end
end Mir
end
set_option Elab.async false
set_option linter.all false
set_option maxRecDepth 100000
set_option maxHeartbeats 4000000
noncomputable section
namespace Mir
open PySem PySem.Spec PyProof.Rows L2
section
variable {X : Cx} {W : WX} {x : Str} {p pos npos : Pos}
end
def finP1 (p : Nat) (d : D) (env : Ev) : R (D × Ow) := match env[p]? with
  | some (some o) => .ok (d, o)
  | _ => .no
def finP (p : Nat) : SR → R (D × Ow)
  | .nx env => finP1 p .none env
  | .rt (.d d) env => finP1 p d env
  | .ex c _ => .ex c
  | _ => .no
@[simp] theorem finP_nx (p : Nat) (env : Ev) : finP p (.nx env) = finP1 p .none env := rfl
@[simp] theorem finP_rt (p : Nat) (d : D) (env : Ev) : finP p (.rt (.d d) env) = finP1 p d env := rfl
@[simp] theorem finP_ex (p : Nat) (c : Str) (env : Ev) : finP p (.ex c env) = .ex c := rfl
@[simp] theorem finP1_0 (d : D) (o : Ow) (env : Ev) : finP1 0 d (some o :: env) = .ok (d, o) := rfl
@[simp] theorem finP1_s (p : Nat) (d : D) (x : Option Ow) (env : Ev) : finP1 (p + 1) d (x :: env) = finP1 p d env := rfl
@[simp] theorem envP_0 (l : Nat) (o : Ow) (ds : List D) : envP 0 l o ds = some o :: envOf l ds := by
  induction ds with
  | nil => simp [envP, envOf]
  | cons d ds ih => simp [envP, envOf] at ih ⊢
@[simp] theorem envP_s (p l : Nat) (o : Ow) (d : D) (ds : List D) : envP (p + 1) l o (d :: ds) = some (.d d) :: envP p l o ds := by simp [envP]
end Mir
end
set_option Elab.async false
set_option linter.all false
set_option maxRecDepth 100000
set_option maxHeartbeats 4000000
noncomputable section
namespace Mir
open PySem PySem.Spec L2
section
variable {X : Cx} {W : WX} {e o : Expr} {pos cpos apos : Pos}
end
end Mir
end
set_option Elab.async false
set_option linter.all false
set_option maxRecDepth 100000
namespace Mir
open PySem PySem.Spec L2
noncomputable section
section
variable {X : Cx} {W : List Str} {a b : Expr} {pos : Pos}
end
end
end Mir
set_option Elab.async false
set_option linter.all false
set_option maxRecDepth 100000
set_option maxHeartbeats 4000000
noncomputable section
namespace Mir
open PySem PySem.Spec PyProof.Rows L2
abbrev Pl := Ow × (Ow → Ev)
def At (K : Kw) (F H : Hp) (σ : L2.St) (fp : List Addr) (w : V) (q : Pl) : Prop := ∃ fo, OwnAt K F H w q.1 fo ∧ fo.Nodup ∧ (∀ b ∈ fo, b ∈ fp) ∧
  ∀ F1 H1 o' fn fx, StepS F H fx F1 H1 [] → (∀ b ∈ fx, b ∈ fo) → Same F1 H1 → OwnAt K F1 H1 w o' fn → fn.Nodup → (∀ b ∈ fn, b ∈ fo ∨ b ∉ fp) → ∃ fp', Sat K F1 H1 σ (q.2 o') fp' ∧ ∀ b ∈ fp', b ∈ fp ∨ b ∈ fn
section
variable {K : Kw} {F H F1 H1 : Hp} {σ : L2.St} {env : Ev} {fp : List Addr} {w : V} {q : Pl}
theorem At.ext (h : At K F H σ fp w q) (x : Ext F H F1 H1) : At K F1 H1 σ fp w q := by
  obtain ⟨fo, a1, a2, a3, a4⟩ := h
  exact ⟨fo, a1.ext x, a2, a3, fun F2 H2 o' fn fx st hx sm ow nd sub => a4 F2 H2 o' fn fx ((StepS.of_ext x fx).trans st) hx sm ow nd sub⟩
theorem At.var (sat : Sat K F H σ env fp) {i : Nat} {o : Ow} (hi : env[i]? = some (some o)) : ∃ w, σ[i]? = some (some w) ∧ At K F H σ fp w (o, fun o' => env.set i (some o')) := by
  have hl : i < env.length := (List.getElem?_eq_some_iff.mp hi).1
  obtain ⟨fr, fo, a1, a2, a3, a3', a4, a5, a6⟩ := sat.en.put hl sat.nd
  obtain ⟨w, e1, e2⟩ := a5 _ hi
  refine ⟨w, e1, fo, e2, a3', a2, fun F1 H1 o' fn fx st hx sm ow nd sub => ?_⟩
  obtain ⟨fp', b1, b2, b3⟩ := (a6 F1 H1 fx [] st fun b hb z => a4 b (hx b z) hb).2 w o' fn ow nd fun b hb z => by
    rcases sub b hb with u | u
    · exact a4 b u z
    · exact u (a1 b z)
  rw [set_self e1] at b3
  exact ⟨fp', ⟨sm, b3, b1⟩, fun b hb => (b2 b hb).elim .inr fun z => .inl (a1 b z)⟩
/-- one place further, in a list .. -/
theorem At.lst {os : List Ow} {bk : Ow → Ev} (h : At K F H σ fp w (.l os, bk)) {j : Nat} {o : Ow} (hj : os[j]? = some o) : ∃ a vs u, w = .ref a ∧ H a = some (.lst vs) ∧ vs.length = os.length ∧ vs[j]? = some u ∧ At K F H σ fp u (o, fun o' => bk (.l (os.set j o'))) := by
  obtain ⟨fo, a1, a2, a3, a4⟩ := h
  cases a1 with
  | @l a vs _ f0 m1 m2 m3 =>
  obtain ⟨nd1, nd2⟩ := List.nodup_cons.mp a2
  obtain ⟨u, f1, fr, g1, g2, g3, g4, g5, g6, g7, g8⟩ := OwnAll.get m3 nd2 hj
  refine ⟨a, vs, u, rfl, m2, m3.len, g1, f1, g2, g3, fun b hb => a3 b (List.mem_cons_of_mem _ (g5 b hb)), fun F1 H1 o' fn fx st hx sm ow nd sub => ?_⟩
  have na : a ∉ fx := fun z => nd1 (g5 a (hx a z))
  obtain ⟨f2, k1, k2, k3⟩ := g8 F1 H1 fx [] u o' fn st (fun b hb z => g7 b (hx b z) hb) ow nd fun b hb z => by
    rcases sub b hb with q | q
    · exact g7 b q z
    · exact q (a3 b (List.mem_cons_of_mem _ (g6 b z)))
  rw [set_selfV g1] at k1
  have nn : a ∉ f2 := fun z => by
    rcases k3 a z with q | q
    · rcases sub a q with q | q
      · exact nd1 (g5 a q)
      · exact q (a3 a List.mem_cons_self)
    · exact nd1 (g6 a q)
  obtain ⟨fp', s1, s2⟩ := a4 F1 H1 (.l (os.set j o')) (a :: f2) fx st (fun b hb => List.mem_cons_of_mem _ (g5 b (hx b hb))) sm (.l (st.none_of m1 m2 na) (st.fr _ _ m2 na) k1) (List.nodup_cons.mpr ⟨nn, k2⟩) fun b hb => by
    rcases List.mem_cons.mp hb with q | q
    · subst q; exact .inl List.mem_cons_self
    · rcases k3 b q with q | q
      · exact (sub b q).imp (fun z => List.mem_cons_of_mem _ (g5 b z)) id
      · exact .inl (List.mem_cons_of_mem _ (g6 b q))
  refine ⟨fp', s1, fun b hb => ?_⟩
  rcases s2 b hb with q | q
  · exact .inl q
  · rcases List.mem_cons.mp q with q | q
    · subst q; exact .inl (a3 _ List.mem_cons_self)
    · rcases k3 b q with q | q
      · exact .inr q
      · exact .inl (a3 b (List.mem_cons_of_mem _ (g6 b q)))
/-- .. and in a tuple -/
theorem At.tup {os : List Ow} {bk : Ow → Ev} (h : At K F H σ fp w (.t os, bk)) : ∃ a vs, w = .ref a ∧ SqT K.K F a vs ∧ vs.length = os.length ∧ ∀ (j : Nat) (o : Ow), os[j]? = some o → ∃ u, vs[j]? = some u ∧ At K F H σ fp u (o, fun o' => bk (.t (os.set j o'))) := by
  obtain ⟨fo, a1, a2, a3, a4⟩ := h
  cases a1 with
  | @t a vs _ f0 m1 m3 =>
  refine ⟨a, vs, rfl, m1, m3.len, fun j o hj => ?_⟩
  obtain ⟨u, f1, fr, g1, g2, g3, g4, g5, g6, g7, g8⟩ := OwnAll.get m3 a2 hj
  refine ⟨u, g1, f1, g2, g3, fun b hb => a3 b (g5 b hb), fun F1 H1 o' fn fx st hx sm ow nd sub => ?_⟩
  obtain ⟨f2, k1, k2, k3⟩ := g8 F1 H1 fx [] u o' fn st (fun b hb z => g7 b (hx b z) hb) ow nd fun b hb z => by
    rcases sub b hb with q | q
    · exact g7 b q z
    · exact q (a3 b (g6 b z))
  rw [set_selfV g1] at k1
  obtain ⟨fp', s1, s2⟩ := a4 F1 H1 (.t (os.set j o')) f2 fx st (fun b hb => g5 b (hx b hb)) sm (.t (SqT_mono st.ff m1) k1) k2 fun b hb => by
    rcases k3 b hb with q | q
    · exact (sub b q).imp (g5 b) id
    · exact .inl (g6 b q)
  refine ⟨fp', s1, fun b hb => ?_⟩
  rcases s2 b hb with q | q
  · exact .inl q
  · rcases k3 b q with q | q
    · exact .inr q
    · exact .inl (a3 b (g6 b q))
/-- the list that stands there, changed -/
theorem At.mut {os : List Ow} {bk : Ow → Ev} (h : At K F H σ fp w (.l os, bk)) (sat : Sat K F H σ env fp) : ∃ a vs fo, w = .ref a ∧ F a = none ∧ H a = some (.lst vs) ∧ a ∈ fp ∧ OwnAll K F H vs os fo ∧ fo.Nodup ∧ a ∉ fo ∧ (∀ b ∈ fo, b ∈ fp) ∧
    ∀ F1 H1 vs' os' fo', Ext F H F1 H1 → OwnAll K F1 (upd H1 a (.lst vs')) vs' os' fo' → fo'.Nodup → (∀ b ∈ fo', b ∈ fo ∨ b ∉ fp) → ∃ fp', Sat K F1 (upd H1 a (.lst vs')) σ (bk (.l os')) fp' ∧ ∀ b ∈ fp', b ∈ fp ∨ b ∈ fo' := by
  obtain ⟨fo, a1, a2, a3, a4⟩ := h
  cases a1 with
  | @l a vs _ f0 m1 m2 m3 =>
  obtain ⟨nd1, nd2⟩ := List.nodup_cons.mp a2
  refine ⟨a, vs, f0, rfl, m1, m2, a3 a List.mem_cons_self, m3, nd2, nd1, fun b hb => a3 b (List.mem_cons_of_mem _ hb), fun F1 H1 vs' os' fo' x ow nd sub => ?_⟩
  have fa := mut_free x m1 m2
  have na : a ∉ fo' := fun z => by
    rcases sub a z with q | q
    · exact nd1 q
    · exact q (a3 a List.mem_cons_self)
  obtain ⟨fp', s1, s2⟩ := a4 F1 (upd H1 a (.lst vs')) (.l os') (a :: fo') [a] (mut_step x m2) (fun b hb => by rw [List.mem_singleton.mp hb]; exact List.mem_cons_self) (mut_same x.fh fa) (.l fa upd_same ow) (List.nodup_cons.mpr ⟨na, nd⟩) fun b hb => by
    rcases List.mem_cons.mp hb with q | q
    · subst q; exact .inl List.mem_cons_self
    · exact (sub b q).imp (List.mem_cons_of_mem _) id
  refine ⟨fp', s1, fun b hb => ?_⟩
  rcases s2 b hb with q | q
  · exact .inl q
  · rcases List.mem_cons.mp q with q | q
    · subst q; exact .inl (a3 _ List.mem_cons_self)
    · exact .inr q
theorem step_mut {F H F1 H1 : Hp} {fp fp' fo' : List Addr} {a : Addr} {vs' : List V} (x : Ext F H F1 H1) (ha : a ∈ fp) (h : ∀ b ∈ fp', b ∈ fp ∨ b ∈ fo') (h2 : ∀ b ∈ fo', b ∈ fp ∨ H b = none) : StepS F H fp F1 (upd H1 a (.lst vs')) fp' where
  ff := x.ff
  fr := fun b o e n => by
    rw [upd_ne (fun z => n (by rw [z]; exact ha))]
    exact x.hh _ _ e
  fn := fun b o e => (x.fn b o e).imp id .inr
  sub := fun b hb => by
    rcases h b hb with q | q
    · exact .inl q
    · exact h2 b q
end
def PostPl (X : Cx) (W : WX) (F H : Hp) (σ : L2.St) (fp : List Addr) : R Pl → (V → Hp → Prop) → Prop
  | .no, _ => False
  | .ok q, Q => ∀ w F' H', Ext F H F' H' → At X.KK F' H' σ fp w q → Q w H'
  | .ex c, _ => ∀ C F' H', X.mg c = some (.ref C) → Ext F H F' H' → W (.ref C) none σ H'
def DPt (X : Cx) (W : WX) (e : Expr) (f : Ev → R Pl) : Prop := ∃ t, PE X e t ∧ ∀ F H σ env fp Q, Sat X.KK F H σ env fp → PostPl X W F H σ fp (f env) Q → t σ H Q
def pVar (i : Nat) (env : Ev) : R Pl := match env[i]? with
  | some (some o) => .ok (o, fun o' => env.set i (some o'))
  | _ => .no
def ixP (q : Pl) : D → R Pl
  | .int k => match q.1 with
    | .l os => match ixN os.length k with
      | some j => match os[j]? with
        | some o => .ok (o, fun o' => q.2 (.l (os.set j o')))
        | none => .no
      | none => .no
    | .t os => match ixN os.length k with
      | some j => match os[j]? with
        | some o => .ok (o, fun o' => q.2 (.t (os.set j o')))
        | none => .no
      | none => .no
    | _ => .no
  | _ => .no
def pIx (f : Ev → R Pl) (g : Ev → R D) (env : Ev) : R Pl := (f env).bind fun q => (g env).bind fun d => ixP q d
section
variable {X : Cx} {W : WX} {S : Nat → Bool} {e a b : Expr} {pos cpos apos npos tpos : Pos} {x : Str}
theorem dpt_var (i : Nat) {x : Str} (hN : X.N[i]? = some x := by rfl) (hv : Vis X.env.scope x := by first | exact Or.inl rfl | exact Or.inr (Or.inl rfl) | exact Or.inr (Or.inr rfl)) (hd : (x == ("__debug__" : Str)) = false := by decide)
    (hcd : (x == ("__classdict__" : Str)) = false := by decide) : DPt X W (.Name x pos) (pVar i) := by
  refine ⟨_, pe_var hN hv hd hcd, fun F H σ env fp Q sat h => ?_⟩
  unfold pVar at h
  split at h
  · rename_i o he
    obtain ⟨w, h1, h2⟩ := At.var sat he
    exact ⟨w, h1, h w F H (.refl sat.fh) h2⟩
  · exact h.elim
theorem dpt_ix {f : Ev → R Pl} {g : Ev → R D} (ha : DPt X W a f) (hb : DV X W b g) (hs : PlainIx b := by exact fun _ _ => rfl) : DPt X W (.Subscript a b pos) (pIx f g) := by
  obtain ⟨ta, pa, sa⟩ := ha
  obtain ⟨tb, pb, sb⟩ := hb
  refine ⟨_, pe_ix ix_seq pa pb hs, fun F H σ env fp Q sat h => ?_⟩
  refine sa F H σ env fp _ sat ?_
  unfold pIx at h
  cases ef : f env with
  | no => rw [ef] at h; exact h.elim
  | ex c => rw [ef] at h; exact h
  | ok q =>
  rw [ef, R.bind_ok] at h
  intro w F1 H1 x1 at1
  refine sb F1 H1 σ env fp _ (sat.ext x1) ?_
  cases eg : g env with
  | no => rw [eg] at h; exact h.elim
  | ex c => rw [eg] at h; exact fun C F' H' m x => h C F' H' m (x1.trans x)
  | ok d =>
  rw [eg, R.bind_ok] at h
  intro u F2 H2 x2 qd
  have at2 := at1.ext x2
  have x := x1.trans x2
  unfold ixP at h
  cases d with
  | int k =>
    cases dp_int qd
    obtain ⟨o, bk⟩ := q
    simp only at h
    cases o with
    | l os =>
      simp only at h
      cases hj : ixN os.length k with
      | none => rw [hj] at h; exact h.elim
      | some j =>
      rw [hj] at h
      simp only at h
      cases ho : os[j]? with
      | none => rw [ho] at h; exact h.elim
      | some o =>
      rw [ho] at h
      obtain ⟨p, vs, v, rfl, p1, p2, p3, p4⟩ := at2.lst ho
      exact .inl ⟨p, vs, k, v, rfl, rfl, SqL.of p1, by unfold atI; rw [p2, hj]; exact p3, h v F2 H2 x p4⟩
    | t os =>
      simp only at h
      cases hj : ixN os.length k with
      | none => rw [hj] at h; exact h.elim
      | some j =>
      rw [hj] at h
      simp only at h
      cases ho : os[j]? with
      | none => rw [ho] at h; exact h.elim
      | some o =>
      rw [ho] at h
      obtain ⟨p, vs, rfl, p1, p2, pj⟩ := at2.tup
      obtain ⟨v, p3, p4⟩ := pj j o ho
      exact .inr (.inl ⟨p, vs, k, v, rfl, rfl, SqT_mono (sat.ext x).fh p1, by unfold atI; rw [p2, hj]; exact p3, h v F2 H2 x p4⟩)
    | _ => exact h.elim
  | _ => exact h.elim
def ownP (r : R Pl) (env : Ev) (c : List Ow → (Ow → Ev) → SR) : SR := r.st env fun q => match q.1 with
  | .l os => c os q.2
  | _ => .no
end
/-- an own thing taken out of its slot -/
theorem Sat.take {K : Kw} {F H : Hp} {σ : L2.St} {env : Ev} {fp : List Addr} (s : Sat K F H σ env fp) {i : Nat} {o : Ow} (hi : env[i]? = some (some o)) : ∃ v fo fr, σ[i]? = some (some v) ∧ OwnAt K F H v o fo ∧ fo.Nodup ∧ Sat K F H σ (env.set i none) fr ∧ (∀ b ∈ fr, b ∈ fp) ∧ (∀ b ∈ fo, b ∈ fp) ∧ (∀ b ∈ fo, b ∉ fr) := by
  have hl : i < env.length := (List.getElem?_eq_some_iff.mp hi).1
  obtain ⟨fr, fo, a1, a2, a3, a4, a5, a6, a7⟩ := s.en.put hl s.nd
  obtain ⟨v, e1, e2⟩ := a6 o hi
  have z := (a7 F H [] [] (StepS.of_ext (.refl s.fh) []) fun _ _ => by simp).1 (some v)
  rw [set_self e1] at z
  exact ⟨v, fo, fr, e1, e2, a4, ⟨s.fh, z, a3⟩, a1, a2, a5⟩
section
variable {X : Cx} {W : WX} {S : Nat → Bool} {e a b : Expr} {pos pos2 cpos apos npos tpos p1 p2 p3 p4 : Pos} {x y : Str} {sts : List Stmt} {gs : Ev → SR} {k1 : Nat}
end
end Mir
end
set_option Elab.async false
set_option linter.all false
set_option maxRecDepth 100000
set_option maxHeartbeats 4000000
noncomputable section
namespace Mir
open PySem PySem.Spec PyProof.Rows L2
section
variable {X : Cx} {W : WX} {S : Nat → Bool} {e a : Expr} {pos cpos apos : Pos}
def sPApp (p : Ev → R Pl) (f : Ev → R Ow) (env : Ev) : SR := ownP (p env) env fun os bk => (f env).st env fun r => if os.length < sizeLine then .nx (bk (.l (os ++ [r]))) else .no
theorem ds_papp {p : Ev → R Pl} {f : Ev → R Ow} (hp : DPt X W a p) (he : DE X W e f)
    (hbase : attributeBase a "append" X.env (eval a X.env) = eval a X.env := by rfl)
    (hfew : ((backTo cpos (starEach [e] X.env)).all (fun x => !x.1) && (backToKw cpos (keywordEach [] X.env)).all (fun x => x.1.isSome) && decide ([e].length + ([] : List Keyword).length + (if ([] : List Keyword).isEmpty then 0 else 1) < 30)) = true := by rfl)
    (hline : (apos.endLine == cpos.line) = true := by rfl) (hst : starEach [e] X.env = (false, eval e X.env) :: starEach [] X.env := by rfl) (hplain : (backTo cpos (starEach [] X.env)).any (·.1) = false := by rfl)
    (hsw : swapsWith (.Call (.Attribute a "append" apos) [e] [] cpos) none pos.line X.env = pure false := by rfl) : DS X W S (.Expr (.Call (.Attribute a "append" apos) [e] [] cpos) pos) (sPApp p f) := by
  obtain ⟨t, pe, s⟩ := he
  obtain ⟨t2, pp, s2⟩ := hp
  refine ⟨_, ps_expr (pe_bm PySem.F.plainAttrs_list PySem.F.slot_list_append PySem.F.type_list_append mt_append pp (pa_cons pe pa_nil hst) hbase hfew hline hst hplain) hsw, fun F H σ env fp D sat hh => ?_⟩
  refine s2 F H σ env fp _ sat ?_
  unfold sPApp ownP at hh
  cases ep : p env with
  | no => rw [ep] at hh; exact hh.elim
  | ex c => rw [ep] at hh; exact fun C F' H' m x => hh C σ F' H' fp m (.refl _ _) (StepS.of_ext x fp) (sat.ext x)
  | ok q =>
  rw [ep, R.st_ok] at hh
  obtain ⟨o, bk⟩ := q
  simp only at hh
  cases o with
  | l os =>
    simp only at hh
    intro w F1 H1 x1 at1
    have sat1 := sat.ext x1
    obtain ⟨a, vs, fo, rfl, m1, m2, m3, m4, m5, m6, m7, m8⟩ := At.mut at1 sat1
    refine ⟨.inl ⟨rfl, vs, SqL.of m2⟩, ?_⟩
    refine s F1 H1 σ env fp _ sat1 ?_
    cases ef : f env with
    | no => rw [ef] at hh; exact hh
    | ex c => rw [ef] at hh; exact fun C F' H' m x => hh C σ F' H' fp m (.refl _ _) (StepS.of_ext (x1.trans x) fp) (sat1.ext x)
    | ok r =>
    rw [ef, R.st_ok] at hh
    intro v F2 H2 x2 ⟨fx, ow, nx, fr⟩
    split at hh
    case isFalse => exact hh.elim
    rename_i cc
    have there : ∀ b ∈ fp, H1 b ≠ none := fun b hb z => by
      obtain ⟨_, u, e⟩ := sat1.en.there b hb
      rw [z] at e; cases e
    have na : a ∉ fx := fun z => there a m3 (fr a z)
    have hb := x2.hh _ _ m2
    have f2 := mut_free x2 m1 m2
    obtain ⟨fo', g1, g2, g3⟩ := OwnAll.snoc (own_mut (vs' := vs ++ [v]) x2 m2 m4 m6) (own_mut1 (vs' := vs ++ [v]) x2.fh f2 hb ow na) m5 nx fun b hb z => there b (m7 b z) (fr b hb)
    obtain ⟨fp', s1, s2⟩ := m8 F2 H2 (vs ++ [v]) (os ++ [r]) fo' x2 g1 g2 fun b hb => (g3 b hb).imp id fun z q => there b q (fr b z)
    exact ⟨a, vs, v, rfl, rfl, hb, by rw [m4.len]; omega, hh σ F2 _ fp' (.refl _ _) (step_mut (x1.trans x2) m3 s2 fun b hb => (g3 b hb).imp (m7 b) fun z => x1.hh.free (fr b z)) s1⟩
  | _ => exact hh.elim
end
def mNil (env : Ev) : R (List Ow × Ev) := .ok ([], env)
def mCons (f : Ev → R Ow) (g : Ev → R (List Ow × Ev)) (env : Ev) : R (List Ow × Ev) := (f env).bind fun o => (g env).map fun p => (o :: p.1, p.2)
section
variable {X : Cx} {W : WX} {S : Nat → Bool} {e : Expr} {es : List Expr} {pos p1 : Pos} {x : Str}
end
section
variable (env : Ev)
@[simp] theorem mNil_eq : mNil env = .ok ([], env) := rfl
@[simp] theorem mCons_eq (f : Ev → R Ow) (g : Ev → R (List Ow × Ev)) : mCons f g env = (f env).bind fun o => (g env).map fun p => (o :: p.1, p.2) := rfl
end
end Mir
end
set_option Elab.async false
set_option linter.all false
set_option maxRecDepth 100000
set_option maxHeartbeats 4000000
noncomputable section
namespace Mir
open PySem PySem.Spec PyProof.Rows L2
section
variable {X : Cx} {W : WX} {S : Nat → Bool} {e : Expr} {p p2 pos pos2 p1 p3 : Pos} {x y : Str} {k1 : Nat}
end
end Mir
end
set_option Elab.async false
set_option linter.all false
set_option maxRecDepth 100000
set_option maxHeartbeats 4000000
noncomputable section
namespace Mir
open PySem PySem.Spec PyProof.Rows L2
section
variable {X : Cx} {W : WX} {e a b : Expr} {es : List Expr} {pos p : Pos} {x : Str}
end
end Mir
end
set_option Elab.async false
set_option linter.all false
set_option maxRecDepth 100000
set_option maxHeartbeats 4000000
noncomputable section
namespace Mir
open PySem PySem.Spec PyProof.Rows L2
section
variable {K : Kw} {F H : Hp} {σ : L2.St} {fp : List Addr} {w : V}
end
section
variable {X : Cx} {W : WX} {a b c : Expr} {apos cpos : Pos}
end
end Mir
end
set_option Elab.async false
set_option linter.all false
set_option maxRecDepth 100000
set_option maxHeartbeats 4000000
noncomputable section
namespace Mir
open PySem PySem.Spec PyProof.Rows L2
section
variable {T : Type} [DecidableEq T]
end
section
variable {prog : Program} {w : World} {A : Around} {R : Result → Shared → Prop} {I : Addr} {fp wr : List Addr} {G : Array GenState → Array GenState → Prop} {P : Nat → Value → Prop} {St : Nat → Shared → Prop}
variable {T : Type} [DecidableEq T] {kd : KeyKind prog w T}
def SetHas (kd : KeyKind prog w T) (h : Heap) (S : Addr) (us : List T) : Prop := h.SetOf kd S (fun k => us.any (· == k)) us.length
theorem SetHas.eqv {h : Heap} {S : Addr} {us vs : List T} {f : T → Bool} {n : Nat} (g : h.SetOf kd S f n) (e : ∀ k, f k = vs.any (· == k)) (en : n = vs.length) : SetHas kd h S vs := by
  have e' : f = fun k => vs.any (· == k) := funext e
  subst e' en
  exact g
end
section
variable {prog : Program} {w : World} {A : Around} {E : Value → Shared → Prop} {s : Shared} {T : Type} [DecidableEq T]
end
end Mir
end
set_option Elab.async false
set_option linter.all false
set_option maxRecDepth 100000
set_option maxHeartbeats 4000000
noncomputable section
namespace Mir
open PySem PySem.Spec PyProof.Rows L2
section
variable {X : Cx} {W : WX}
end
end Mir
end
set_option Elab.async false
set_option linter.all false
set_option maxRecDepth 100000
set_option maxHeartbeats 4000000
noncomputable section
namespace Mir
open PySem PySem.Spec PySem.Calls PyProof.Rows L2
def itmD (ps : List (D × D)) : List D := ps.map fun p => .tuple [p.1, p.2]
def keysOk (ps : List (D × D)) : Bool := ps.all fun p => isKey p.1
section
variable {X : Cx} {W : WX} {e : Expr} {te : TE} {p apos cpos pos : Pos}
def gSortIt : D → Option Ow
  | .dict ps => if (keysOk ps && sortOk (itmD ps)) = true then some (.l ((sortedD (itmD ps)).map Ow.d)) else none
  | _ => none
end
@[simp] theorem gSortIt_dict (ps : List (D × D)) : gSortIt (.dict ps) = if (keysOk ps && sortOk (itmD ps)) = true then some (.l ((sortedD (itmD ps)).map Ow.d)) else none := rfl
end Mir
end
set_option Elab.async false
set_option linter.all false
set_option maxRecDepth 100000
set_option maxHeartbeats 4000000
noncomputable section
namespace Mir
open PySem PySem.Spec PyProof.Rows L2
section
variable {X : Cx} {W : WX} {e a b : Expr} {es : List Expr} {pos p : Pos}
end
end Mir
end
set_option Elab.async false
set_option linter.all false
set_option maxRecDepth 100000
set_option maxHeartbeats 4000000
noncomputable section
namespace Mir
open PySem PySem.Spec PyProof.Rows L2
/-- v the whole, u what stands at a place of it, s as told; put: the whole with another thing there; fr: the rest of the whole -/
structure Hole (K : Kw) (F H : Hp) (v u : V) (s : Ow) (put : Ow → Ow) (fo fr : List Addr) : Prop where
  own : OwnAt K F H u s fo
  ndo : fo.Nodup
  ndr : fr.Nodup
  dis : ∀ b ∈ fo, b ∉ fr
  thr : ∀ b ∈ fr, ∃ o, H b = some o
  back : ∀ F1 H1 fx fy s' fn, StepS F H fx F1 H1 fy → (∀ b ∈ fr, b ∉ fx) → OwnAt K F1 H1 u s' fn → fn.Nodup → (∀ b ∈ fn, b ∉ fr) → ∃ fp', OwnAt K F1 H1 v (put s') fp' ∧ fp'.Nodup ∧ ∀ b ∈ fp', b ∈ fn ∨ b ∈ fr
section
variable {K : Kw} {F H F1 H1 : Hp} {v u : V} {s s1 : Ow} {put : Ow → Ow} {fo fr fp fn fx fy : List Addr} {σ : L2.St} {env : Ev}
theorem Hole.here {o : Ow} (h : OwnAt K F H v o fp) (nd : fp.Nodup) : Hole K F H v v o id fp [] :=
  ⟨h, nd, List.nodup_nil, (fun _ _ z => nomatch z), (fun _ z => nomatch z), fun F1 H1 fx fy s' fn _ _ ow n _ => ⟨fn, ow, n, fun b hb => .inl hb⟩⟩
theorem Hole.move (h : Hole K F H v u s put fo fr) (st : StepS F H fx F1 H1 fy) (dj : ∀ b ∈ fr, b ∉ fx) (ow : OwnAt K F1 H1 u s1 fn) (nd : fn.Nodup) (dn : ∀ b ∈ fn, b ∉ fr) : Hole K F1 H1 v u s1 put fn fr where
  own := ow
  ndo := nd
  ndr := h.ndr
  dis := dn
  thr := fun b hb => by
    obtain ⟨o, e⟩ := h.thr b hb
    exact ⟨o, st.fr b o e (dj b hb)⟩
  back := fun F2 H2 gx gy s' fm st2 dj2 ow2 nd2 dn2 => by
    refine h.back F2 H2 (fx ++ gx) [] s' fm ⟨st.ff.trans st2.ff, fun b o e n => st2.fr b o (st.fr b o e fun z => n (List.mem_append_left _ z)) fun z => n (List.mem_append_right _ z), fun b o e => ?_, fun b z => nomatch z⟩ (fun b hb z => ?_) ow2 nd2 dn2
    · rcases st2.fn b o e with q | q | q
      · exact (st.fn b o q).imp id (.imp (List.mem_append_left _) id)
      · exact .inr (.inl (List.mem_append_right _ q))
      · by_cases hx : b ∈ fx
        · exact .inr (.inl (List.mem_append_left _ hx))
        · cases hb : H b with
          | none => exact .inr (.inr rfl)
          | some o2 => rw [st.fr b o2 hb hx] at q; cases q
    · rcases List.mem_append.mp z with z | z
      · exact dj b hb z
      · exact dj2 b hb z
theorem Hole.ext (h : Hole K F H v u s put fo fr) (x : Ext F H F1 H1) : Hole K F1 H1 v u s put fo fr :=
  h.move (StepS.of_ext x []) (fun _ _ z => (nomatch z)) (h.own.ext x) h.ndo h.dis
/-- one place further, in a list .. -/
theorem Hole.lst {os : List Ow} (h : Hole K F H v u (.l os) put fo fr) {j : Nat} {o : Ow} (hj : os[j]? = some o) : ∃ a vs w f1 f2, u = .ref a ∧ H a = some (.lst vs) ∧ vs.length = os.length ∧ vs[j]? = some w ∧ Hole K F H v w o (fun o' => put (.l (os.set j o'))) f1 f2 ∧
    (∀ b ∈ f1, b ∈ fo) ∧ (∀ b ∈ f2, b ∈ fo ∨ b ∈ fr) ∧ a ∈ f2 := by
  obtain ⟨h1, h2, h3, h4, h5, h6⟩ := h
  cases h1 with
  | @l a vs _ f0 m1 m2 m3 =>
  obtain ⟨nd1, nd2⟩ := List.nodup_cons.mp h2
  obtain ⟨w, f1, f2, g1, g2, g3, g4, g5, g6, g7, g8⟩ := OwnAll.get m3 nd2 hj
  have hm : ∀ b ∈ f1, b ∈ a :: f0 := fun b hb => List.mem_cons_of_mem _ (g5 b hb)
  have a2 : a ∉ f2 := fun z => nd1 (g6 a z)
  have d2 : ∀ b ∈ f2, b ∉ fr := fun b hb => h4 b (List.mem_cons_of_mem _ (g6 b hb))
  refine ⟨a, vs, w, f1, a :: (f2 ++ fr), rfl, m2, m3.len, g1, ⟨g2, g3, ?_, fun b hb z => ?_, fun b hb => ?_, fun F1 H1 fx fy s' fn st dj ow nd dn => ?_⟩, hm, fun b hb => ?_, List.mem_cons_self⟩
  · refine List.nodup_cons.mpr ⟨fun z => ?_, List.nodup_append.mpr ⟨g4, h3, fun b hb c hc e => d2 b hb (e ▸ hc)⟩⟩
    rcases List.mem_append.mp z with z | z
    · exact a2 z
    · exact h4 a List.mem_cons_self z
  · rcases List.mem_cons.mp z with z | z
    · exact nd1 (z ▸ g5 b hb)
    · rcases List.mem_append.mp z with z | z
      · exact g7 b hb z
      · exact h4 b (hm b hb) z
  · rcases List.mem_cons.mp hb with z | z
    · exact ⟨_, z ▸ m2⟩
    · rcases List.mem_append.mp z with z | z
      · exact (OwnAll.there _ _ _ m3 b (g6 b z)).2
      · exact h5 b z
  · obtain ⟨f3, k1, k2, k3⟩ := g8 F1 H1 fx fy w s' fn st (fun b hb => dj b (List.mem_cons_of_mem _ (List.mem_append_left _ hb))) ow nd fun b hb z => dn b hb (List.mem_cons_of_mem _ (List.mem_append_left _ z))
    rw [set_selfV g1] at k1
    have na : a ∉ fx := dj a List.mem_cons_self
    have a3 : a ∉ f3 := fun z => by
      rcases k3 a z with q | q
      · exact dn a q List.mem_cons_self
      · exact a2 q
    obtain ⟨fp', s1, s2, s3⟩ := h6 F1 H1 fx fy (.l (os.set j s')) (a :: f3) st (fun b hb => dj b (List.mem_cons_of_mem _ (List.mem_append_right _ hb))) (.l (st.none_of m1 m2 na) (st.fr _ _ m2 na) k1) (List.nodup_cons.mpr ⟨a3, k2⟩) fun b hb z => by
      rcases List.mem_cons.mp hb with q | q
      · exact h4 a List.mem_cons_self (q ▸ z)
      · rcases k3 b q with q | q
        · exact dn b q (List.mem_cons_of_mem _ (List.mem_append_right _ z))
        · exact d2 b q z
    refine ⟨fp', s1, s2, fun b hb => ?_⟩
    rcases s3 b hb with q | q
    · rcases List.mem_cons.mp q with q | q
      · exact .inr (q ▸ List.mem_cons_self)
      · rcases k3 b q with q | q
        · exact .inl q
        · exact .inr (List.mem_cons_of_mem _ (List.mem_append_left _ q))
    · exact .inr (List.mem_cons_of_mem _ (List.mem_append_right _ q))
  · rcases List.mem_cons.mp hb with z | z
    · exact .inl (z ▸ List.mem_cons_self)
    · rcases List.mem_append.mp z with z | z
      · exact .inl (List.mem_cons_of_mem _ (g6 b z))
      · exact .inr z
/-- .. or in a tuple -/
theorem Hole.tup {os : List Ow} (h : Hole K F H v u (.t os) put fo fr) : ∃ a vs, u = .ref a ∧ SqT K.K F a vs ∧ vs.length = os.length ∧ ∀ (j : Nat) (o : Ow), os[j]? = some o → ∃ w f1 f2, vs[j]? = some w ∧ Hole K F H v w o (fun o' => put (.t (os.set j o'))) f1 f2 ∧
    (∀ b ∈ f1, b ∈ fo) ∧ ∀ b ∈ f2, b ∈ fo ∨ b ∈ fr := by
  obtain ⟨h1, h2, h3, h4, h5, h6⟩ := h
  cases h1 with
  | @t a vs _ f0 m1 m3 =>
  refine ⟨a, vs, rfl, m1, m3.len, fun j o hj => ?_⟩
  obtain ⟨w, f1, f2, g1, g2, g3, g4, g5, g6, g7, g8⟩ := OwnAll.get m3 h2 hj
  have d2 : ∀ b ∈ f2, b ∉ fr := fun b hb => h4 b (g6 b hb)
  refine ⟨w, f1, f2 ++ fr, g1, ⟨g2, g3, List.nodup_append.mpr ⟨g4, h3, fun b hb c hc e => d2 b hb (e ▸ hc)⟩, fun b hb z => ?_, fun b hb => ?_, fun F1 H1 fx fy s' fn st dj ow nd dn => ?_⟩, g5, fun b hb => ?_⟩
  · rcases List.mem_append.mp z with z | z
    · exact g7 b hb z
    · exact h4 b (g5 b hb) z
  · rcases List.mem_append.mp hb with z | z
    · exact (OwnAll.there _ _ _ m3 b (g6 b z)).2
    · exact h5 b z
  · obtain ⟨f3, k1, k2, k3⟩ := g8 F1 H1 fx fy w s' fn st (fun b hb => dj b (List.mem_append_left _ hb)) ow nd fun b hb z => dn b hb (List.mem_append_left _ z)
    rw [set_selfV g1] at k1
    obtain ⟨fp', s1, s2, s3⟩ := h6 F1 H1 fx fy (.t (os.set j s')) f3 st (fun b hb => dj b (List.mem_append_right _ hb)) (.t (SqT_mono st.ff m1) k1) k2 fun b hb z => by
      rcases k3 b hb with q | q
      · exact dn b q (List.mem_append_right _ z)
      · exact d2 b q z
    refine ⟨fp', s1, s2, fun b hb => ?_⟩
    rcases s3 b hb with q | q
    · rcases k3 b q with q | q
      · exact .inl q
      · exact .inr (List.mem_append_left _ q)
    · exact .inr (List.mem_append_right _ q)
  · rcases List.mem_append.mp hb with z | z
    · exact .inl (g6 b z)
    · exact .inr z
end
abbrev Hl := Ow × (Ow → Ow)
section
variable {X : Cx} {W : WX} {S : Nat → Bool} {r : Nat} {e a b : Expr} {pos cpos apos npos tpos : Pos} {x : Str}
end
end Mir
end
set_option Elab.async false
set_option linter.all false
set_option maxRecDepth 100000
set_option maxHeartbeats 4000000
noncomputable section
namespace Mir
open PySem PySem.Spec PyProof.Rows L2
section
variable {K : Kw} {F H F1 H1 F' H' : Hp} {v u : V} {s s1 : Ow} {put : Ow → Ow} {fo fr fp fp1 fp' fp'' fx fy : List Addr} {σ : L2.St} {env e : Ev}
theorem step_comp (x : Ext F H F1 H1) (h1 : ∀ b ∈ fp1, b ∈ fp) (st : StepS F1 H1 fp1 F' H' fp') (h2 : ∀ b ∈ fp'', b ∈ fp' ∨ b ∈ fp) : StepS F H fp F' H' fp'' where
  ff := x.ff.trans st.ff
  fr := fun b o q n => st.fr b o (x.hh _ _ q) fun z => n (h1 b z)
  fn := fun b o q => by
    rcases st.fn b o q with z | z | z
    · exact (x.fn b o z).imp id .inr
    · exact .inr (.inl (h1 b z))
    · exact .inr (.inr (x.hh.free z))
  sub := fun b hb => by
    rcases h2 b hb with z | z
    · exact (st.sub b z).imp (h1 b) x.hh.free
    · exact .inl z
theorem put_back {r x : Nat} {s' : Ow} (sat : Sat K F' H' σ e fp') (hx : e[x]? = some (some s')) (ux : σ[x]? = some (some u)) (vr : σ[r]? = some (some v)) (hr : r < e.length) (ho : Hole K F1 H1 v u s put fo fr) (st : StepS F1 H1 fp1 F' H' fp') (d1 : ∀ b ∈ fr, b ∉ fp1) :
    ∃ fp'', Sat K F' H' σ ((e.set x none).set r (some (put s'))) fp'' ∧ (∀ b ∈ fp'', b ∈ fp' ∨ b ∈ fr) ∧ ∀ b ∈ fr, b ∉ fp' := by
  have d2 : ∀ b ∈ fr, b ∉ fp' := fun b hb z => by
    rcases st.sub b z with q | q
    · exact d1 b hb q
    · obtain ⟨o, eo⟩ := ho.thr b hb
      rw [q] at eo; cases eo
  obtain ⟨u', fn, fre, e1, e2, e3, e4, e5, e6, e7⟩ := sat.take hx
  rw [ux] at e1
  cases e1
  obtain ⟨f2, k1, k2, k3⟩ := ho.back F' H' fp1 fp' s' fn st d1 e2 e3 fun b hb z => d2 b z (e6 b hb)
  have hr' : r < (e.set x none).length := by rw [List.length_set]; exact hr
  obtain ⟨fp4, sat4, sub4⟩ := e4.put hr' k1 k2 fun b hb z => by
    rcases k3 b hb with q | q
    · exact e7 b q z
    · exact d2 b q (e5 b z)
  rw [set_self vr] at sat4
  refine ⟨fp4, sat4, fun b hb => ?_, d2⟩
  rcases sub4 b hb with q | q
  · exact (k3 b q).imp (e6 b) id
  · exact .inl (e5 b q)
end
def offB (S : Nat → Bool) (r x : Nat) (j : Nat) : Bool := S j && (j != r && j != x)
def fixB1 (r x : Nat) (put : Ow → Ow) (e : Ev) (k : Ev → SR) : SR := match e[x]? with
  | some (some s') => if r < e.length then k ((e.set x none).set r (some (put s'))) else .no
  | _ => .no
def fixB (r x : Nat) (put : Ow → Ow) : SR → SR
  | .no => .no
  | .nx e => fixB1 r x put e .nx
  | .bk e => fixB1 r x put e .bk
  | .ct e => fixB1 r x put e .ct
  | .rt q e => fixB1 r x put e (.rt q)
  | .ex c e => fixB1 r x put e (.ex c)
section
variable {X : Cx} {W : WX} {S : Nat → Bool} {r x : Nat}
theorem fixB1_some {put : Ow → Ow} {e : Ev} {k : Ev → SR} {P : SR → Prop} (hn : ¬ P .no) (h : P (fixB1 r x put e k)) : ∃ s', e[x]? = some (some s') ∧ r < e.length ∧ P (k ((e.set x none).set r (some (put s')))) := by
  unfold fixB1 at h
  split at h
  · rename_i s' hs
    split at h
    · exact ⟨s', hs, ‹_›, h⟩
    · exact absurd h hn
  · exact absurd h hn
theorem offB_sub {σ σ' : L2.St} (h : OffS (offB S r x) σ σ') : OffS S σ σ' := fun j hj => h j (by simp [offB, hj])
theorem fixB_post {σ σ1 : L2.St} {F H F1 H1 : Hp} {fp fp1 fo fr : List Addr} {v u : V} {s : Ow} {put : Ow → Ow} {D : Ends} {R0 : SR} (h : PostS X W S σ F H fp D (fixB r x put R0)) (x1 : Ext F H F1 H1) (sub : ∀ b ∈ fp1, b ∈ fp) (off : OffS S σ σ1)
    (ho : Hole X.KK F1 H1 v u s put fo fr) (d1 : ∀ b ∈ fr, b ∉ fp1) (frp : ∀ b ∈ fr, b ∈ fp) (vr : σ1[r]? = some (some v)) (ux : σ1[x]? = some (some u)) : PostS X W (offB S r x) σ1 F1 H1 fp1 D R0 := by
  have key : ∀ {σ' : L2.St} {F' H' : Hp} {fp' : List Addr} {e : Ev} {s' : Ow}, OffS (offB S r x) σ1 σ' → StepS F1 H1 fp1 F' H' fp' → Sat X.KK F' H' σ' e fp' → e[x]? = some (some s') → r < e.length →
      ∃ fp'', Sat X.KK F' H' σ' ((e.set x none).set r (some (put s'))) fp'' ∧ OffS S σ σ' ∧ StepS F H fp F' H' fp'' ∧ (∀ b ∈ fp'', b ∈ fp' ∨ b ∈ fr) := fun o st sat hx hr => by
    have ux' : _ := (o x (by simp [offB])).trans ux
    have vr' : _ := (o r (by simp [offB])).trans vr
    obtain ⟨fp'', k1, k2, k3⟩ := put_back sat hx ux' vr' hr ho st d1
    exact ⟨fp'', k1, off.trans (offB_sub o), step_comp x1 sub st fun b hb => (k2 b hb).imp id (frp b), k2⟩
  cases R0 with
  | no => exact h
  | nx e =>
    obtain ⟨s', hx, hr, h'⟩ := fixB1_some (P := fun q => PostS X W S σ F H fp D q) (fun z => z) h
    intro σ' F' H' fp' o st sat
    obtain ⟨fp'', k1, k2, k3, _⟩ := key o st sat hx hr
    exact h' σ' F' H' fp'' k2 k3 k1
  | bk e =>
    obtain ⟨s', hx, hr, h'⟩ := fixB1_some (P := fun q => PostS X W S σ F H fp D q) (fun z => z) h
    intro σ' F' H' fp' o st sat
    obtain ⟨fp'', k1, k2, k3, _⟩ := key o st sat hx hr
    exact h' σ' F' H' fp'' k2 k3 k1
  | ct e =>
    obtain ⟨s', hx, hr, h'⟩ := fixB1_some (P := fun q => PostS X W S σ F H fp D q) (fun z => z) h
    intro σ' F' H' fp' o st sat
    obtain ⟨fp'', k1, k2, k3, _⟩ := key o st sat hx hr
    exact h' σ' F' H' fp'' k2 k3 k1
  | ex c e =>
    obtain ⟨s', hx, hr, h'⟩ := fixB1_some (P := fun q => PostS X W S σ F H fp D q) (fun z => z) h
    intro C σ' F' H' fp' m o st sat
    obtain ⟨fp'', k1, k2, k3, _⟩ := key o st sat hx hr
    exact h' C σ' F' H' fp'' m k2 k3 k1
  | rt q e =>
    obtain ⟨s', hx, hr, h'⟩ := fixB1_some (P := fun q => PostS X W S σ F H fp D q) (fun z => z) h
    intro v' σ' F' H' fx fp' o st sat ow nd
    obtain ⟨n1, n2, n3⟩ := List.nodup_append.mp nd
    have st2 : StepS F1 H1 fp1 F' H' fp' := st.subset fun b hb => List.mem_append_right _ hb
    obtain ⟨fp'', k1, k2, k3, k4⟩ := key o st2 sat hx hr
    have dx : ∀ b ∈ fx, b ∉ fr := fun b hb z => by
      rcases st.sub b (List.mem_append_left _ hb) with q | q
      · exact d1 b z q
      · obtain ⟨w, e⟩ := ho.thr b z
        rw [q] at e; cases e
    refine h' v' σ' F' H' fx fp'' k2 (step_comp x1 sub st fun b hb => ?_) k1 ow ?_
    · rcases List.mem_append.mp hb with z | z
      · exact .inl (List.mem_append_left _ z)
      · exact (k4 b z).imp (List.mem_append_right _) (frp b)
    · rw [List.nodup_append]
      refine ⟨n1, k1.nd, fun b hb c hc e => ?_⟩
      subst e
      rcases k4 b hc with z | z
      · exact n3 b hb b z rfl
      · exact dx b hb z
end
section
variable {X : Cx} {W : WX} {S : Nat → Bool} {e a b : Expr} {pos cpos apos npos tpos : Pos} {y : Str} {rest : List Stmt}
end
end Mir
end
set_option Elab.async false
set_option linter.all false
set_option maxRecDepth 100000
set_option maxHeartbeats 4000000
noncomputable section
namespace Mir
open PySem PySem.Spec PyProof.Rows L2
def finB (r : Nat) (put : Ow → Ow) (os : List Ow) (e : Ev) : Ev := e.set r (some (put (.l os)))
section
variable {X : Cx} {W : WX} {S : Nat → Bool} {r x : Nat}
/-- the loop's state ahead of turn k -/
structure LoopB (X : Cx) (W : WX) (S : Nat → Bool) (r : Nat) (v u : V) (put : Ow → Ow) (D : Ends) (go : List Ow → Ev → SR) (σ : L2.St) (F H : Hp) (env : Ev) (fp : List Addr) (os : List Ow) (fo fr : List Addr) : Prop where
  sat : Sat X.KK F H σ env fp
  len : r < env.length
  vr : σ[r]? = some (some v)
  ho : Hole X.KK F H v u (.l os) put fo fr
  dj : ∀ b ∈ fo ++ fr, b ∉ fp
  po : PostS X W S σ F H (fp ++ (fo ++ fr)) D (go os env)
theorem LoopB.fin {v u : V} {put : Ow → Ow} {σ : L2.St} {F H : Hp} {env : Ev} {fp : List Addr} {os : List Ow} {fo fr : List Addr} (sat : Sat X.KK F H σ env fp) (len : r < env.length) (vr : σ[r]? = some (some v)) (ho : Hole X.KK F H v u (.l os) put fo fr) (dj : ∀ b ∈ fo ++ fr, b ∉ fp) :
    ∃ fp4, Sat X.KK F H σ (finB r put os env) fp4 ∧ ∀ b ∈ fp4, b ∈ fp ∨ b ∈ fo ++ fr := by
  obtain ⟨f2, k1, k2, k3⟩ := ho.back F H [] [] _ fo (StepS.of_ext (.refl sat.fh) []) (fun _ _ z => nomatch z) ho.own ho.ndo ho.dis
  have in2 : ∀ b ∈ f2, b ∈ fo ++ fr := fun b hb => List.mem_append.mpr (k3 b hb)
  obtain ⟨fp4, sat4, sub4⟩ := sat.put len k1 k2 fun b hb => dj b (in2 b hb)
  rw [set_self vr] at sat4
  exact ⟨fp4, sat4, fun b hb => (sub4 b hb).elim (fun z => .inr (in2 b z)) .inl⟩
theorem LoopB.done {v u : V} {put : Ow → Ow} {D : Ends} {σ : L2.St} {F H : Hp} {env : Ev} {fp : List Addr} {os : List Ow} {fo fr : List Addr} (L : LoopB X W S r v u put D (fun os e => .nx (finB r put os e)) σ F H env fp os fo fr) : D.nx σ H := by
  obtain ⟨sat, len, vr, ho, dj, po⟩ := L
  obtain ⟨fp4, k1, k2⟩ := LoopB.fin sat len vr ho dj
  exact po σ F H fp4 (.refl _ _) ((StepS.of_ext (.refl sat.fh) _).subset fun b hb => List.mem_append.mpr (k2 b hb)) k1
variable {e a b : Expr} {pos cpos apos npos tpos : Pos} {y : Str} {fs : Ev → SR}
end
end Mir
end
set_option Elab.async false
set_option linter.all false
set_option maxRecDepth 100000
set_option maxHeartbeats 4000000
noncomputable section
namespace Mir
open PySem PySem.Spec PySem.Calls PyProof.Rows L2
section
variable {X : Cx} {W : WX} {e : Expr} {p pos : Pos}
def gSortKD : D → Option Ow
  | .dict ps => if (keysOk ps && sortOk (ps.map (·.1))) = true then some (.l ((sortedD (ps.map (·.1))).map Ow.d)) else none
  | _ => none
end
@[simp] theorem gSortKD_dict (ps : List (D × D)) : gSortKD (.dict ps) = if (keysOk ps && sortOk (ps.map (·.1))) = true then some (.l ((sortedD (ps.map (·.1))).map Ow.d)) else none := rfl
end Mir
end
set_option Elab.async false
set_option linter.all false
set_option maxRecDepth 100000
set_option maxHeartbeats 4000000
noncomputable section
namespace Mir
open PySem PySem.Spec L2
section
variable {K : Kw} {F0 : Hp} {a b c : Addr} {vs ws us : List V} {ds es fs : List D}
end
section
variable {X : Cx} {W : WX} {tg e e2 e3 : Expr} {pos p : Pos} {fa : Ev → R (List D)}
end
end Mir
end
set_option Elab.async false
set_option linter.all false
set_option maxRecDepth 100000
set_option maxHeartbeats 4000000
noncomputable section
namespace Mir
open PySem PySem.Spec L2
section
variable {X : Cx} {W : WX} {e a b : Expr} {es : List Expr} {pos p : Pos} {x : Str}
def yNilA (env : Ev) : RY (List D) := .ok [] env
def yConsA (f : Ev → RY D) (g : Ev → RY (List D)) (env : Ev) : RY (List D) := (f env).bind fun d env1 => (g env1).bind fun ds env2 => .ok (d :: ds) env2
def guardY (c : Prop) [Decidable c] {α : Type} (r : RY α) : RY α := if c then r else .no
def yTup (f : Ev → RY (List D)) (env : Ev) : RY D := (f env).bind fun ds env1 => guardY (ds.length ≤ sizeLine) (.ok (.tuple ds) env1)
@[simp] theorem yNilA_eq (env : Ev) : yNilA env = .ok [] env := rfl
@[simp] theorem yConsA_eq (f : Ev → RY D) (g : Ev → RY (List D)) (env : Ev) : yConsA f g env = (f env).bind fun d env1 => (g env1).bind fun ds env2 => .ok (d :: ds) env2 := rfl
@[simp] theorem yTup_eq (f : Ev → RY (List D)) (env : Ev) : yTup f env = (f env).bind fun ds env1 => guardY (ds.length ≤ sizeLine) (.ok (.tuple ds) env1) := rfl
end
end Mir
end
set_option Elab.async false
set_option linter.all false
set_option maxRecDepth 100000
set_option maxHeartbeats 4000000
noncomputable section
namespace Mir
open PySem PySem.Spec L2
end Mir
end
set_option Elab.async false
set_option linter.all false
set_option maxRecDepth 100000
set_option maxHeartbeats 4000000
noncomputable section
namespace Mir
open PySem PySem.Spec L2
def subS (x z : Str) : Bool := !(PySem.Builtin.Str.occurrences z x 0 z.length 1).isEmpty
def gSubB (neg : Bool) : D → D → Option D
  | .str x, .str z => some (.bool (xor neg (subS x z)))
  | _, _ => none
def gSubIn := gSubB false
def gSubNotIn := gSubB true
@[simp] theorem gSubIn_str (x z : Str) : gSubIn (.str x) (.str z) = some (.bool (subS x z)) := by
  show some (PyData.bool (xor false (subS x z))) = _
  simp
@[simp] theorem gSubNotIn_str (x z : Str) : gSubNotIn (.str x) (.str z) = some (.bool (!subS x z)) := by
  show some (PyData.bool (xor true (subS x z))) = _
  simp
section
variable {X : Cx} {W : WX} {a b : Expr} {pos : Pos} {f g : Ev → R D}
end
end Mir
end
set_option Elab.async false
set_option linter.all false
set_option maxRecDepth 100000
set_option maxHeartbeats 4000000
noncomputable section
namespace Mir
open PySem PySem.Spec PyProof.Rows L2
section
variable {K : Kw} {F H F1 H1 : Hp} {v u : V} {s s1 : Ow} {put : Ow → Ow} {fo fr fp fn fx fy : List Addr} {σ : L2.St} {env : Ev}
theorem Hole.dct {ks : List D} {os : List Ow} (h : Hole K F H v u (.k ks os) put fo fr) : ∃ (a : Addr) (kvs : List (Key × V)), u = .ref a ∧ H a = some (.dK kvs) ∧ (kvs.map fun p => keyD p.1) = ks ∧ kvs.length = os.length ∧ ∀ (j : Nat) (o : Ow), os[j]? = some o → ∃ w f1 f2, (kvs[j]?).map (·.2) = some w ∧ Hole K F H v w o (fun o' => put (.k ks (os.set j o'))) f1 f2 ∧
    (∀ b ∈ f1, b ∈ fo) ∧ (∀ b ∈ f2, b ∈ fo ∨ b ∈ fr) ∧ a ∈ f2 := by
  obtain ⟨h1, h2, h3, h4, h5, h6⟩ := h
  cases h1 with
  | @k a kvs _ f0 m1 m2 m3 =>
  refine ⟨a, kvs, rfl, m2, rfl, by have := m3.len; simpa using this, fun j o hj => ?_⟩
  obtain ⟨nd1, nd2⟩ := List.nodup_cons.mp h2
  obtain ⟨w, f1, f2, g1, g2, g3, g4, g5, g6, g7, g8⟩ := OwnAll.get m3 nd2 hj
  have hm : ∀ b ∈ f1, b ∈ a :: f0 := fun b hb => List.mem_cons_of_mem _ (g5 b hb)
  have a2 : a ∉ f2 := fun z => nd1 (g6 a z)
  have d2 : ∀ b ∈ f2, b ∉ fr := fun b hb => h4 b (List.mem_cons_of_mem _ (g6 b hb))
  refine ⟨w, f1, a :: (f2 ++ fr), by rw [← g1, List.getElem?_map], ⟨g2, g3, ?_, fun b hb z => ?_, fun b hb => ?_, fun F1 H1 fx fy s' fn st dj ow nd dn => ?_⟩, hm, fun b hb => ?_, List.mem_cons_self⟩
  · refine List.nodup_cons.mpr ⟨fun z => ?_, List.nodup_append.mpr ⟨g4, h3, fun b hb c hc e => d2 b hb (e ▸ hc)⟩⟩
    rcases List.mem_append.mp z with z | z
    · exact a2 z
    · exact h4 a List.mem_cons_self z
  · rcases List.mem_cons.mp z with z | z
    · exact nd1 (z ▸ g5 b hb)
    · rcases List.mem_append.mp z with z | z
      · exact g7 b hb z
      · exact h4 b (hm b hb) z
  · rcases List.mem_cons.mp hb with z | z
    · exact ⟨_, z ▸ m2⟩
    · rcases List.mem_append.mp z with z | z
      · exact (OwnAll.there _ _ _ m3 b (g6 b z)).2
      · exact h5 b z
  · obtain ⟨f3, k1, k2, k3⟩ := g8 F1 H1 fx fy w s' fn st (fun b hb => dj b (List.mem_cons_of_mem _ (List.mem_append_left _ hb))) ow nd fun b hb z => dn b hb (List.mem_cons_of_mem _ (List.mem_append_left _ z))
    rw [set_selfV g1] at k1
    have na : a ∉ fx := dj a List.mem_cons_self
    have a3 : a ∉ f3 := fun z => by
      rcases k3 a z with q | q
      · exact dn a q List.mem_cons_self
      · exact a2 q
    obtain ⟨fp', s1, s2, s3⟩ := h6 F1 H1 fx fy (.k (kvs.map fun p => keyD p.1) (os.set j s')) (a :: f3) st (fun b hb => dj b (List.mem_cons_of_mem _ (List.mem_append_right _ hb))) (.k (st.none_of m1 m2 na) (st.fr _ _ m2 na) k1) (List.nodup_cons.mpr ⟨a3, k2⟩) fun b hb z => by
      rcases List.mem_cons.mp hb with q | q
      · exact h4 a List.mem_cons_self (q ▸ z)
      · rcases k3 b q with q | q
        · exact dn b q (List.mem_cons_of_mem _ (List.mem_append_right _ z))
        · exact d2 b q z
    refine ⟨fp', s1, s2, fun b hb => ?_⟩
    rcases s3 b hb with q | q
    · rcases List.mem_cons.mp q with q | q
      · exact .inr (q ▸ List.mem_cons_self)
      · rcases k3 b q with q | q
        · exact .inl q
        · exact .inr (List.mem_cons_of_mem _ (List.mem_append_left _ q))
    · exact .inr (List.mem_cons_of_mem _ (List.mem_append_right _ q))
  · rcases List.mem_cons.mp hb with z | z
    · exact .inl (z ▸ List.mem_cons_self)
    · rcases List.mem_append.mp z with z | z
      · exact .inl (List.mem_cons_of_mem _ (g6 b z))
      · exact .inr z
end
/-- the first place of a key -/
def findK (k : D) : List D → Option Nat
  | [] => none
  | x :: xs => if keyEq x k = true then some 0 else (findK k xs).map (· + 1)
theorem findK_val (q : Key) : ∀ kvs : List (Key × V), (findK (keyD q) (kvs.map fun p => keyD p.1) = none ∧ valV kvs q = none) ∨ ∃ j w, findK (keyD q) (kvs.map fun p => keyD p.1) = some j ∧ (kvs[j]?).map (·.2) = some w ∧ valV kvs q = some w
  | [] => .inl ⟨rfl, rfl⟩
  | (p, w) :: kvs => by
    have ke := keyEq_iff p q
    rw [List.map_cons, findK]
    by_cases c : p = q
    · subst c
      rw [decide_eq_true rfl] at ke
      refine .inr ⟨0, w, by rw [if_pos ke], rfl, ?_⟩
      unfold valV
      rw [List.find?_cons_of_pos (by simp)]
      rfl
    · rw [decide_eq_false c] at ke
      have vv : valV ((p, w) :: kvs) q = valV kvs q := by
        unfold valV
        rw [List.find?_cons_of_neg (by simpa using c)]
      rw [if_neg (by rw [ke]; simp), vv]
      rcases findK_val q kvs with ⟨a, b⟩ | ⟨j, w', a, b, d⟩
      · exact .inl ⟨by rw [a]; rfl, b⟩
      · exact .inr ⟨j + 1, w', by rw [a]; rfl, by simpa using b, d⟩
def sBorD (r x : Nat) (g : Ev → R D) (d : Ev → R Ow) (gs : Ev → SR) (env : Ev) : SR := match env[r]? with
  | some (some (.k ks os)) => (g env).st env fun k => (d env).st env fun o => if x < env.length ∧ r ≠ x ∧ isKey k = true ∧ ks.length < sizeLine then (match findK k ks with
    | some j => match os[j]? with
      | some s => fixB r x (fun o' => .k ks (os.set j o')) (gs ((env.set r none).set x (some s)))
      | none => .no
    | none => fixB r x (fun o' => .k (ks ++ [k]) (os ++ [o'])) (gs ((env.set r none).set x (some o)))) else .no
  | _ => .no
def eDictNewK (_ : Ev) : R Ow := .ok (.k [] [])
@[simp] theorem eDictNewK_eq (env : Ev) : eDictNewK env = .ok (.k [] []) := rfl
section
variable {X : Cx} {W : WX} {S : Nat → Bool} {e f : Expr} {pos cpos apos npos : Pos} {y z : Str} {rest : List Stmt}
theorem de_dictNewK : DE X W (.Dict [] [] pos) eDictNewK := by
  refine ⟨_, pe_dnewK, fun F H σ env fp Q sat hp => ?_⟩
  intro p hn
  refine hp _ F _ (Ext.own sat.fh hn _) ⟨[p], .k (kvs := []) (free_of sat.fh hn) upd_same .nil, by simp, fun b hb => by rw [List.mem_singleton.mp hb]; exact hn⟩
theorem dss_borD {g : Ev → R D} {d : Ev → R Ow} {gs : Ev → SR} {pos' : Pos} (r x : Nat) (hN : X.N.Nodup) (hk : DF X W e g) (hd : DE X W f d) (hb : DSs X W (offB S r x) rest gs) (hr : X.N[r]? = some z := by rfl) (hv : Vis X.env.scope z := by first | exact Or.inl rfl | exact Or.inr (Or.inl rfl) | exact Or.inr (Or.inr rfl)) (hdb : (z == ("__debug__" : Str)) = false := by decide) (hcd : (z == ("__classdict__" : Str)) = false := by decide)
    (m : M2 X (.Name z npos) "setdefault" apos e f cpos := by exact ⟨rfl, rfl, rfl, rfl⟩) (hi : X.N[x]? = some y := by rfl) (hx : Loc X.env.scope y := by first | exact Or.inl rfl | exact Or.inr rfl)
    (hs : swapsWith (.Call (.Attribute (.Name z npos) "setdefault" apos) [e, f] [] cpos) (some (.Name y pos')) pos.line X.env = pure false := by rfl) (hf : X.fn y = true ∨ X.env.scope.names.lookup y = some .local := by first | exact .inl rfl | exact .inr rfl | assumption) (hS : S x = true := by rfl) : DSs X W S (.Assign [.Name y pos'] (.Call (.Attribute (.Name z npos) "setdefault" apos) [e, f] [] cpos) pos :: rest) (sBorD r x g d gs) := by
  obtain ⟨t, pk, sk⟩ := hk
  obtain ⟨t', pd, sd⟩ := hd
  obtain ⟨t2, p2, s2⟩ := hb
  refine ⟨_, pss_cons (ps_set hN hi hx (pe_dsetd (pe_var hr hv hdb hcd) pk pd m) hs hf) p2, fun F H σ env fp D sat h => ?_⟩
  unfold sBorD at h
  split at h
  case h_2 => exact h.elim
  rename_i ks os he
  obtain ⟨v, fo, fr, e1, ow, ndo, sat0, i1, i2, i3⟩ := sat.take he
  have lσ : σ.length = env.length := sat.en.len
  have hl : r < env.length := (List.getElem?_eq_some_iff.mp he).1
  have ho0 := Hole.here ow ndo
  obtain ⟨a, kvs, rfl, m2, ek, el, _⟩ := Hole.dct ho0
  refine ⟨_, e1, a, rfl, .inl ⟨kvs, .inl m2⟩, ?_⟩
  cases eg : g env with
  | no => rw [eg] at h; exact h.elim
  | ex c =>
    rw [eg] at h
    refine sk F H σ env fp _ sat ?_
    rw [eg]
    exact fun C F' H' m x => h C σ F' H' fp m (.refl _ _) (StepS.of_ext x fp) (sat.ext x)
  | ok kd =>
  rw [eg] at h
  refine sk F H σ env fp _ sat ?_
  rw [eg]
  intro v1 F1 H1 x1 dk
  have sat1 := sat.ext x1
  cases ed : d env with
  | no =>
    have h : PostS X W S σ F H fp D ((d env).st env _) := h
    rw [ed] at h
    exact h.elim
  | ex c =>
    have h : PostS X W S σ F H fp D ((d env).st env _) := h
    rw [ed] at h
    refine sd F1 H1 σ env fp _ sat1 ?_
    rw [ed]
    exact fun C F' H' m x => h C σ F' H' fp m (.refl _ _) (StepS.of_ext (x1.trans x) fp) (sat1.ext x)
  | ok o =>
  have h2 : PostS X W S σ F H fp D ((d env).st env _) := h
  rw [ed] at h2
  refine sd F1 H1 σ env fp _ sat1 ?_
  rw [ed]
  intro v2 F2 H2 x2 dd
  have sat2 := sat1.ext x2
  obtain ⟨fx, ow2, nd2, fr2⟩ := dd
  simp only [R.st] at h2
  have x12 := x1.trans x2
  split at h2
  case isFalse => exact h2.elim
  rename_i c
  obtain ⟨c1, c2, c3, c4⟩ := c
  obtain ⟨q, rfl⟩ := key_of_data c3
  have ev1 : v1 = kV q := key_dp dk
  have kl : kvs.length < sizeLine := by rw [← ek, List.length_map] at c4; exact c4
  have H2a : H2 a = some (.dK kvs) := x12.hh _ _ m2
  have hl2 : x < (env.set r none).length := by rw [List.length_set]; exact c1
  refine ⟨kvs, q, H2a, ev1, kl, fun w hw => ?_, fun hn => ?_⟩
  · rcases findK_val q kvs with ⟨_, b⟩ | ⟨j, w', f1, f2, f3⟩
    · rw [b] at hw; cases hw
    · rw [hw] at f3
      cases f3
      rw [ek] at f1
      rw [f1] at h2
      simp only at h2
      cases es : os[j]? with
      | none => rw [es] at h2; exact h2.elim
      | some s =>
        rw [es] at h2
        simp only at h2
        obtain ⟨a', kvs', ea, m2', ek', el', get⟩ := Hole.dct (ho0.ext x12)
        cases ea
        have : kvs' = kvs := by
          rw [H2a] at m2'
          cases m2'
          rfl
        subst this
        obtain ⟨w2, g1, g2, gw, ho, s1, s3, s4⟩ := get j s es
        rw [f2] at gw
        cases gw
        have frz : ∀ b ∈ g2, b ∈ fo := fun b hb => by
          rcases s3 b hb with z | z
          · exact z
          · cases z
        obtain ⟨fp1, sat3, sub3⟩ := (sat0.ext x12).put hl2 ho.own ho.ndo fun b hb z => i3 b (s1 b hb) z
        refine s2 F2 H2 _ _ fp1 D sat3 (fixB_post h2 x12 (fun b hb => ?_) (.set hS _) ho (fun b hb z => ?_) (fun b hb => i2 b (frz b hb)) ?_ ?_)
        · rcases sub3 b hb with z | z
          · exact i2 b (s1 b z)
          · exact i1 b z
        · rcases sub3 b z with z | z
          · exact ho.dis b z hb
          · exact i3 b (frz b hb) z
        · rw [List.getElem?_set_ne (Ne.symm c2)]; exact e1
        · rw [List.getElem?_set_self (by omega)]
  · rcases findK_val q kvs with ⟨f1, _⟩ | ⟨j, w', _, _, f3⟩
    case inr => rw [hn] at f3; cases f3
    rw [ek] at f1
    rw [f1] at h2
    simp only at h2
    cases ow with
    | @k _ kvs0 _ f0 m1 m2b m3 =>
    have : kvs0 = kvs := by
      rw [m2b] at m2
      cases m2
      rfl
    subst this
    obtain ⟨n1, n2⟩ := List.nodup_cons.mp ndo
    have pk : putK kvs0 q v2 = kvs0 ++ [(q, v2)] := by
      unfold putK
      rw [if_neg]
      intro an
      rw [List.any_eq_true] at an
      obtain ⟨p, hp, e⟩ := an
      unfold valV at hn
      cases ef : kvs0.find? (fun kv => decide (kv.1 = q)) with
      | none =>
        rw [List.find?_eq_none] at ef
        exact ef p hp e
      | some z => rw [ef] at hn; cases hn
    rw [pk]
    have F2a := mut_freeO x12 m1 m2b
    obtain ⟨H3, hH3⟩ : ∃ H3, H3 = upd H2 a (.dK (kvs0 ++ [(q, v2)])) := ⟨_, rfl⟩
    have st : StepS F2 H2 [a] F2 H3 [a] := by rw [hH3]; exact mut_stepO (Ext.refl sat2.fh) F2a H2a
    have sf : Same F2 H3 := by rw [hH3]; exact mut_same sat2.fh F2a
    have fxa : ∀ b ∈ fx, b ∉ a :: f0 := fun b hb z => by
      have e0 := fr2 b hb
      have th := OwnAt.there _ _ _ (.k m1 m2b m3 : OwnAt X.KK F H (.ref a) (.k (kvs0.map fun p => keyD p.1) os) (a :: f0)) b z
      obtain ⟨o', ho'⟩ := th.2
      rw [x1.hh _ _ ho'] at e0
      cases e0
    have ow3 : OwnAt X.KK F2 H3 v2 o fx := OwnAt.keep st _ _ _ ow2 fun b hb z => fxa b hb (by rw [List.mem_singleton.mp z]; exact List.mem_cons_self)
    have m3' : OwnAll X.KK F2 H3 (kvs0.map (·.2)) os f0 := OwnAll.keep st _ _ _ (m3.ext x12) fun b hb z => n1 (by rw [← List.mem_singleton.mp z]; exact hb)
    have m2' : H3 a = some (.dK (kvs0 ++ [(q, v2)])) := by rw [hH3]; exact upd_same
    have ho : Hole X.KK F2 H3 (.ref a) v2 o (fun o' => .k ((kvs0.map fun p => keyD p.1) ++ [keyD q]) (os ++ [o'])) fx (a :: f0) := {
      own := ow3
      ndo := nd2
      ndr := ndo
      dis := fxa
      thr := fun b hb => by
        rcases List.mem_cons.mp hb with rfl | hb
        · exact ⟨_, m2'⟩
        · exact (OwnAll.there _ _ _ m3' b hb).2
      back := fun F4 H4 gx gy s' fn st4 dj ow4 nd4 dn => by
        have k1 := OwnAll.keep st4 _ _ _ m3' fun b hb => dj b (List.mem_cons_of_mem _ hb)
        obtain ⟨fp', k2, k3, k4⟩ := OwnAll.snoc k1 ow4 n2 nd4 fun b hb z => dn b hb (List.mem_cons_of_mem _ z)
        have na : a ∉ fp' := fun z => by
          rcases k4 a z with z | z
          · exact n1 z
          · exact dn a z List.mem_cons_self
        have nx : a ∉ gx := dj a List.mem_cons_self
        have ow5 : OwnAt X.KK F4 H4 (.ref a) (.k ((kvs0 ++ [(q, v2)]).map fun p => keyD p.1) (os ++ [s'])) (a :: fp') := .k (st4.none_of F2a m2' nx) (st4.fr _ _ m2' nx) (by rw [List.map_append]; exact k2)
        have ekk : ((kvs0 ++ [(q, v2)]).map fun p => keyD p.1) = (kvs0.map fun p => keyD p.1) ++ [keyD q] := by rw [List.map_append]; rfl
        rw [ekk] at ow5
        refine ⟨a :: fp', ow5, List.nodup_cons.mpr ⟨na, k3⟩, fun b hb => ?_⟩
        rcases List.mem_cons.mp hb with rfl | hb
        · exact .inr List.mem_cons_self
        · rcases k4 b hb with z | z
          · exact .inr (List.mem_cons_of_mem _ z)
          · exact .inl z }
    have afo : a ∈ fp := i2 a List.mem_cons_self
    have stB : StepS F H fp F2 H3 (fp ++ fx) := ⟨x12.ff, fun b o' e n => st.fr b o' (x12.hh _ _ e) fun z => n (by rw [List.mem_singleton.mp z]; exact afo), fun b o' e => (x12.fn b o' e).imp id .inr, fun b hb => by
      rcases List.mem_append.mp hb with z | z
      · exact .inl z
      · exact .inr (x1.hh.free (fr2 b z))⟩
    have h3 := PostS.step h2 (.refl _ _) stB
    have sat0' : Sat X.KK F2 H3 σ (env.set r none) fr := Sat.beside (sat0.ext x12) st (fun b hb z => i3 a List.mem_cons_self (by rw [← List.mem_singleton.mp z]; exact hb)) sf
    have fxr : ∀ b ∈ fx, b ∉ fr := fun b hb z => by
      have e0 := x1.hh.free (fr2 b hb)
      obtain ⟨o', ho'⟩ := (sat0.en.there b z).2
      rw [ho'] at e0
      cases e0
    obtain ⟨fp1, sat3, sub3⟩ := sat0'.put hl2 ow3 nd2 fxr
    rw [← hH3]
    refine s2 F2 H3 _ _ fp1 D sat3 (fixB_post h3 (Ext.refl sf) (fun b hb => ?_) (.set hS _) ho (fun b hb z => ?_) (fun b hb => List.mem_append_left _ (i2 b hb)) ?_ ?_)
    · rcases sub3 b hb with z | z
      · exact List.mem_append_right _ z
      · exact List.mem_append_left _ (i1 b z)
    · rcases sub3 b z with z | z
      · exact fxa b z hb
      · exact i3 b hb z
    · rw [List.getElem?_set_ne (Ne.symm c2)]; exact e1
    · rw [List.getElem?_set_self (by omega)]
end
end Mir
end
set_option Elab.async false
set_option linter.all false
set_option maxRecDepth 100000
set_option maxHeartbeats 4000000
noncomputable section
namespace Mir
open PySem PySem.Spec PyProof.Rows L2
section
variable {K : Kw} {F H : Hp} {σ : L2.St} {env : Ev} {fp : List Addr} {w : V}
theorem At.mutM {ps : List (D × D)} {bk : Ow → Ev} (h : At K F H σ fp w (.m ps, bk)) (sat : Sat K F H σ env fp) : ∃ a kvs, w = .ref a ∧ F a = none ∧ H a = some (.dK kvs) ∧ a ∈ fp ∧ DpKv K F kvs ps ∧
    ∀ F1 H1 kvs' ps', Ext F H F1 H1 → DpKv K F1 kvs' ps' → ∃ fp', Sat K F1 (upd H1 a (.dK kvs')) σ (bk (.m ps')) fp' ∧ ∀ b ∈ fp', b ∈ fp := by
  obtain ⟨fo, a1, a2, a3, a4⟩ := h
  cases a1 with
  | @m a kvs _ m1 m2 m3 =>
  refine ⟨a, kvs, rfl, m1, m2, a3 a List.mem_cons_self, m3, fun F1 H1 kvs' ps' x dp => ?_⟩
  have fa := mut_freeO x m1 m2
  have st : StepS F H [a] F1 (upd H1 a (.dK kvs')) [a] := mut_stepO x m1 m2
  obtain ⟨fp', s1, s2⟩ := a4 F1 (upd H1 a (.dK kvs')) (.m ps') [a] [a] ⟨st.ff, st.fr, st.fn, fun b z => nomatch z⟩ (fun b hb => hb) (mut_same x.fh fa) (.m fa upd_same dp) (by simp) fun b hb => .inl hb
  refine ⟨fp', s1, fun b hb => ?_⟩
  rcases s2 b hb with q | q
  · exact q
  · rw [List.mem_singleton.mp q]; exact a3 a List.mem_cons_self
end
def sPPutM (p : Ev → R Pl) (g : Ev → R D) (f : Ev → R D) (env : Ev) : SR := (f env).st env fun d => (p env).st env fun q => match q.1 with
  | .m ps => (g env).st env fun k => if isKey k = true ∧ ps.length < sizeLine then .nx (q.2 (.m (putP ps k d))) else .no
  | _ => .no
def eInPM (no : Bool) (g : Ev → R D) (p : Ev → R Pl) (env : Ev) : R D := (g env).bind fun k => (p env).bind fun q => match q.1 with
  | .m ps => if isKey k = true then .ok (.bool ((ps.any fun x => keyEq x.1 k) != no)) else .no
  | _ => .no
section
variable {X : Cx} {W : WX} {S : Nat → Bool} {e a b : Expr} {pos tpos : Pos}
theorem ds_pputM {p : Ev → R Pl} {f : Ev → R D} {g : Ev → R D} (hu : X.A.units + 140 < cLine) (hp : DPt X W a p) (hk : DV X W b g) (he : DF X W e f)
    (hs : swapsWith e (some (.Subscript a b tpos)) pos.line X.env = pure false := by rfl) : DS X W S (.Assign [.Subscript a b tpos] e pos) (sPPutM p g f) := by
  obtain ⟨te, pe, se⟩ := he
  obtain ⟨t, pk, sk⟩ := hk
  obtain ⟨t2, pp, s2⟩ := hp
  refine ⟨_, ps_dput (by omega) pp pk pe hs, fun F H σ env fp D sat h => ?_⟩
  unfold sPPutM at h
  refine se.st sat h fun d v F1 H1 sat1 q1 x1 h1 => ?_
  refine s2 F1 H1 σ env fp _ sat1 ?_
  cases ep : p env with
  | no => rw [ep] at h1; exact h1.elim
  | ex c => rw [ep] at h1; exact fun C F' H' m x => h1 C σ F' H' fp m (.refl _ _) (StepS.of_ext x fp) (sat1.ext x)
  | ok q =>
  rw [ep, R.st_ok] at h1
  obtain ⟨o, bk⟩ := q
  simp only at h1
  cases o with
  | m ps =>
    simp only at h1
    intro w F2 H2 x2 at2
    have sat2 := sat1.ext x2
    have h2 := h1.ext x2
    refine sk.st sat2 h2 fun dk u F3 H3 sat3 q3 x3 h3 => ?_
    split at h3
    · rename_i c
      obtain ⟨q, rfl⟩ := key_of_data c.1
      obtain ⟨a2, kvs2, rfl, m1, m2, m3, m4, fin⟩ := At.mutM (at2.ext x3) sat3
      have ll := dpKv_len m4
      have q1' := dpUp q1 (x2.trans x3).ff
      obtain ⟨fp', s1, s2'⟩ := fin F3 H3 (putK kvs2 q v) (putP ps (keyD q) d) (Ext.refl sat3.fh) (dpKv_put q1' m4)
      have st : StepS F3 H3 [a2] F3 (upd H3 a2 (.dK (putK kvs2 q v))) [a2] := mut_stepO (Ext.refl sat3.fh) m1 m2
      refine ⟨a2, upd H3 a2 (.dK (putK kvs2 q v)), rfl, ?_, h3 σ F3 _ fp' (.refl _ _) ⟨st.ff, fun b o e n => st.fr b o e fun z => n (by rw [List.mem_singleton.mp z]; exact m3), fun b o e => .inl e, fun b hb => .inl (s2' b hb)⟩ s1⟩
      rw [key_dp q3]
      exact DPut.k m2 (by rw [ll]; exact c.2)
    · exact h3.elim
  | _ => exact h1.elim
theorem inPM_core (no : Bool) {p : Ev → R Pl} {g : Ev → R D} {t t2 : TE} {σ : L2.St} {F H : Hp} {env : Ev} {fp : List Addr} {Q : VK} (sk : Sm X W (PVw X.KK) t g) (s2 : ∀ F H σ env fp Q, Sat X.KK F H σ env fp → PostPl X W F H σ fp (p env) Q → t2 σ H Q) (sat : Sat X.KK F H σ env fp) (hp : Post X W (PFz X.KK) F H σ (eInPM no g p env) Q) :
    t σ H fun y H1 => t2 σ H1 fun v H2 => ∃ a o, v = .ref a ∧ DGet H2 a y o ∧ Q (.bl (o.isSome != no)) H2 := by
  unfold eInPM at hp
  refine sk.go sat hp fun d u F1 H1 sat1 q1 x1 h1 => ?_
  refine s2 F1 H1 σ env fp _ sat1 ?_
  cases ep : p env with
  | no => rw [ep] at h1; exact h1.elim
  | ex c => rw [ep] at h1; exact h1
  | ok q =>
  rw [ep, R.bind_ok] at h1
  obtain ⟨o, bk⟩ := q
  simp only at h1
  cases o with
  | m ps =>
    simp only at h1
    intro w F2 H2 x2 at2
    have sat2 := sat1.ext x2
    have h2 := h1.ext x2
    split at h2
    · rename_i c
      obtain ⟨q, rfl⟩ := key_of_data c
      obtain ⟨a2, kvs2, rfl, m1, m2, m3, m4, _⟩ := At.mutM at2 sat2
      refine ⟨a2, valV kvs2 q, rfl, ?_, ?_⟩
      · rw [key_dp q1]
        exact DGet.k (k := q) m2
      · have e3 : (ps.any fun p => keyEq p.1 (keyD q)) = (valV kvs2 q).isSome := by rw [dpKv_any q m4, valV_any]
        rw [e3] at h2
        exact h2 _ F2 H2 (.refl sat2.fh) (.bl _)
    · exact h2.elim
  | _ => exact h1.elim
theorem asB_post {F H : Hp} {σ : L2.St} {r : R D} {Q : Bool → Hp → Prop} (hp : Post X W PTb F H σ (r.bind asB) Q) : Post X W (PFz X.KK) F H σ r (fun v H' => ∃ b, v = .bl b ∧ Q b H') := by
  cases r with
  | no => exact hp.elim
  | ex c => exact hp
  | ok d =>
    intro v F' H' x q
    have q' : Dp X.KK F' v d := q
    cases d with
    | bool b =>
      cases dp_bool q'
      exact ⟨b, rfl, hp b F' H' x rfl⟩
    | _ => exact hp.elim
theorem dt_inPM {p : Ev → R Pl} {g : Ev → R D} (hu : X.A.units + 140 < cLine) (hk : DV X W b g) (hp : DPt X W a p) (hbm : behindInMarks .In a = false := by rfl) : DT X W (.Compare b [.In] [a] pos) (eB (eInPM false g p) asB) := by
  obtain ⟨t, pk, sk⟩ := hk
  obtain ⟨t2, pp, s2⟩ := hp
  refine ⟨_, pt_cmp (pc_din (by omega) pk pp) hbm, fun F H σ env fp Q sat hp => ?_⟩
  have := inPM_core false sk s2 sat (asB_post hp)
  simp only [Bool.bne_false] at this
  exact this
end
end Mir
end
set_option Elab.async false
set_option linter.all false
set_option maxRecDepth 100000
set_option maxHeartbeats 4000000
noncomputable section
namespace Mir
open PySem PySem.Spec PyProof.Rows L2
/-- k in d, k not in d, d any data that is a dict with at least one key -/
def gInDD (no : Bool) : D → D → Option D
  | k, .dict (q :: ps) => if isKey k = true ∧ (q :: ps).all (fun p => isKey p.1) = true then some (.bool (((q :: ps).any fun x => keyEq x.1 k) != no)) else none
  | _, _ => none
def gListKD : D → Option Ow
  | .dict (q :: ps) => if (q :: ps).all (fun p => isKey p.1) = true then some (.l (((q :: ps).map (·.1)).map Ow.d)) else none
  | _ => none
def eListKD (f : Ev → R D) (env : Ev) : R Ow := (f env).bind fun d => R.of (gListKD d)
@[simp] theorem gListKD_dict (q : D × D) (ps : List (D × D)) : gListKD (.dict (q :: ps)) = if (q :: ps).all (fun p => isKey p.1) = true then some (.l (((q :: ps).map (·.1)).map Ow.d)) else none := rfl
@[simp] theorem gInDD_dict (no : Bool) (k : D) (q : D × D) (ps : List (D × D)) : gInDD no k (.dict (q :: ps)) = if isKey k = true ∧ (q :: ps).all (fun p => isKey p.1) = true then some (.bool (((q :: ps).any fun x => keyEq x.1 k) != no)) else none := rfl
theorem isKey_nested {K : Kw} {H : Hp} {k : NestedKey} {b : Addr} (h : Dp K H (.ref b) k.data) : isKey k.data = false := by
  cases e : k.data with
  | int i => rw [e] at h; cases h
  | str z => rw [e] at h; cases h
  | none => rfl
  | bool b => rfl
  | list l => rfl
  | tuple l => rfl
  | dict l => rfl
section
variable {X : Cx} {W : WX} {S : Nat → Bool} {e k : Expr} {f g : Ev → R D} {pos p : Pos}
/-- a dict all of whose keys are whole numbers or texts -/
theorem dct_of {K : Kw} {F : Hp} {v : V} {ps : List (D × D)} (h : Dp K F v (.dict ps)) (hk : ps.all (fun p => isKey p.1) = true) : ∃ a, v = .ref a ∧ ((∃ kvs, Rd F a (.dK kvs) ∧ DpKv K F kvs ps) ∨ ps = []) := by
  cases h with
  | @dct a kvs _ m2 m3 => exact ⟨a, rfl, .inl ⟨kvs, m2, m3⟩⟩
  | @dcn a kvs _ m2 m3 =>
    cases m3 with
    | nil => exact ⟨a, rfl, .inr rfl⟩
    | cons h0 h1 h2 h3 =>
      rw [List.all_cons] at hk
      rw [isKey_nested h0] at hk
      cases hk
  | exc _ => cases hk
  | ins _ => cases hk
theorem inDD_core (no : Bool) {t t2 : TE} (sk : Sm X W (PVw X.KK) t g) (se : Sm X W (PVw X.KK) t2 f) {σ : L2.St} {F H : Hp} {env : Ev} {fp : List Addr} {Q : VK} (sat : Sat X.KK F H σ env fp) (hp : Post X W (PFz X.KK) F H σ (eBin (gInDD no) g f env) Q) :
    t σ H fun y H1 => t2 σ H1 fun v H2 => ∃ a o, v = .ref a ∧ DGet H2 a y o ∧ Q (.bl (o.isSome != no)) H2 := by
  refine sk.go sat hp fun d u F1 H1 sat1 q1 x1 h1 => ?_
  refine se.go sat1 h1 fun d2 u2 F2 H2 sat2 q2 x2 h2 => ?_
  obtain ⟨z, hz, h3⟩ := post_of h2
  cases d2 with
  | dict ps0 =>
    cases ps0 with
    | nil => cases hz
    | cons pq ps =>
      rw [gInDD_dict] at hz
      split at hz
      · rename_i c
        obtain ⟨c1, c2⟩ := c
        cases hz
        obtain ⟨q, rfl⟩ := key_of_data c1
        have q2' : Dp X.KK H2 u2 (.dict (pq :: ps)) := q2
        obtain ⟨a, rfl, z | z⟩ := dct_of q2' c2
        · obtain ⟨kvs, m2, m3⟩ := z
          have hg : DGet H2 a (kV q) (valV kvs q) := .inl ⟨kvs, q, m2, rfl, rfl⟩
          refine ⟨a, valV kvs q, rfl, ?_, ?_⟩
          · rw [key_dp q1]; exact hg
          · have e3 : ((pq :: ps).any fun p => keyEq p.1 (keyD q)) = (valV kvs q).isSome := by rw [dpKv_any q m3, valV_any]
            rw [e3] at h3
            exact h3 _ F2 H2 (.refl sat2.fh) (.bl _)
        · cases z
      · cases hz
  | _ => cases hz
theorem dt_notInDD (hu : X.A.units + 140 < cLine) (hk : DV X W k g) (he : DV X W e f) (hbm : behindInMarks .NotIn e = false := by rfl) : DT X W (.Compare k [.NotIn] [e] pos) (eB (eBin (gInDD true) g f) asB) := by
  obtain ⟨t, pk, sk⟩ := hk
  obtain ⟨t2, pp, s2⟩ := he
  refine ⟨_, pt_cmp (pc_dnotin (by omega) pk pp) hbm, fun F H σ env fp Q sat hp => ?_⟩
  have := inDD_core true sk s2 sat (asB_post hp)
  simp only [Bool.bne_true] at this
  exact this
end
section
variable {X : Cx} {W : WX} {e : Expr} {f : Ev → R D} {pos p : Pos}
theorem dpKv_ks {K : Kw} {H : Hp} (F : Hp) : ∀ {ps : List (D × D)} {kvs : List (Key × V)}, DpKv K H kvs ps → PySem.W.EachIs (Dp K F) (kvs.map fun kv => kV kv.1) (ps.map (·.1))
  | [], _, h => by cases h; exact .nil
  | p :: ps, _, h => by
    cases h with
    | @cons k v kvs d ps h1 h2 => exact .cons (dp_kV k) (dpKv_ks F h2)
theorem de_listKD (hc : X.calm = true) (hg : Gl X "list") (hm : X.mg "list" = none) (ha : DF X W e f)
    (he : starEach [e] X.env = (false, eval e X.env) :: starEach [] X.env := by rfl) (hpl : (backTo pos (starEach [] X.env)).any (·.1) = false := by rfl) :
    DE X W (.Call (.Name "list" p) [e] [] pos) (eListKD f) := by
  obtain ⟨t, pe, s⟩ := ha
  refine ⟨_, pe_callTy (call_listD hc) hg hm (by first | rfl | decide +kernel) (pa_cons pe pa_nil he) (he := he) (hpl := hpl), fun F H σ env fp Q sat hp => ?_⟩
  unfold eListKD at hp
  refine s.go sat hp fun d v F1 H1 sat1 q1 x1 h1 => ?_
  have q1 : Dp X.KK F1 v d := q1
  cases d with
  | dict ps0 =>
    cases ps0 with
    | nil => exact h1.elim
    | cons pq ps =>
      rw [gListKD_dict] at h1
      split at h1
      · rename_i c
        obtain ⟨a, rfl, z | z⟩ := dct_of q1 c
        · obtain ⟨kvs, m2, m3⟩ := z
          exact ⟨a, kvs, rfl, Same.rd sat1.fh m2, fun b hb => h1 _ _ _ (Ext.own sat1.fh hb _) (own_l sat1.fh hb (dpAll_each (dpKv_ks F1 m3)))⟩
        · cases z
      · exact h1.elim
  | _ => exact h1.elim
def valsD (ps : List (D × D)) : List D := ps.map (·.2)
theorem dpKv_vals {K : Kw} {H : Hp} : ∀ {ps : List (D × D)} {kvs : List (Key × V)}, DpKv K H kvs ps → kvs.length = ps.length ∧ ∀ (i : Nat) (k : Key) (v : V), kvs[i]? = some (k, v) → ∃ d, (valsD ps)[i]? = some d ∧ Dp K H v d
  | [], _, h => by cases h; exact ⟨rfl, fun i k v e => by simp at e⟩
  | p :: ps, _, h => by
    cases h with
    | @cons k v kvs d ps h1 h2 =>
      obtain ⟨a, b⟩ := dpKv_vals h2
      refine ⟨by simp [a], fun i k' v' e => ?_⟩
      cases i with
      | zero =>
        simp at e
        exact ⟨d, by simp [valsD], by rw [← e.2]; exact h1⟩
      | succ i =>
        obtain ⟨d', q1, q2⟩ := b i k' v' (by simpa using e)
        exact ⟨d', by simpa [valsD] using q1, q2⟩
theorem walkF_dv {K : Kw} {F0 : Hp} {d : Addr} {o : Obj} {kvs : List (Key × V)} {ps : List (D × D)} (h1 : F0 d = some (.frz o (.dK kvs))) (h2 : DpKv K F0 kvs ps) : WalkF K (Itd d o kvs) F0 (valsD ps) where
  go := fun i F H hi s1 s2 => by
    rw [valsD, List.length_map, ← (dpKv_vals h2).1] at hi
    exact ⟨s2 _ _ (s1 _ _ h1), hi⟩
  yld := fun i F H x H' hi s1 s2 ⟨e, k, q⟩ => by
    subst e
    obtain ⟨dd, q1, q2⟩ := (dpKv_vals h2).2 i k x q
    exact ⟨dd, F, q1, .refl s2, dpUp q2 s1⟩
  stop := fun F H s1 s2 => ⟨s2 _ _ (s1 _ _ h1), by rw [valsD, List.length_map, (dpKv_vals h2).1]; exact Nat.le_refl _⟩
/-- for .. in x.values(): body, x a dict told as data with at least one key; the body raises nothing -/
def sForVD (i : Nat) (g : D → Ev → Option Ev) (f : Ev → SR) (env : Ev) : SR := match env[i]? with
  | some (some (.d (.dict (q :: ps)))) => if (q :: ps).all (fun p => isKey p.1) = true then noX (forL g f (valsD (q :: ps)) env) else .no
  | _ => .no
theorem sForVD_of {i : Nat} {g : D → Ev → Option Ev} {f : Ev → SR} {env : Ev} {q : D × D} {ps : List (D × D)} (h : env[i]? = some (some (.d (.dict (q :: ps))))) (hk : (q :: ps).all (fun p => isKey p.1) = true) : sForVD i g f env = noX (forL g f (valsD (q :: ps)) env) := by unfold sForVD; rw [h]; exact if_pos hk
end
section
variable {X : Cx} {W : WX} {S : Nat → Bool} {tg : Expr} {apos cpos : Pos}
theorem ds_forVD {x : Str} {npos pos : Pos} {body : List Stmt} {g : D → Ev → Option Ev} {fs : Ev → SR} {ix : List Nat} (i : Nat) (hp : PassesOwn (model X.prog X.w) X.A X.env X.xe) (hc : X.calm = true) (hg : DG X tg ix g) (hb : DSs X W0 S body fs)
    (hN : X.N[i]? = some x := by rfl) (hv : Vis X.env.scope x := by first | exact Or.inl rfl | exact Or.inr (Or.inl rfl) | exact Or.inr (Or.inr rfl)) (hd : (x == ("__debug__" : Str)) = false := by decide) (hcd : (x == ("__classdict__" : Str)) = false := by decide)
    (hbase : attributeBase (.Name x npos) "values" X.env (eval (.Name x npos) X.env) = eval (.Name x npos) X.env := by rfl) (hline : (apos.endLine == cpos.line) = true := by rfl)
    (hs : ∀ y, foldedSetIterable (.Call (.Attribute (.Name x npos) "values" apos) [] [] cpos) X.env y = pure y := by intro _; rfl) (hS : ix.all S = true := by rfl) : DS X W S (.For tg (.Call (.Attribute (.Name x npos) "values" apos) [] [] cpos) body [] pos) (sForVD i g fs) := by
  obtain ⟨tb, pb, sb⟩ := hb
  have pf := ps_for hp hc (pi_values (tg := tg) (apos := apos) (cpos := cpos) (pe_var (pos := npos) hN hv hd hcd) hbase hline) hg pb hs (pos := pos)
  refine ⟨_, PS.or (ps_lock pf) pf, fun F H σ env fp D sat h => ?_⟩
  unfold sForVD at h
  split at h
  · rename_i pq ps he
    split at h
    case isFalse => exact h.elim
    rename_i hk
    obtain ⟨v, fo, hv, ho, _⟩ := sat.en.get he
    cases ho with
    | d dp =>
      have toW0 : ∀ {F H : Hp} {fp : List Addr} {D : Ends} {r : SR}, PostS X W S σ F H fp D (noX r) → PostS X W0 S σ F H fp D r := fun {F H fp D r} q => by
        cases r with
        | ex c env => exact q.elim
        | _ => exact q
      obtain ⟨a, rfl, z | z⟩ := dct_of dp hk
      · obtain ⟨kvs, m2, m3⟩ := z
        rcases m2 with m2 | ⟨o, m2⟩
        · refine .inl ⟨a, .dK kvs, sat.fh _ _ m2, trivial, fun od => ?_⟩
          have sat1 := sat.lock od m2 (fun _ _ z => nomatch z) (fun _ _ _ z => nomatch z)
          have m3' := DpKv.rl (rlh_lock (H := H) (od := od) m2 (fun _ _ z => nomatch z) (fun _ _ _ z => nomatch z)).rl _ _ m3
          exact forK_core (i := i) (body := body) sb hS sat1 (walkF_dv upd_same m3') (fun R r => ⟨_, hv, a, od, kvs, rfl, upd_same, r⟩) (PostS.lock od m2 (sat.fh _ _ m2) h)
        · exact .inr (forK_core (i := i) (body := body) sb hS sat (walkF_dv m2 m3) (fun R r => ⟨_, hv, a, o, kvs, rfl, sat.fh _ _ m2, r⟩) (toW0 h))
      · cases z
  · exact h.elim
end
end Mir
end
set_option Elab.async false
set_option linter.all false
set_option maxRecDepth 100000
set_option maxHeartbeats 4000000
noncomputable section
namespace Mir
open PySem PySem.Spec PyProof.Rows L2
def ePtD (p : Ev → R Pl) (env : Ev) : R D := (p env).bind fun q => asD q.1
section
variable {X : Cx} {W : WX} {e : Expr}
theorem df_pt {p : Ev → R Pl} (hp : DPt X W e p) : DF X W e (ePtD p) := by
  obtain ⟨t, pp, s⟩ := hp
  refine ⟨t, pp, fun F H σ env fp Q sat h => ?_⟩
  refine s F H σ env fp Q sat ?_
  unfold ePtD at h
  cases ep : p env with
  | no => rw [ep] at h; exact h.elim
  | ex c => rw [ep] at h; exact h
  | ok q =>
    rw [ep, R.bind_ok] at h
    obtain ⟨o, bk⟩ := q
    intro w F' H' x at1
    cases o with
    | d y =>
      obtain ⟨fo, a1, _⟩ := at1
      have a1 : OwnAt X.KK F' H' w (.d y) fo := a1
      cases a1 with
      | d dp => exact h w F' H' x dp
    | _ => exact h.elim
end
end Mir
end
set_option Elab.async false
set_option linter.all false
set_option maxRecDepth 100000
set_option maxHeartbeats 4000000
namespace Mir
open PySem PySem.Spec L2

inductive Tr where
  | mk (nm : Str) (mk : Int) (bs : List Tr)
mutual
def encT : Tr → D
  | .mk nm k bs => .tuple [.str nm, .int k, .tuple (encTs bs)]
def encTs : List Tr → List D
  | [] => []
  | b :: bs => encT b :: encTs bs
end
mutual
def sizeT : Tr → Nat
  | .mk _ _ bs => 1 + sizeTs bs
def sizeTs : List Tr → Nat
  | [] => 0
  | b :: bs => sizeT b + sizeTs bs
end
mutual
def levT : Tr → Nat
  | .mk _ _ bs => levTs bs + 1
def levTs : List Tr → Nat
  | [] => 0
  | b :: bs => max (levT b) (levTs bs)
end

structure TRow where
  nm : Str
  mar : Int
  up : Nat
end Mir
set_option Elab.async false
set_option linter.all false
set_option maxRecDepth 100000
set_option maxHeartbeats 4000000
namespace Mir
open PySem PySem.Spec L2

def kf (rs : List TRow) : Nat → Nat → List Nat
  | 0, _ => []
  | s + 1, j => if (rs[rs.length - 1 - s]?).map TRow.up = some j then (rs.length - 1 - s) :: kf rs s j else kf rs s j
def kids (rs : List TRow) (j : Nat) : List Nat := kf rs (rs.length - 1) j
abbrev zs (p : List Nat) : List Int := p.map fun k : Nat => (k : Int)

end Mir
set_option Elab.async false
set_option linter.all false
set_option maxRecDepth 100000
set_option maxHeartbeats 4000000
namespace Mir
open PySem PySem.Spec L2

theorem map_at {α β : Type} {f : α → β} {xs : List α} {i : Nat} {y : β} (h : (xs.map f)[i]? = some y) : ∃ x, xs[i]? = some x ∧ y = f x := by
  rw [List.getElem?_map] at h
  cases e : xs[i]? with
  | none => rw [e] at h; simp at h
  | some x => rw [e] at h; simp at h; exact ⟨x, rfl, h.symm⟩
theorem enumD_at : ∀ (n i : Nat) (ds : List D) (x : D), (enumD n ds)[i]? = some x → ∃ d, ds[i]? = some d ∧ x = .tuple [.int ((n + i : Nat) : Int), d]
  | n, i, [], x, h => by simp [enumD] at h
  | n, 0, d :: ds, x, h => by simp [enumD] at h; exact ⟨d, rfl, by simp [h]⟩
  | n, i + 1, d :: ds, x, h => by
    obtain ⟨e, h1, h2⟩ := enumD_at (n + 1) i ds x (by simpa [enumD] using h)
    exact ⟨e, by simpa using h1, by rw [h2]; congr 3; congr 1; omega⟩
theorem unDs_of {α : Type} (f : α → D) (xs : List α) : shD (.l (xs.map fun x => Ow.d (f x))) = .ok (.list (xs.map f)) := by
  have : (xs.map fun x => Ow.d (f x)) = (xs.map f).map Ow.d := by rw [List.map_map]; rfl
  rw [this, shD_l]
theorem viewAll_of {α : Type} (f : α → D) (xs : List α) : viewAll (xs.map fun x => Ow.d (f x)) = xs.map f := by
  rw [viewAll_map, List.map_map]
  rfl
theorem viewD_of {α : Type} (f : α → D) (xs : List α) : viewD (.l (xs.map fun x => Ow.d (f x))) = .list (xs.map f) := by
  rw [viewD_l, viewAll_of]
theorem str_len (z : Str) : z.length = z.cps.toList.length := by first | rfl | simp [Str.length]
theorem gDiv_small {i j : Int} (h1 : 0 < j) (h2 : j.natAbs < 2 ^ 250) : gDiv (.int i) (.int j) = some (.int (i / j)) := by
  refine gDiv_int ⟨h1, ?_⟩
  have := (Nat.log2_lt (n := j.natAbs) (k := 250) (by omega)).mpr h2
  omega
theorem gPow10 (k : Nat) (h : k ≤ 1000) : gPow (.int 10) (.int k) = some (.int (10 ^ k)) := by
  rw [gPow_int ⟨by omega, by omega, by decide⟩]
  simp
theorem cutL_take {α : Type} (xs : List α) (k : Nat) : cutL xs none (some (k : Int)) = xs.take k := by
  unfold cutL
  rw [HT.sIx_none, HT.sIx_nat, List.drop_zero, Nat.sub_zero]
  by_cases h : k ≤ xs.length
  · rw [Nat.min_eq_left h]
  · rw [Nat.min_eq_right (by omega), List.take_of_length_le (Nat.le_refl _), List.take_of_length_le (by omega)]
theorem cutL_drop {α : Type} (xs : List α) (k : Nat) : cutL xs (some (k : Int)) none = xs.drop k := by
  unfold cutL
  rw [HT.sIx_none, HT.sIx_nat]
  by_cases h : k ≤ xs.length
  · rw [Nat.min_eq_left h, List.take_of_length_le (by rw [List.length_drop]; exact Nat.le_refl _)]
  · rw [Nat.min_eq_right (by omega), List.drop_of_length_le (by omega), List.drop_of_length_le (by omega)]
    simp
theorem canAll_of : ∀ ds : List D, (∀ d ∈ ds, d.canLay0 = true) → PyData.canLayAll0 ds = true
  | [], _ => by simp [PyData.canLayAll0]
  | d :: ds, h => by
    rw [PyData.canLayAll0, h d List.mem_cons_self, canAll_of ds fun d hd => h d (List.mem_cons_of_mem _ hd)]
    rfl
theorem depthAll_of {n : Nat} : ∀ ds : List D, (∀ d ∈ ds, d.depth ≤ n) → PyData.depthAll ds ≤ n
  | [], _ => by simp [PyData.depthAll]
  | d :: ds, h => by
    rw [PyData.depthAll]
    have := h d List.mem_cons_self
    have := depthAll_of ds fun d hd => h d (List.mem_cons_of_mem _ hd)
    omega
/-- data that == can be asked of -/
def Nice (d : D) : Prop := d.canLay0 = true ∧ d.depth ≤ 130
theorem gEq_nice {d e : D} (h : Nice d) (g : Nice e) : gEq d e = some (.bool (PyData.eqv d e)) := by
  have z : eqOk d e = true := by unfold eqOk; simp [h.1, h.2, g.1]
  unfold gEq; rw [if_pos (by rw [z, Bool.or_true])]
theorem eqv_self {d : D} (h : Nice d) : PyData.eqv d d = true := SeqAt.eqv_refl d h.1
theorem gEq_self {d : D} (h : Nice d) : gEq d d = some (.bool true) := by rw [gEq_nice h h, eqv_self h]
mutual
def okT : Tr → Prop
  | .mk nm _ bs => PyData.strOk nm = true ∧ bs.length ≤ 1000 ∧ okTs bs
def okTs : List Tr → Prop
  | [] => True
  | b :: bs => okT b ∧ okTs bs
end
abbrev abc : Str := "abcdefghijklmnopqrstuvwxyz"
end Mir
set_option Elab.async false
set_option linter.all false
set_option maxRecDepth 100000
set_option maxHeartbeats 4000000
namespace Mir
open PySem PySem.Spec L2

def tx (l : List Nat) : Str := ⟨l.toArray⟩
@[simp] theorem tx_cps (l : List Nat) : (tx l).cps.toList = l := by simp [tx]
@[simp] theorem tx_len (l : List Nat) : (tx l).length = l.length := by rw [str_len, tx_cps]
theorem tx_of (z : Str) : z = tx z.cps.toList := by
  cases z with
  | mk a => simp [tx]
theorem tx_app (a b : List Nat) : tx a ++ tx b = tx (a ++ b) := by
  show (⟨(tx a).cps ++ (tx b).cps⟩ : Str) = _
  simp [tx]
theorem tx_inj {a b : List Nat} (h : tx a = tx b) : a = b := by
  have := congrArg (fun z : Str => z.cps.toList) h
  simpa using this
theorem gLen_tx (l : List Nat) (h : l.length ≤ 16777216) : gLen [.str (tx l)] = some (.d (.int l.length)) := by
  show (if (tx l).length ≤ sizeLine then some (Ow.d (.int (tx l).length)) else none) = _
  rw [tx_len, if_pos (by rw [sizeLine_eq]; exact h)]
theorem gIx_tx {l : List Nat} {i c : Nat} (h : l[i]? = some c) (hl : l.length ≤ 16777216) : gIx (.str (tx l)) (.int (i : Nat)) = some (.str (tx [c])) := by
  show (if (tx l).length ≤ sizeLine then (atI (tx l).cps.toList (i : Int)).map fun c => PyData.str ⟨#[c]⟩ else none) = _
  rw [tx_len, tx_cps, if_pos (by rw [sizeLine_eq]; exact hl), atI_natD h]
  rfl
theorem atI_last {α : Type} {xs : List α} {x : α} : atI (xs ++ [x]) (-1) = some x := by
  unfold atI ixN
  rw [if_neg (by decide)]
  have : -((xs ++ [x]).length : Int) ≤ -1 := by rw [List.length_append, List.length_singleton]; omega
  rw [if_pos this]
  have e : (-1 + ((xs ++ [x]).length : Int)).toNat = xs.length := by rw [List.length_append, List.length_singleton]; omega
  show (xs ++ [x])[(-1 + ((xs ++ [x]).length : Int)).toNat]? = _
  rw [e, List.getElem?_append_right (Nat.le_refl _)]
  simp
theorem gIx_last {l : List Nat} {c : Nat} (hl : l.length < 16777216) : gIx (.str (tx (l ++ [c]))) (.int (-1)) = some (.str (tx [c])) := by
  show (if (tx (l ++ [c])).length ≤ sizeLine then (atI (tx (l ++ [c])).cps.toList (-1)).map fun c => PyData.str ⟨#[c]⟩ else none) = _
  rw [tx_len, tx_cps, if_pos (by rw [sizeLine_eq]; simp; omega), atI_last]
  rfl
def inS (c : Nat) (z : Str) : Bool := decide (c ∈ z.cps.toList)
theorem gIn_tx (c : Nat) (z : Str) : gIn (.str (tx [c])) (.str z) = some (.bool (inS c z)) := gIn_sign c z
theorem gEq_tx (a b : List Nat) : gEq (.str (tx a)) (.str (tx b)) = some (.bool (decide (a = b))) := by
  have : PyData.eqv (.str (tx a)) (.str (tx b)) = decide (a = b) := by
    show (tx a == tx b) = _
    by_cases h : a = b
    · subst h; simp
    · rw [decide_eq_false h]
      exact beq_eq_false_iff_ne.mpr fun e => h (tx_inj e)
  show some (PyData.bool (PyData.eqv (.str (tx a)) (.str (tx b)))) = _
  rw [this]
theorem gSl_tx {l : List Nat} {i j : Nat} (h : j ≤ l.length) (hi : i ≤ j) (hl : l.length ≤ 16777216) : gSl (.str (tx l)) (some (i : Int)) (some (j : Int)) = some (.d (.str (tx ((l.drop i).take (j - i))))) := by
  show (if (tx l).length ≤ sizeLine then some (Ow.d (.str (cutS (tx l) (some (i : Int)) (some (j : Int))))) else none) = _
  rw [tx_len, if_pos (by rw [sizeLine_eq]; exact hl)]
  unfold cutS
  rw [tx_len, tx_cps, HT.sIx_nat, HT.sIx_nat, Nat.min_eq_left h, Nat.min_eq_left (by omega)]
  rfl
theorem gAdd_tx {a b : List Nat} (h : a.length + b.length ≤ 16777216) : gAdd (.str (tx a)) (.str (tx b)) = some (.d (.str (tx (a ++ b)))) := by
  rw [gAdd_str (by rw [tx_len, tx_len, sizeLine_eq]; exact h), tx_app]
def isL (c : Nat) : Bool := decide (97 ≤ c) && decide (c ≤ 122)
def isF (c : Nat) : Bool := decide (48 ≤ c) && decide (c ≤ 57)
def sigs : List Nat := [40, 41, 59, 58, 61, 124, 42]
theorem abc_is : abc.cps.toList = (List.range 26).map (fun k => 97 + k) := by decide +kernel
theorem mem_abc (c : Nat) : decide (c ∈ abc.cps.toList) = isL c := by
  rw [abc_is]
  unfold isL
  by_cases h : 97 ≤ c ∧ c ≤ 122
  · rw [decide_eq_true (List.mem_map.mpr ⟨c - 97, List.mem_range.mpr (by omega), by omega⟩)]
    simp [h]
  · rw [decide_eq_false fun z => ?_]
    · by_cases h1 : 97 ≤ c
      · have : ¬ c ≤ 122 := fun q => h ⟨h1, q⟩
        simp [h1, this]
      · simp [h1]
    · obtain ⟨k, hk, e⟩ := List.mem_map.mp z
      rw [List.mem_range] at hk
      exact h ⟨by omega, by omega⟩
abbrev figs : Str := "0123456789"
theorem figs_is : figs.cps.toList = (List.range 10).map (fun k => 48 + k) := by decide +kernel
theorem mem_figs (c : Nat) : decide (c ∈ figs.cps.toList) = isF c := by
  rw [figs_is]
  unfold isF
  by_cases h : 48 ≤ c ∧ c ≤ 57
  · rw [decide_eq_true (List.mem_map.mpr ⟨c - 48, List.mem_range.mpr (by omega), by omega⟩)]
    simp [h]
  · rw [decide_eq_false fun z => ?_]
    · by_cases h1 : 48 ≤ c
      · have : ¬ c ≤ 57 := fun q => h ⟨h1, q⟩
        simp [h1, this]
      · simp [h1]
    · obtain ⟨k, hk, e⟩ := List.mem_map.mp z
      rw [List.mem_range] at hk
      exact h ⟨by omega, by omega⟩
theorem sigs_is : (Str.ofString "();:=|*").cps.toList = sigs := by decide +kernel
theorem sp_is : (Str.ofString " ") = tx [32] := by rw [tx_of (Str.ofString " ")]; congr 1
theorem minus_is : (Str.ofString "-") = tx [45] := by rw [tx_of (Str.ofString "-")]; congr 1
theorem nought_is : (Str.ofString "0") = tx [48] := by rw [tx_of (Str.ofString "0")]; congr 1
theorem empty_is : (Str.ofString "") = tx [] := by rw [tx_of (Str.ofString "")]; congr 1

theorem numL_head : ∀ n : Nat, 1 ≤ n → ∃ c r, TL.numL n = c :: r ∧ c ≠ 48 := by
  intro n
  induction n using Nat.strongRecOn with
  | _ n ih =>
    intro h
    by_cases h1 : n < 10
    · rw [TL.numL_lt h1]
      exact ⟨48 + n, [], rfl, by omega⟩
    · rw [TL.numL_step (by omega)]
      obtain ⟨c, r, e, ne⟩ := ih (n / 10) (by omega) (by omega)
      rw [e]
      exact ⟨c, r ++ [48 + n % 10], rfl, ne⟩
theorem numL_zero : TL.numL 0 = [48] := TL.numL_lt (by decide)
theorem numL_isF (n : Nat) : ∀ c ∈ TL.numL n, isF c = true := fun c hc => by
  have := TL.numL_digits n c hc
  unfold isF
  simp [this.1, this.2]
theorem num_tx (n : Nat) : Str.ofString (toString ((n : Nat) : Int)) = tx (TL.numL n) := by
  rw [tx_of (Str.ofString (toString ((n : Nat) : Int)))]
  congr 1
  exact TL.tl_num n
theorem neg_tx (n : Nat) : Str.ofString (toString (Int.negSucc n)) = tx (45 :: TL.numL (n + 1)) := by
  have e : toString (Int.negSucc n) = "-" ++ toString ((n + 1 : Nat) : Int) := rfl
  have h : (toString ((n + 1 : Nat) : Int)).toList.map Char.toNat = TL.numL (n + 1) := by
    have := TL.tl_num (n + 1)
    rw [Str.ofString_eq_toList] at this
    simpa [TL.tl] using this
  rw [e, Str.ofString_eq_toList, String.toList_append, List.map_append, h]
  rfl
theorem inS_abc (c : Nat) : inS c abc = isL c := mem_abc c
theorem inS_figs (c : Nat) : inS c figs = isF c := mem_figs c
theorem inS_sigs (c : Nat) : inS c (Str.ofString "();:=|*") = decide (c ∈ sigs) := by unfold inS; rw [sigs_is]
end Mir
set_option Elab.async false
set_option linter.all false
set_option maxRecDepth 100000
set_option maxHeartbeats 4000000
namespace Mir
open PySem PySem.Spec L2
theorem abc_ix {k : Nat} (hk : k < 26) : gIx (.str abc) (.int (k : Int)) = some (.str (tx [97 + k])) := by
  rw [tx_of abc, abc_is]
  refine gIx_tx ?_ (by simp)
  rw [List.getElem?_map, List.getElem?_range hk]
  rfl
theorem strOk_tx {l : List Nat} (h : ∀ c ∈ l, c < 1000) : PyData.strOk (tx l) = true := by
  unfold PyData.strOk
  simp only [tx, List.all_toArray, List.all_eq_true, decide_eq_true_eq]
  intro c hc
  have := h c hc
  omega
theorem isL_small {c : Nat} (h : isL c = true) : c < 1000 := by
  unfold isL at h
  simp only [Bool.and_eq_true, decide_eq_true_eq] at h
  omega
theorem log2_lt_of {n k : Nat} (h : n < 2 ^ k) (hk : 0 < k) : n.log2 < k := by
  by_cases e : n = 0
  · subst e; rw [show Nat.log2 0 = 0 from by decide]; exact hk
  · exact (Nat.log2_lt e).mpr h
theorem gStr_nat {n : Nat} (h : n < 2 ^ 1000) : gStr [.int (n : Nat)] = some (.d (.str (tx (TL.numL n)))) := by
  have : (Int.natAbs (n : Int)).log2 < 1920 := by
    rw [Int.natAbs_natCast]
    have := log2_lt_of h (by decide)
    omega
  show (if (Int.natAbs (n : Int)).log2 < 1920 then some (Ow.d (PyData.str (Str.ofString (toString (n : Int))))) else none) = _
  rw [if_pos this, num_tx]
theorem gStr_neg {n : Nat} (h : n + 1 < 2 ^ 1000) : gStr [.int (Int.negSucc n)] = some (.d (.str (tx (45 :: TL.numL (n + 1))))) := by
  have : (Int.negSucc n).natAbs.log2 < 1920 := by
    show (n + 1).log2 < 1920
    have := log2_lt_of h (by decide)
    omega
  show (if (Int.negSucc n).natAbs.log2 < 1920 then some (Ow.d (PyData.str (Str.ofString (toString (Int.negSucc n))))) else none) = _
  rw [if_pos this, neg_tx]
end Mir
set_option Elab.async false
set_option linter.all false
set_option maxRecDepth 100000
set_option maxHeartbeats 4000000
namespace Mir
open PySem PySem.Spec L2

inductive Trm where
  | call (m b : Int)
  | put (nm : Str) (kp : Bool) (ad : Int) (ps : List Trm)
mutual
def encM : Trm → D
  | .call m b => .tuple [.str "call", .int m, .int b]
  | .put nm kp ad ps => .tuple [.str "put", .str nm, .bool kp, .int ad, .tuple (encMs ps)]
def encMs : List Trm → List D
  | [] => []
  | p :: ps => encM p :: encMs ps
end
mutual
def sizeM : Trm → Nat
  | .call _ _ => 1
  | .put _ _ _ ps => 1 + sizeMs ps
def sizeMs : List Trm → Nat
  | [] => 0
  | p :: ps => sizeM p + sizeMs ps
end
mutual
def levM : Trm → Nat
  | .call _ _ => 1
  | .put _ _ _ ps => levMs ps + 1
def levMs : List Trm → Nat
  | [] => 0
  | p :: ps => max (levM p) (levMs ps)
end
mutual
def callsM : Trm → List (Int × Int)
  | .call m b => [(m, b)]
  | .put _ _ _ ps => callsMs ps
def callsMs : List Trm → List (Int × Int)
  | [] => []
  | p :: ps => callsM p ++ callsMs ps
end
mutual
def okM : Trm → Prop
  | .call _ _ => True
  | .put nm _ _ ps => PyData.strOk nm = true ∧ ps.length ≤ 1000 ∧ okMs ps
def okMs : List Trm → Prop
  | [] => True
  | p :: ps => okM p ∧ okMs ps
end
theorem encMs_map : ∀ ps : List Trm, encMs ps = ps.map encM
  | [] => by rw [encMs]; rfl
  | p :: ps => by rw [encMs, encMs_map ps]; rfl
theorem callsMs_flat : ∀ ps : List Trm, callsMs ps = (ps.map callsM).flatten
  | [] => by rw [callsMs]; rfl
  | p :: ps => by rw [callsMs, callsMs_flat ps]; rfl
theorem okMs_iff : ∀ ps : List Trm, okMs ps ↔ ∀ p ∈ ps, okM p
  | [] => by simp [okMs]
  | p :: ps => by rw [okMs, okMs_iff ps]; simp
theorem encM_call (m b : Int) : encM (.call m b) = .tuple [.str "call", .int m, .int b] := by rw [encM]
theorem encM_put (nm : Str) (kp : Bool) (ad : Int) (ps : List Trm) : encM (.put nm kp ad ps) = .tuple [.str "put", .str nm, .bool kp, .int ad, .tuple (ps.map encM)] := by rw [encM, encMs_map]
theorem levMs_le {n : Nat} : ∀ {ps : List Trm}, levMs ps ≤ n → ∀ p ∈ ps, levM p ≤ n
  | [], _, b, h => by simp at h
  | c :: ps, h, b, hb => by
    rw [levMs] at h
    rcases List.mem_cons.mp hb with e | e
    · subst e; omega
    · exact levMs_le (by omega) b e
mutual
theorem can_encM : ∀ t : Trm, okM t → (encM t).canLay0 = true
  | .call m b, _ => by
    rw [encM, PyData.canLay0]
    have : PyData.strOk "call" = true := by decide +kernel
    simp [PyData.canLayAll0, PyData.canLay0, this]
  | .put nm kp ad ps, h => by
    rw [okM] at h
    rw [encM, PyData.canLay0]
    have : PyData.strOk "put" = true := by decide +kernel
    simp [PyData.canLayAll0, PyData.canLay0, this, h.1, can_encMs ps h.2.2]
theorem can_encMs : ∀ ps : List Trm, okMs ps → PyData.canLayAll0 (encMs ps) = true
  | [], _ => by simp [encMs, PyData.canLayAll0]
  | p :: ps, h => by
    rw [okMs] at h
    rw [encMs, PyData.canLayAll0, can_encM p h.1, can_encMs ps h.2]
    rfl
end
mutual
theorem depth_encM : ∀ t : Trm, (encM t).depth ≤ 2 * levM t
  | .call m b => by rw [encM, levM]; simp [PyData.depth, PyData.depthAll]
  | .put nm kp ad ps => by
    rw [encM, levM]
    have := depth_encMs ps
    simp only [PyData.depth, PyData.depthAll]
    omega
theorem depth_encMs : ∀ ps : List Trm, PyData.depthAll (encMs ps) ≤ 2 * levMs ps
  | [] => by simp [encMs, PyData.depthAll]
  | p :: ps => by
    rw [encMs, PyData.depthAll, levMs]
    have := depth_encM p
    have := depth_encMs ps
    omega
end
theorem str_eqv (a b : Str) : PyData.eqv (.str a) (.str b) = (a == b) := rfl
theorem gEq_strs (a b : String) : gEq (.str (Str.ofString a)) (.str (Str.ofString b)) = some (.bool (PyData.eqv (.str (Str.ofString a)) (.str (Str.ofString b)))) := rfl
@[simp] theorem gEq_cc : gEq (.str (Str.ofString "call")) (.str (Str.ofString "call")) = some (.bool true) := by
  have h : (Str.ofString "call" == Str.ofString "call") = true := by decide +kernel
  rw [gEq_strs, str_eqv, h]
@[simp] theorem gEq_pc : gEq (.str (Str.ofString "put")) (.str (Str.ofString "call")) = some (.bool false) := by
  have h : (Str.ofString "put" == Str.ofString "call") = false := by decide +kernel
  rw [gEq_strs, str_eqv, h]
@[simp] theorem gEq_cp : gEq (.str (Str.ofString "call")) (.str (Str.ofString "put")) = some (.bool false) := by
  have h : (Str.ofString "call" == Str.ofString "put") = false := by decide +kernel
  rw [gEq_strs, str_eqv, h]
@[simp] theorem gEq_pp : gEq (.str (Str.ofString "put")) (.str (Str.ofString "put")) = some (.bool true) := by
  have h : (Str.ofString "put" == Str.ofString "put") = true := by decide +kernel
  rw [gEq_strs, str_eqv, h]
theorem lcR_map {α : Type} {g : D → Ev → Option Ev} {c : Ev → R Bool} {e : Ev → R Ow} {env : Ev} (enc : α → D) (out : α → Ow) : ∀ xs : List α, (∀ a ∈ xs, ∃ env1, g (enc a) env = some env1 ∧ c env1 = .ok true ∧ e env1 = .ok (out a)) → lcR g c e env (xs.map enc) = .ok (xs.map out)
  | [], _ => rfl
  | a :: xs, q => by
    obtain ⟨env1, q1, q2, q3⟩ := q a List.mem_cons_self
    rw [List.map_cons]
    unfold lcR
    rw [q1]
    simp only [q2, q3, noEx_ok, R.bind_ok, if_true]
    rw [lcR_map enc out xs fun d hd => q d (List.mem_cons_of_mem _ hd)]
    rfl
theorem forL_map {α : Type} {g : D → Ev → Option Ev} {f : Ev → SR} (enc : α → D) (xs : List α) (I : Nat → Ev → Prop) (step : ∀ i a env, xs[i]? = some a → I i env → ∃ env1, g (enc a) env = some env1 ∧ ∃ env2, (f env1 = .nx env2 ∨ f env1 = .ct env2) ∧ I (i + 1) env2) (env : Ev) (h : I 0 env) : ∃ env', forL g f (xs.map enc) env = .nx env' ∧ I xs.length env' := by
  have := forL_ind (g := g) (f := f) (xs.map enc) I (fun i d env hd hi => by
    obtain ⟨a, ha, rfl⟩ := map_at hd
    exact step i a env ha hi) env h
  rwa [List.length_map] at this
noncomputable section
abbrev bCalls (f : List D → R Ow) : Ev → SR :=
    (sSeq (sIf (eB (eBin gEq (eBin gIx (eVar 0) (eC (.int 0))) (eC (.str "call"))) asB)
    (sRet (eLst (aCons (eTup (aCons (eBin gIx (eVar 0) (eC (.int 1))) (aCons (eBin gIx (eVar 0) (eC (.int 2))) aNil))) aNil)))
    sSkip)
    (sSeq (sSet 1 (eLst aNil))
    (sSeq (sFor (eB (eBin gIx (eVar 0) (eC (.int 4))) itD) (gtName 2)
    (sExt 1 (eB (eB (aCons (eVar 2) aNil) f) shD)))
    (sRetV 1))))
theorem calls_call (f : List D → R Ow) (m b : Int) : finR (bCalls f (envOf 2 [encM (.call m b)])) = .ok (.l [.d (.tuple [.int m, .int b])]) := by
  rw [encM_call]
  simp [sizeLine_eq]
def encC (c : Int × Int) : D := .tuple [.int c.1, .int c.2]
abbrev encCs (cs : List (Int × Int)) : Ow := .l (cs.map fun c => .d (encC c))
theorem callsMs_take {ps : List Trm} {i : Nat} {p : Trm} (h : ps[i]? = some p) : callsMs (ps.take (i + 1)) = callsMs (ps.take i) ++ callsM p := by
  rw [callsMs_flat, callsMs_flat, List.take_add_one, h]
  simp
theorem callsMs_len {ps : List Trm} (i : Nat) : (callsMs (ps.take i)).length ≤ (callsMs ps).length := by
  rw [callsMs_flat, callsMs_flat]
  conv => rhs; rw [← List.take_append_drop i ps, List.map_append, List.flatten_append, List.length_append]
  exact Nat.le_add_right _ _
theorem calls_put (f : List D → R Ow) {nm : Str} {kp : Bool} {ad : Int} {ps : List Trm} (hl : (callsMs ps).length ≤ 1000) (h : ∀ p ∈ ps, f [encM p] = .ok (encCs (callsM p))) : finR (bCalls f (envOf 2 [encM (.put nm kp ad ps)])) = .ok (encCs (callsM (.put nm kp ad ps))) := by
  have key := forL_map (g := gtName 2) (f := sExt 1 (eB (eB (aCons (eVar 2) aNil) f) shD)) encM ps
    (fun i env => ∃ x, env = [some (.d (encM (.put nm kp ad ps))), some (encCs (callsMs (ps.take i))), x]) (fun i p env hp ⟨x, he⟩ => by
      subst he
      refine ⟨_, rfl, [some (.d (encM (.put nm kp ad ps))), some (encCs (callsMs (ps.take (i + 1)))), some (.d (encM p))], .inl ?_, _, rfl⟩
      have hm := h p (List.mem_of_getElem? hp)
      have l1 := callsMs_len (ps := ps) (i + 1)
      rw [callsMs_take hp] at l1 ⊢
      have sh := unDs_of encC (callsM p)
      rw [List.length_append] at l1
      have l2 : (callsMs (ps.take i)).length + (callsM p).length ≤ 16777216 := by omega
      simp [hm, sh, l2, sizeLine_eq, asL]) [some (.d (encM (.put nm kp ad ps))), some (.l []), none] ⟨none, by simp [callsMs]⟩
  obtain ⟨env', e1, x, e2⟩ := key
  subst e2
  rw [List.take_length] at e1
  have e0 : gIx (encM (.put nm kp ad ps)) (.int 0) = some (.str "put") := by rw [encM_put]; simp
  have e4 : gIx (encM (.put nm kp ad ps)) (.int 4) = some (.tuple (ps.map encM)) := by rw [encM_put]; simp
  rw [callsM]
  simp [e0, e4, sizeLine_eq, e1, sRetV]
end
end Mir
set_option Elab.async false
set_option linter.all false
set_option maxRecDepth 100000
set_option maxHeartbeats 4000000
namespace Mir
open PySem PySem.Spec L2

def mar : Tr → Int
  | .mk _ k _ => k

end Mir
set_option Elab.async false
set_option linter.all false
set_option maxRecDepth 100000
set_option maxHeartbeats 4000000
namespace Mir
open PySem PySem.Spec L2
def ik : Int → List Nat
  | .ofNat n => TL.numL n
  | .negSucc n => 45 :: TL.numL (n + 1)
theorem gStr_ik {k : Int} (h : k.natAbs < 2 ^ 1000) : gStr [.int k] = some (.d (.str (tx (ik k)))) := by
  cases k with
  | ofNat n => exact gStr_nat h
  | negSucc n => exact gStr_neg h
theorem gInt_ik {k : Int} (h : (ik k).length ≤ 640) : gInt [.str (tx (ik k))] = some (.d (.int k)) := by
  show (if (tx (ik k)).length ≤ 640 then (intText? (tx (ik k))).map fun n => Ow.d (.int n) else none) = _
  rw [if_pos (by rw [tx_len]; exact h)]
  have e : intText? (tx (ik k)) = some k := by
    cases k with
    | ofNat n =>
      have := PySem.intText_digits (x := tx (ik (.ofNat n))) (by rw [tx_cps]; exact TL.numL_digits n) (by rw [tx_cps]; exact TL.numL_ne n) (by rw [tx_len]; omega)
      rw [this, tx_cps]
      show some ((NumText.digitsVal (TL.numL n) : Nat) : Int) = _
      rw [TL.numL_val]
      rfl
    | negSucc n =>
      have := PySem.intText_neg (x := tx (ik (.negSucc n))) (cs := TL.numL (n + 1)) (by rw [tx_cps]; rfl) (TL.numL_digits _) (TL.numL_ne _) (by rw [tx_len]; omega)
      rw [this, TL.numL_val]
      congr 1
  rw [e]
  rfl
theorem ik_len {k : Int} (h : k.natAbs < 10 ^ 60) : (ik k).length ≤ 61 := by
  cases k with
  | ofNat n => have := TL.numL_len (n := n) (k := 60) (by decide) h; show (TL.numL n).length ≤ 61; omega
  | negSucc n => have := TL.numL_len (n := n + 1) (k := 60) (by decide) h; show (45 :: TL.numL (n + 1)).length ≤ 61; simp; omega
/-- it ends with a figure, it begins with a figure or - -/
theorem ik_last (k : Int) : ∃ p x, ik k = p ++ [x] ∧ isF x = true := by
  have fl : ∀ n, ∃ p x, TL.numL n = p ++ [x] ∧ isF x = true := fun n => by
    rcases List.eq_nil_or_concat (TL.numL n) with e | ⟨p, x, e⟩
    · exact absurd e (TL.numL_ne n)
    · rw [List.concat_eq_append] at e
      exact ⟨p, x, e, numL_isF n x (by rw [e]; simp)⟩
  cases k with
  | ofNat n => exact fl n
  | negSucc n =>
    obtain ⟨p, x, e, h⟩ := fl (n + 1)
    exact ⟨45 :: p, x, by show 45 :: TL.numL (n + 1) = _; rw [e]; rfl, h⟩
theorem ik_head (k : Int) : ∃ c r, ik k = c :: r ∧ (isF c = true ∨ c = 45) := by
  cases k with
  | ofNat n =>
    cases e : TL.numL n with
    | nil => exact absurd e (TL.numL_ne n)
    | cons c r => exact ⟨c, r, e, .inl (numL_isF n c (by rw [e]; simp))⟩
  | negSucc n => exact ⟨45, TL.numL (n + 1), rfl, .inr rfl⟩
/-- a tree laid out: name, mark, blanks ahead of its mark (where it is told), ahead of (, behind it, between, ahead of ) -/
inductive LN where
  | mk (nm : List Nat) (k : Int) (mb : Option Nat) (o i g c : Nat) (bs : List LN)
def brw : List (List Nat) → List (List Nat)
  | [] => []
  | s :: ss => [40] :: (s :: ss ++ [[41]])
end Mir
set_option Elab.async false
set_option linter.all false
set_option maxRecDepth 100000
set_option maxHeartbeats 4000000
namespace Mir
open PySem PySem.Spec L2
abbrev Wo := List Nat
open Classical in
noncomputable section
end
end Mir
set_option Elab.async false
set_option linter.all false
set_option maxRecDepth 100000
set_option maxHeartbeats 4000000
namespace Mir
open PySem PySem.Spec L2
def glue (s : List Nat) : List (List Nat) → List Nat
  | [] => []
  | a :: r => a ++ (r.map fun b => s ++ b).flatten
theorem foldl_glue (s : List Nat) : ∀ (r : List (List Nat)) (a : Array Nat), (r.map tx).foldl (fun acc p => acc ++ (tx s).cps ++ p.cps) a = ⟨a.toList ++ (r.map fun b => s ++ b).flatten⟩
  | [], a => by simp
  | b :: r, a => by
    rw [List.map_cons, List.foldl_cons, foldl_glue s r]
    simp [tx]
theorem join_tx (s : List Nat) (l : List (List Nat)) : Txt.join (tx s) (l.map tx) = tx (glue s l) := by
  show Builtin.Str.glued _ _ = _
  rw [PySem.StrLaws.glued_eq_join]
  cases l with
  | nil => rfl
  | cons a r =>
    rw [List.map_cons, ← PySem.StrLaws.glued_cons, foldl_glue]
    simp [glue, tx]
theorem sum_len (l : List (List Nat)) : ((l.map tx).map fun x : Str => x.length).sum = (l.map List.length).sum := by
  rw [List.map_map]
  congr 1
theorem gJoin_tx (s : List Nat) (l : List (List Nat)) (h : (l.map List.length).sum + l.length * s.length ≤ 16777216) : gJoin (.str (tx s)) (.list (l.map fun w => .str (tx w))) = some (.str (tx (glue s l))) := by
  have e : (l.map fun w => PyData.str (tx w)) = (l.map tx).map PyData.str := by rw [List.map_map]; rfl
  rw [e, gJoin_list (by rw [sum_len, List.length_map, tx_len]; exact h), join_tx]
end Mir
set_option Elab.async false
set_option linter.all false
set_option maxRecDepth 100000
set_option maxHeartbeats 4000000
namespace Mir
open PySem PySem.Spec L2

abbrev dkD (dk : List Int) : D := .list (dk.map PyData.int)
/-- what a deck's def tells: r, and the deck behind it -/
abbrev tells (r : D) (dk : List Int) : R Ow := .ok (.d (.tuple [r, dkD dk]))
noncomputable section
/-- a def that draws a number below most -/
def Draws (fd : List D → R Ow) : Prop := ∀ (dk : List Int) (most : Int), 0 < most → ∃ r dk', 0 ≤ r ∧ r < most ∧ fd (dkD dk :: [.int most]) = tells (.int r) dk'
theorem intsD_ints : ∀ ns : List Int, intsD (ns.map PyData.int) = some ns
  | [] => rfl
  | n :: ns => by rw [List.map_cons]; unfold intsD; rw [intsD_ints ns]; rfl
end
end Mir
set_option Elab.async false
set_option linter.all false
set_option maxRecDepth 100000
set_option maxHeartbeats 4000000
namespace Mir
open PySem PySem.Spec L2
noncomputable section
end
end Mir
set_option Elab.async false
set_option linter.all false
set_option maxRecDepth 100000
set_option maxHeartbeats 4000000
namespace Mir
open PySem PySem.Spec L2

inductive Stp where
  | op
  | put (nm : Str) (k : Int) (ps : List Stp)
mutual
def encS : Stp → D
  | .op => .tuple [.str "open"]
  | .put nm k ps => .tuple [.str "put", .str nm, .int k, .tuple (encSs ps)]
def encSs : List Stp → List D
  | [] => []
  | p :: ps => encS p :: encSs ps
end

@[simp] theorem gNe_str (a b : Str) : gNe (.str a) (.str b) = some (.bool (!(a == b))) := rfl
@[simp] theorem gEq_oo : gEq (.str (Str.ofString "open")) (.str (Str.ofString "open")) = some (.bool true) := by
  have h : (Str.ofString "open" == Str.ofString "open") = true := by decide +kernel
  rw [gEq_strs, str_eqv, h]
@[simp] theorem gEq_po : gEq (.str (Str.ofString "put")) (.str (Str.ofString "open")) = some (.bool false) := by
  have h : (Str.ofString "put" == Str.ofString "open") = false := by decide +kernel
  rw [gEq_strs, str_eqv, h]
@[simp] theorem gIsi_str_str (z : Str) : gIsi "str" (.str z) = .ok (.bool true) := rfl
@[simp] theorem gIsi_bool_bool (b : Bool) : gIsi "bool" (.bool b) = .ok (.bool true) := rfl
section
variable (nm : Str) (k : Int) (ps : List Stp) (bs : List Tr)
end
noncomputable section
end
end Mir
set_option Elab.async false
set_option linter.all false
set_option maxRecDepth 100000
set_option maxHeartbeats 4000000
namespace Mir
open PySem PySem.Spec L2
noncomputable section
end
end Mir
set_option Elab.async false
set_option linter.all false
set_option maxRecDepth 100000
set_option maxHeartbeats 4000000
namespace Mir
open PySem PySem.Spec L2
mutual
def met : Stp → Stp → Stp
  | .op, _ => .op
  | .put nm k ps, o => match o with
    | .op => .op
    | .put nm' k' qs => bif (nm == nm') && ((k == k') && (ps.length == qs.length)) then .put nm k (mets ps qs) else .op
def mets : List Stp → List Stp → List Stp
  | [], _ => []
  | p :: ps, qs => match qs with
    | [] => []
    | q :: qs => met p q :: mets ps qs
end
theorem met_op (o : Stp) : met .op o = .op := by rw [met]
theorem met_op2 (s : Stp) : met s .op = .op := by cases s <;> rw [met]
theorem met_put (nm nm' : Str) (k k' : Int) (ps qs : List Stp) : met (.put nm k ps) (.put nm' k' qs) = bif (nm == nm') && ((k == k') && (ps.length == qs.length)) then .put nm k (mets ps qs) else .op := by rw [met]
theorem met_same (nm : Str) (k : Int) {ps qs : List Stp} (h : ps.length = qs.length) : met (.put nm k ps) (.put nm k qs) = .put nm k (mets ps qs) := by
  rw [met_put]
  simp [h]
theorem met_unlike {nm nm' : Str} {k k' : Int} {ps qs : List Stp} (h : ¬ (nm = nm' ∧ k = k' ∧ ps.length = qs.length)) : met (.put nm k ps) (.put nm' k' qs) = .op := by
  rw [met_put]
  have : ((nm == nm') && ((k == k') && (ps.length == qs.length))) = false := by
    rw [Bool.eq_false_iff]
    intro c
    apply h
    simpa using c
  rw [this]
  rfl
theorem mets_nil (qs : List Stp) : mets [] qs = [] := by rw [mets]
theorem mets_nil2 (ps : List Stp) : mets ps [] = [] := by cases ps <;> rw [mets]
theorem mets_cons (p q : Stp) (ps qs : List Stp) : mets (p :: ps) (q :: qs) = met p q :: mets ps qs := by rw [mets]
theorem mets_zip : ∀ ps qs : List Stp, mets ps qs = List.zipWith met ps qs
  | [], qs => by rw [mets_nil]; rfl
  | p :: ps, [] => by rw [mets_nil2]; rfl
  | p :: ps, q :: qs => by rw [mets_cons, mets_zip ps qs]; rfl
theorem mets_len : ∀ ps qs : List Stp, (mets ps qs).length = min ps.length qs.length := fun ps qs => by rw [mets_zip, List.length_zipWith]
mutual
theorem met_comm : ∀ a b : Stp, met a b = met b a
  | .op, b => by rw [met_op, met_op2]
  | .put nm k ps, .op => by rw [met_op, met_op2]
  | .put nm k ps, .put nm' k' qs => by
    by_cases h : nm = nm' ∧ k = k' ∧ ps.length = qs.length
    · obtain ⟨rfl, rfl, h⟩ := h
      rw [met_same _ _ h, met_same _ _ h.symm, mets_comm ps qs]
    · rw [met_unlike h, met_unlike fun c => h ⟨c.1.symm, c.2.1.symm, c.2.2.symm⟩]
theorem mets_comm : ∀ as bs : List Stp, mets as bs = mets bs as
  | [], bs => by rw [mets_nil, mets_nil2]
  | a :: as, [] => by rw [mets_nil, mets_nil2]
  | a :: as, b :: bs => by rw [mets_cons, mets_cons, met_comm a b, mets_comm as bs]
end
mutual
theorem met_self : ∀ a : Stp, met a a = a
  | .op => by rw [met_op]
  | .put nm k ps => by rw [met_same _ _ rfl, mets_self ps]
theorem mets_self : ∀ as : List Stp, mets as as = as
  | [] => by rw [mets_nil]
  | a :: as => by rw [mets_cons, met_self a, mets_self as]
end
mutual
theorem met_assoc : ∀ a b c : Stp, met (met a b) c = met a (met b c)
  | .op, b, c => by rw [met_op, met_op, met_op]
  | .put nm k ps, .op, c => by rw [met_op2, met_op, met_op2]
  | .put nm k ps, .put nm' k' qs, .op => by rw [met_op2, met_op2, met_op2]
  | .put nm k ps, .put nm' k' qs, .put nm'' k'' rs => by
    by_cases h : nm = nm' ∧ k = k' ∧ ps.length = qs.length
    · obtain ⟨rfl, rfl, h⟩ := h
      rw [met_same _ _ h]
      by_cases g : nm = nm'' ∧ k = k'' ∧ qs.length = rs.length
      · obtain ⟨rfl, rfl, g⟩ := g
        rw [met_same _ _ g, met_same _ _ (by rw [mets_len]; omega), met_same _ _ (by rw [mets_len]; omega), mets_assoc ps qs rs]
      · rw [met_unlike (ps := qs) g, met_op2, met_unlike fun c => g ⟨c.1, c.2.1, by have := c.2.2; rw [mets_len] at this; omega⟩]
    · rw [met_unlike h, met_op]
      by_cases g : nm' = nm'' ∧ k' = k'' ∧ qs.length = rs.length
      · obtain ⟨rfl, rfl, g⟩ := g
        rw [met_same _ _ g, met_unlike fun c => h ⟨c.1, c.2.1, by have := c.2.2; rw [mets_len] at this; omega⟩]
      · rw [met_unlike g, met_op2]
theorem mets_assoc : ∀ as bs cs : List Stp, mets (mets as bs) cs = mets as (mets bs cs)
  | [], bs, cs => by rw [mets_nil, mets_nil, mets_nil]
  | a :: as, [], cs => by rw [mets_nil2, mets_nil, mets_nil2]
  | a :: as, b :: bs, [] => by rw [mets_nil2, mets_nil2, mets_nil2]
  | a :: as, b :: bs, c :: cs => by rw [mets_cons, mets_cons, mets_cons, mets_cons, met_assoc a b c, mets_assoc as bs cs]
end
theorem met_met (a b : Stp) : met (met a b) a = met a b := by rw [met_comm (met a b) a, ← met_assoc, met_self]
theorem zipD_zip {α β : Type} (e1 : α → D) (e2 : β → D) : ∀ (as : List α) (bs : List β), zipD (as.map e1) (bs.map e2) = (as.zip bs).map fun p => .tuple [e1 p.1, e2 p.2]
  | [], bs => by simp
  | a :: as, [] => by simp
  | a :: as, b :: bs => by rw [List.map_cons, List.map_cons, zipD_cons, zipD_zip e1 e2 as bs]; rfl
noncomputable section
end
end Mir
set_option Elab.async false
set_option linter.all false
set_option maxRecDepth 100000
set_option maxHeartbeats 4000000
namespace Mir
open PySem PySem.Spec L2
mutual
def stIn (ss : List Stp) : Trm → Stp
  | .call m _ => ss.getD m.toNat .op
  | .put nm kp ad ps => bif kp then .op else .put nm ad (stIns ss ps)
def stIns (ss : List Stp) : List Trm → List Stp
  | [] => []
  | p :: ps => stIn ss p :: stIns ss ps
end
theorem stIns_map (ss : List Stp) : ∀ ps : List Trm, stIns ss ps = ps.map (stIn ss)
  | [] => by rw [stIns]; rfl
  | p :: ps => by rw [stIns, stIns_map ss ps]; rfl
def metOf : List Stp → Stp
  | [] => .op
  | s :: ss => ss.foldl met s
/-- the one tells no more than the other -/
def leS (a b : Stp) : Prop := met a b = a
theorem leS_refl (a : Stp) : leS a a := met_self a
theorem leS_trans {a b c : Stp} (h : leS a b) (g : leS b c) : leS a c := by
  unfold leS at *
  rw [← h, met_assoc, g]
theorem leS_left (a b : Stp) : leS (met a b) a := met_met a b
theorem leS_right (a b : Stp) : leS (met a b) b := by
  unfold leS
  rw [met_assoc, met_self]
theorem leS_glb {y a b : Stp} (h : leS y a) (g : leS y b) : leS y (met a b) := by
  unfold leS at *
  rw [← met_assoc, h, g]
theorem foldl_le : ∀ (ss : List Stp) (s : Stp), leS (ss.foldl met s) s ∧ ∀ x ∈ ss, leS (ss.foldl met s) x
  | [], s => ⟨leS_refl s, fun x h => by cases h⟩
  | a :: ss, s => by
    rw [List.foldl_cons]
    obtain ⟨h1, h2⟩ := foldl_le ss (met s a)
    refine ⟨leS_trans h1 (leS_left s a), fun x hx => ?_⟩
    rcases List.mem_cons.mp hx with rfl | hx
    · exact leS_trans h1 (leS_right s x)
    · exact h2 x hx
theorem foldl_glb {y : Stp} : ∀ (ss : List Stp) (s : Stp), leS y s → (∀ x ∈ ss, leS y x) → leS y (ss.foldl met s)
  | [], s, h, _ => h
  | a :: ss, s, h, k => by
    rw [List.foldl_cons]
    exact foldl_glb ss (met s a) (leS_glb h (k a List.mem_cons_self)) fun x hx => k x (List.mem_cons_of_mem _ hx)
theorem metOf_le {l : List Stp} {x : Stp} (h : x ∈ l) : leS (metOf l) x := by
  cases l with
  | nil => cases h
  | cons s ss =>
    obtain ⟨h1, h2⟩ := foldl_le ss s
    rcases List.mem_cons.mp h with rfl | h
    · exact h1
    · exact h2 x h
theorem metOf_glb {y : Stp} {l : List Stp} (hl : l ≠ []) (h : ∀ x ∈ l, leS y x) : leS y (metOf l) := by
  cases l with
  | nil => exact absurd rfl hl
  | cons s ss => exact foldl_glb ss s (h s List.mem_cons_self) fun x hx => h x (List.mem_cons_of_mem _ hx)
mutual
def cS : Stp → Nat
  | .op => 0
  | .put _ _ ps => cSs ps + 1
def cSs : List Stp → Nat
  | [] => 0
  | p :: ps => cS p + cSs ps
end
theorem cS_zero {s : Stp} (h : cS s = 0) : s = .op := by
  cases s with
  | op => rfl
  | put nm k ps => rw [cS] at h; omega
mutual
theorem c_met : ∀ a b : Stp, cS (met a b) ≤ cS b ∧ (cS (met a b) = cS b → met a b = b)
  | .op, b => by
    rw [met_op, cS]
    exact ⟨Nat.zero_le _, fun h => (cS_zero h.symm).symm⟩
  | .put nm k ps, .op => by
    rw [met_op2, cS]
    exact ⟨Nat.le_refl _, fun _ => rfl⟩
  | .put nm k ps, .put nm' k' qs => by
    by_cases h : nm = nm' ∧ k = k' ∧ ps.length = qs.length
    · obtain ⟨rfl, rfl, h⟩ := h
      obtain ⟨h1, h2⟩ := cs_mets ps qs h
      rw [met_same _ _ h, cS, cS]
      exact ⟨by omega, fun e => by rw [h2 (by omega)]⟩
    · rw [met_unlike h, cS, cS]
      exact ⟨by omega, fun e => by omega⟩
theorem cs_mets : ∀ as bs : List Stp, as.length = bs.length → cSs (mets as bs) ≤ cSs bs ∧ (cSs (mets as bs) = cSs bs → mets as bs = bs)
  | [], [], _ => by rw [mets_nil]; exact ⟨Nat.le_refl _, fun _ => rfl⟩
  | [], _ :: _, h => by simp at h
  | _ :: _, [], h => by simp at h
  | a :: as, b :: bs, h => by
    obtain ⟨h1, h2⟩ := c_met a b
    obtain ⟨g1, g2⟩ := cs_mets as bs (by simpa using h)
    rw [mets_cons, cSs, cSs]
    exact ⟨by omega, fun e => by rw [h2 (by omega), g2 (by omega)]⟩
end
theorem leS_c {a b : Stp} (h : leS a b) : cS a ≤ cS b ∧ (cS a = cS b → a = b) := by
  have := c_met a b
  rw [h] at this
  exact this
def leT : List Stp → List Stp → Prop
  | [], [] => True
  | a :: as, b :: bs => leS a b ∧ leT as bs
  | _, _ => False
theorem leT_at : ∀ {as bs : List Stp}, leT as bs → ∀ k, leS (as.getD k .op) (bs.getD k .op)
  | [], [], _, k => leS_refl _
  | a :: as, b :: bs, h, 0 => h.1
  | a :: as, b :: bs, h, k + 1 => leT_at h.2 k
  | [], _ :: _, h, _ => h.elim
  | _ :: _, [], h, _ => h.elim
theorem leT_map {α : Type} {f g : α → Stp} : ∀ {l : List α}, (∀ x ∈ l, leS (f x) (g x)) → leT (l.map f) (l.map g)
  | [], _ => trivial
  | x :: l, h => ⟨h x List.mem_cons_self, leT_map fun y hy => h y (List.mem_cons_of_mem _ hy)⟩
theorem leT_c : ∀ {as bs : List Stp}, leT as bs → cSs as ≤ cSs bs ∧ (cSs as = cSs bs → as = bs)
  | [], [], _ => ⟨Nat.le_refl _, fun _ => rfl⟩
  | a :: as, b :: bs, h => by
    obtain ⟨h1, h2⟩ := leS_c h.1
    obtain ⟨g1, g2⟩ := leT_c h.2
    rw [cSs, cSs]
    exact ⟨by omega, fun e => by rw [h2 (by omega), g2 (by omega)]⟩
  | [], _ :: _, h => h.elim
  | _ :: _, [], h => h.elim
mutual
theorem stIn_mono {as bs : List Stp} (h : leT as bs) : ∀ t : Trm, leS (stIn as t) (stIn bs t)
  | .call m b => by rw [stIn, stIn]; exact leT_at h _
  | .put nm kp ad ps => by
    rw [stIn, stIn]
    cases kp with
    | true => exact leS_refl _
    | false =>
      show met (.put nm ad _) (.put nm ad _) = _
      rw [met_same _ _ (by rw [stIns_map, stIns_map, List.length_map, List.length_map]), stIns_mono h ps]
      rfl
theorem stIns_mono {as bs : List Stp} (h : leT as bs) : ∀ ps : List Trm, mets (stIns as ps) (stIns bs ps) = stIns as ps
  | [] => by rw [stIns, mets_nil]
  | p :: ps => by rw [stIns, stIns, mets_cons, stIn_mono h p, stIns_mono h ps]
end
mutual
theorem stIn_calm (as bs : List Stp) : ∀ t : Trm, callsM t = [] → stIn as t = stIn bs t
  | .call m b, h => by rw [callsM] at h; cases h
  | .put nm kp ad ps, h => by
    rw [callsM] at h
    rw [stIn, stIn, stIns_calm as bs ps h]
theorem stIns_calm (as bs : List Stp) : ∀ ps : List Trm, callsMs ps = [] → stIns as ps = stIns bs ps
  | [], _ => by rw [stIns, stIns]
  | p :: ps, h => by
    rw [callsMs, List.append_eq_nil_iff] at h
    rw [stIns, stIns, stIn_calm as bs p h.1, stIns_calm as bs ps h.2]
end
/-- a mode: its rules, and which of them are those of rows without branches -/
structure Md where
  kd : Str
  rls : List (Bool × Trm)
def bares (m : Md) : List Trm := (m.rls.filter (·.1)).map (·.2)
def rulesM (m : Md) : List Trm := m.rls.map (·.2)
def MdOk (m : Md) : Prop := bares m ≠ [] ∧ ∀ t ∈ bares m, callsM t = []
def tab0 (ms : List Md) : List Stp := ms.map fun m => metOf ((bares m).map (stIn []))
def tabN (ms : List Md) (ss : List Stp) : List Stp := ms.map fun m => metOf ((rulesM m).map (stIn ss))
def tab (ms : List Md) : Nat → List Stp
  | 0 => tab0 ms
  | n + 1 => tabN ms (tab ms n)
theorem tabN_mono (ms : List Md) (hm : ∀ m ∈ ms, MdOk m) {as bs : List Stp} (h : leT as bs) : leT (tabN ms as) (tabN ms bs) := by
  refine leT_map fun m hmm => ?_
  have ne : rulesM m ≠ [] := by
    have := (hm m hmm).1
    intro e
    apply this
    unfold bares
    have : m.rls = [] := by unfold rulesM at e; simpa using e
    rw [this]; rfl
  refine metOf_glb (by simpa using ne) fun x hx => ?_
  obtain ⟨t, ht, rfl⟩ := List.mem_map.mp hx
  exact leS_trans (metOf_le (List.mem_map_of_mem ht)) (stIn_mono h t)
theorem tab_first (ms : List Md) (hm : ∀ m ∈ ms, MdOk m) : leT (tab ms 1) (tab ms 0) := by
  refine leT_map fun m hmm => ?_
  obtain ⟨h1, h2⟩ := hm m hmm
  refine metOf_glb (by simpa using h1) fun x hx => ?_
  obtain ⟨t, ht, rfl⟩ := List.mem_map.mp hx
  rw [stIn_calm [] (tab ms 0) t (h2 t ht)]
  refine metOf_le (List.mem_map_of_mem ?_)
  unfold bares at ht
  obtain ⟨p, hp, rfl⟩ := List.mem_map.mp ht
  exact List.mem_map_of_mem (List.mem_filter.mp hp).1
theorem tab_down (ms : List Md) (hm : ∀ m ∈ ms, MdOk m) : ∀ n, leT (tab ms (n + 1)) (tab ms n)
  | 0 => tab_first ms hm
  | n + 1 => tabN_mono ms hm (tab_down ms hm n)
theorem tab_stop (ms : List Md) (hm : ∀ m ∈ ms, MdOk m) : ∃ N, N ≤ cSs (tab ms 0) ∧ tab ms (N + 1) = tab ms N ∧ ∀ i, i < N → tab ms (i + 1) ≠ tab ms i := by
  have step : ∀ n, (∀ i, i < n → tab ms (i + 1) ≠ tab ms i) → cSs (tab ms n) + n ≤ cSs (tab ms 0) := fun n => by
    induction n with
    | zero => intro _; omega
    | succ n ih =>
      intro h
      have a := ih fun i hi => h i (by omega)
      obtain ⟨b, c⟩ := leT_c (tab_down ms hm n)
      have : cSs (tab ms (n + 1)) ≠ cSs (tab ms n) := fun e => h n (by omega) (c e)
      omega
  have ex : ∃ n, tab ms (n + 1) = tab ms n := by
    refine Classical.byContradiction fun no => ?_
    have := step (cSs (tab ms 0) + 1) fun i _ e => no ⟨i, e⟩
    omega
  have least : ∀ n, tab ms (n + 1) = tab ms n → ∃ N, tab ms (N + 1) = tab ms N ∧ ∀ i, i < N → tab ms (i + 1) ≠ tab ms i := fun n => by
    induction n using Nat.strongRecOn with
    | ind n ih =>
      intro h
      by_cases c : ∃ i, i < n ∧ tab ms (i + 1) = tab ms i
      · obtain ⟨i, hi, e⟩ := c
        exact ih i hi e
      · exact ⟨n, h, fun i hi e => c ⟨i, hi, e⟩⟩
  obtain ⟨n, hn⟩ := ex
  obtain ⟨N, h1, h2⟩ := least n hn
  refine ⟨N, ?_, h1, h2⟩
  have := step N h2
  omega
/-- what the tables' stumps are like -/
theorem tab_len (ms : List Md) : ∀ n, (tab ms n).length = ms.length
  | 0 => by show (ms.map _).length = _; rw [List.length_map]
  | n + 1 => by show (ms.map _).length = _; rw [List.length_map]
end Mir
set_option Elab.async false
set_option linter.all false
set_option maxRecDepth 100000
set_option maxHeartbeats 4000000
namespace Mir
open PySem PySem.Spec L2
structure Rw where
  nm : Str
  br : List Str
abbrev Wood := List (Str × List Rw)
def encRw (r : Rw) : D := .tuple [.str r.nm, .tuple (r.br.map PyData.str)]
def encKd (p : Str × List Rw) : D := .tuple [.str p.1, .list (p.2.map encRw)]
def encWd (w : Wood) : D := .list (w.map encKd)
structure Trn where
  wood : Wood
  start : Trm
  modes : List (Str × List Trm)
def encMo (p : Str × List Trm) : D := .tuple [.str p.1, .list (p.2.map encM)]
def encTn (t : Trn) : D := .tuple [encWd t.wood, encM t.start, .list (t.modes.map encMo)]
def rowsOf : Wood → Str → List Rw
  | [], _ => []
  | p :: w, k => bif p.1 == k then p.2 else rowsOf w k
def mdOf (w : Wood) (p : Str × List Trm) : Md := ⟨p.1, List.zipWith (fun (r : Rw) t => (r.br.isEmpty, t)) (rowsOf w p.1) p.2⟩
def mds (t : Trn) : List Md := t.modes.map (mdOf t.wood)
/-- a turning that the drawing makes -/
structure TnOk (t : Trn) : Prop where
  few : t.modes.length ≤ 100
  few1 : 1 ≤ t.modes.length
  rows : ∀ p ∈ t.modes, p.2.length = (rowsOf t.wood p.1).length ∧ p.2.length ≤ 100
  bare : ∀ p ∈ t.modes, MdOk (mdOf t.wood p)
  term : ∀ p ∈ t.modes, ∀ r ∈ p.2, okM r ∧ levM r ≤ 10 ∧ sizeM r ≤ 1000 ∧ ∀ c ∈ callsM r, 0 ≤ c.1 ∧ c.1 < t.modes.length
  names : (∀ p ∈ t.wood, PyData.strOk p.1 = true ∧ p.2.length ≤ 100 ∧ ∀ r ∈ p.2, PyData.strOk r.nm = true ∧ r.br.length ≤ 100 ∧ ∀ b ∈ r.br, PyData.strOk b = true)
  kinds : t.wood.length ≤ 100
  start : okM t.start ∧ levM t.start ≤ 10
theorem gEq_str (a b : Str) : gEq (.str a) (.str b) = some (.bool (a == b)) := rfl
noncomputable section
abbrev rowsB : Ev → SR := (sIf (eB (eBin gEq (eVar 2) (eVar 1)) asB)
    (sRet (eM (eVar 3) Ow.d))
    sSkip)
theorem rows_loop (W0 : D) (k : Str) : ∀ (w : Wood) (x2 x3 : Option Ow), ∃ env', forL (gtTup 2 (gtCons (gtName 2) (gtCons (gtName 3) gtNil))) rowsB (w.map encKd) [some (.d W0), some (.d (.str k)), x2, x3] = if (w.any fun p => p.1 == k) then .rt (.d (.list ((rowsOf w k).map encRw))) env' else .nx env'
  | [], x2, x3 => ⟨[some (.d W0), some (.d (.str k)), x2, x3], by simp [forL]⟩
  | p :: w, x2, x3 => by
    have g : gtTup 2 (gtCons (gtName 2) (gtCons (gtName 3) gtNil)) (encKd p) [some (.d W0), some (.d (.str k)), x2, x3] = some [some (.d W0), some (.d (.str k)), some (.d (.str p.1)), some (.d (.list (p.2.map encRw)))] := rfl
    rw [List.map_cons, forL, g]
    cases c : p.1 == k with
    | true =>
      refine ⟨[some (.d W0), some (.d (.str k)), some (.d (.str p.1)), some (.d (.list (p.2.map encRw)))], ?_⟩
      have e : rowsB [some (.d W0), some (.d (.str k)), some (.d (.str p.1)), some (.d (.list (p.2.map encRw)))] = .rt (.d (.list (p.2.map encRw))) [some (.d W0), some (.d (.str k)), some (.d (.str p.1)), some (.d (.list (p.2.map encRw)))] := by
        generalize PyData.list (p.2.map encRw) = RS
        simp [gEq_str, c]
      simp only [e]
      rw [List.any_cons, c, rowsOf, c]
      rfl
    | false =>
      obtain ⟨env', ih⟩ := rows_loop W0 k w (some (.d (.str p.1))) (some (.d (.list (p.2.map encRw))))
      refine ⟨env', ?_⟩
      have e : rowsB [some (.d W0), some (.d (.str k)), some (.d (.str p.1)), some (.d (.list (p.2.map encRw)))] = .nx [some (.d W0), some (.d (.str k)), some (.d (.str p.1)), some (.d (.list (p.2.map encRw)))] := by
        generalize PyData.list (p.2.map encRw) = RS
        simp [gEq_str, c]
      simp only [e]
      rw [ih, List.any_cons, c, rowsOf, c]
      rfl
abbrev bRowsOf : Ev → SR := (sSeq (sFor (eB (eVar 0) itD) (gtTup 2 (gtCons (gtName 2) (gtCons (gtName 3) gtNil)))
    (sIf (eB (eBin gEq (eVar 2) (eVar 1)) asB)
    (sRet (eM (eVar 3) Ow.d))
    sSkip))
    (sRet (eLst aNil)))
/-- tells these rows, as data or as a list of its own -/
theorem rowsOf_fin (w : Wood) (k : Str) : ∃ o, finR (bRowsOf (envOf 2 [encWd w, .str k])) = .ok o ∧ viewD o = .list ((rowsOf w k).map encRw) := by
  have he : envOf 2 [encWd w, .str k] = [some (.d (encWd w)), some (.d (.str k)), none, none] := rfl
  rw [he]
  obtain ⟨env', lp⟩ := rows_loop (encWd w) k w none none
  have fo : (sFor (eB (eVar 0) itD) (gtTup 2 (gtCons (gtName 2) (gtCons (gtName 3) gtNil))) rowsB) [some (.d (encWd w)), some (.d (.str k)), none, none] = forL (gtTup 2 (gtCons (gtName 2) (gtCons (gtName 3) gtNil))) rowsB (w.map encKd) [some (.d (encWd w)), some (.d (.str k)), none, none] := by
    rw [sFor_eq]
    simp only [eB_eq, eVar_0, R.bind_ok]
    unfold encWd
    simp only [itD_list, R.st_ok]
  cases c : w.any fun p => p.1 == k with
  | true =>
    rw [c, if_pos rfl] at lp
    refine ⟨.d (.list ((rowsOf w k).map encRw)), ?_, viewD_d _⟩
    show finR (sSeq _ _ _) = _
    rw [sSeq_eq, fo, lp]
    rfl
  | false =>
    rw [c, if_neg (by decide)] at lp
    have e : rowsOf w k = [] := by
      have : ∀ w : Wood, (w.any fun p => p.1 == k) = false → rowsOf w k = [] := fun w => by
        induction w with
        | nil => intro _; rfl
        | cons p w ih =>
          intro h
          rw [List.any_cons, Bool.or_eq_false_iff] at h
          rw [rowsOf, h.1, ih h.2]
          rfl
      exact this w c
    refine ⟨.l [], ?_, by rw [e]; simp⟩
    show finR (sSeq _ _ _) = _
    rw [sSeq_eq, fo, lp]
    simp [sizeLine_eq]
section
variable (nm : Str) (kp : Bool) (ad : Int) (ps : List Trm) (m b : Int)
theorem m_ix0 : gIx (encM (.put nm kp ad ps)) (.int 0) = some (.str "put") := by rw [encM_put]; simp
theorem m_ix2 : gIx (encM (.put nm kp ad ps)) (.int 2) = some (.bool kp) := by rw [encM_put]; simp
theorem m_ix4 : gIx (encM (.put nm kp ad ps)) (.int 4) = some (.tuple (ps.map encM)) := by rw [encM_put]; simp
theorem c_ix0 : gIx (encM (.call m b)) (.int 0) = some (.str "call") := by rw [encM_call]; simp
end
def stD (ss : List Stp) : D := .list (ss.map encS)
end
end Mir
set_option Elab.async false
set_option linter.all false
set_option maxRecDepth 100000
set_option maxHeartbeats 4000000
namespace Mir
open PySem PySem.Spec L2
theorem seq_nx {f g : Ev → SR} {env env1 : Ev} {r : SR} (h1 : f env = .nx env1) (h2 : g env1 = r) : sSeq f g env = r := by
  rw [sSeq_eq, h1]
  exact h2
noncomputable section
theorem bares_zip (w : Wood) (p : Str × List Trm) : bares (mdOf w p) = (((rowsOf w p.1).zip p.2).filter fun q => q.1.br.isEmpty).map (·.2) := by
  unfold bares mdOf
  show ((List.zipWith (fun (r : Rw) t => (r.br.isEmpty, t)) (rowsOf w p.1) p.2).filter (·.1)).map (·.2) = _
  generalize rowsOf w p.1 = rs
  generalize p.2 = ts
  induction rs generalizing ts with
  | nil => rfl
  | cons r rs ih =>
    cases ts with
    | nil => rfl
    | cons t ts =>
      rw [List.zipWith_cons_cons, List.zip_cons_cons]
      cases c : r.br.isEmpty with
      | true =>
        rw [List.filter_cons_of_pos (by simp [c]), List.filter_cons_of_pos (by simp [c]), List.map_cons, List.map_cons, ih ts]
      | false =>
        rw [List.filter_cons_of_neg (by simp [c]), List.filter_cons_of_neg (by simp [c]), ih ts]
/-- what the parts promise -/
structure Parts (t : Trn) (f1 f2 f3 : List D → R Ow) : Prop where
  rows : ∀ p ∈ t.modes, ∃ o, f1 [encWd t.wood, .str p.1] = .ok o ∧ viewD o = .list ((rowsOf t.wood p.1).map encRw)
  bare : ∀ p ∈ t.modes, ∀ r ∈ p.2, callsM r = [] → f2 [encM r, .list []] = .ok (.d (encS (stIn [] r)))
  stump : ∀ p ∈ t.modes, ∀ r ∈ p.2, ∀ ss : List Stp, ss.length = t.modes.length → f2 [encM r, stD ss] = .ok (.d (encS (stIn ss r)))
  met0 : ∀ p ∈ t.modes, f3 [stD ((bares (mdOf t.wood p)).map (stIn []))] = .ok (.d (encS (metOf ((bares (mdOf t.wood p)).map (stIn [])))))
  metN : ∀ p ∈ t.modes, ∀ n : Nat, f3 [stD (p.2.map (stIn (tab (mds t) n)))] = .ok (.d (encS (metOf (p.2.map (stIn (tab (mds t) n))))))
end
end Mir
set_option Elab.async false
set_option linter.all false
set_option maxRecDepth 100000
set_option maxHeartbeats 4000000
namespace Mir
open PySem PySem.Spec L2
mutual
theorem stIn_c : ∀ t : Trm, cS (stIn [] t) ≤ sizeM t
  | .call m b => by
    rw [stIn, sizeM]
    show cS .op ≤ 1
    rw [cS]; omega
  | .put nm kp ad ps => by
    rw [stIn, sizeM]
    cases kp with
    | true => show cS .op ≤ _; rw [cS]; omega
    | false =>
      show cS (.put nm ad _) ≤ _
      rw [cS]
      have := stIns_c ps
      omega
theorem stIns_c : ∀ ps : List Trm, cSs (stIns [] ps) ≤ sizeMs ps
  | [] => by rw [stIns, cSs]; omega
  | p :: ps => by
    rw [stIns, sizeMs, cSs]
    have := stIn_c p
    have := stIns_c ps
    omega
end
theorem bares_in {w : Wood} {p : Str × List Trm} : ∀ r ∈ bares (mdOf w p), r ∈ p.2 := fun r hr => by
  rw [bares_zip] at hr
  obtain ⟨q, hq, rfl⟩ := List.mem_map.mp hr
  exact (List.of_mem_zip (List.mem_filter.mp hq).1).2
theorem mds_ok {t : Trn} (ok : TnOk t) : ∀ m ∈ mds t, MdOk m := fun m hm => by
  obtain ⟨p, hp, rfl⟩ := List.mem_map.mp hm
  exact ok.bare p hp
theorem cSs_le {n : Nat} : ∀ {ss : List Stp}, (∀ s ∈ ss, cS s ≤ n) → cSs ss ≤ n * ss.length
  | [], _ => by rw [cSs]; omega
  | s :: ss, h => by
    rw [cSs, List.length_cons, Nat.mul_succ]
    have := h s List.mem_cons_self
    have := cSs_le (n := n) (ss := ss) fun x hx => h x (List.mem_cons_of_mem _ hx)
    omega
noncomputable section
end
end Mir
set_option Elab.async false
set_option linter.all false
set_option maxRecDepth 100000
set_option maxHeartbeats 4000000
namespace Mir
open PySem PySem.Spec L2
noncomputable section
def encCl (c : Int × Int) : D := .tuple [.int c.1, .int c.2]
def caD (cs : List (Int × Int)) : D := .list (cs.map encCl)
mutual
def thinM : Trm → Prop
  | .call _ _ => True
  | .put _ _ _ ps => ps.length ≤ 3 ∧ thinMs ps
def thinMs : List Trm → Prop
  | [] => True
  | p :: ps => thinM p ∧ thinMs ps
end
/-- two parts of one level less, or three of two levels less -/
def fitS : Nat → Trm → Prop
  | _, .call _ _ => True
  | 0, .put _ _ _ ps => ps = []
  | 1, .put _ _ _ ps => ps.length ≤ 3 ∧ ∀ p ∈ ps, fitS 0 p
  | n + 2, .put _ _ _ ps => (ps.length ≤ 2 ∧ ∀ p ∈ ps, fitS (n + 1) p) ∨ (ps.length ≤ 3 ∧ ∀ p ∈ ps, fitS n p)
theorem sizeMs_le' {n m : Nat} : ∀ {bs : List Trm}, bs.length ≤ n → (∀ b ∈ bs, sizeM b ≤ m) → sizeMs bs ≤ n * m
  | [], _, _ => by rw [sizeMs]; omega
  | b :: bs, hl, h => by
    rw [sizeMs]
    obtain ⟨k, rfl⟩ : ∃ k, n = k + 1 := ⟨n - 1, by simp at hl; omega⟩
    have := sizeMs_le' (n := k) (m := m) (bs := bs) (by simp at hl; omega) fun c hc => h c (List.mem_cons_of_mem _ hc)
    have := h b List.mem_cons_self
    rw [Nat.add_mul]
    omega
theorem fitS_0 {t : Trm} (h : fitS 0 t) : sizeM t ≤ 1 := by
  cases t with
  | call m b => rw [sizeM]; omega
  | put nm kp ad ps => rw [fitS] at h; rw [h, sizeM, sizeMs]; omega
theorem fitS_1 {t : Trm} (h : fitS 1 t) : sizeM t ≤ 4 := by
  cases t with
  | call m b => rw [sizeM]; omega
  | put nm kp ad ps =>
    rw [fitS] at h
    have := sizeMs_le' h.1 fun p hp => fitS_0 (h.2 p hp)
    rw [sizeM]
    omega
theorem fitS_2 {t : Trm} (h : fitS 2 t) : sizeM t ≤ 9 := by
  cases t with
  | call m b => rw [sizeM]; omega
  | put nm kp ad ps =>
    rw [fitS] at h
    rw [sizeM]
    rcases h with h | h
    · have := sizeMs_le' h.1 fun p hp => fitS_1 (h.2 p hp)
      omega
    · have := sizeMs_le' h.1 fun p hp => fitS_0 (h.2 p hp)
      omega
def TermIn (cs : List (Int × Int)) (n : Nat) (t : Trm) : Prop := okM t ∧ levM t ≤ n + 1 ∧ fitS n t ∧ (∀ c ∈ callsM t, c ∈ cs) ∧ thinM t
end
end Mir
set_option Elab.async false
set_option linter.all false
set_option maxRecDepth 100000
set_option maxHeartbeats 4000000
namespace Mir
open PySem PySem.Spec L2
noncomputable section
def CallOk (ks bs : List Str) (c : Int × Int) : Prop := ∃ i j : Nat, c = ((i : Int), (j : Int)) ∧ ∃ z, ks[i]? = some z ∧ bs[j]? = some z
def caO (cs : List (Int × Int)) : Ow := .l (cs.map fun c => .d (encCl c))
mutual
def bareM : Trm → Trm
  | .call m b => .call m b
  | .put nm _ ad ps => .put nm false ad (bareMs ps)
def bareMs : List Trm → List Trm
  | [] => []
  | p :: ps => bareM p :: bareMs ps
end
end
end Mir
set_option Elab.async false
set_option linter.all false
set_option maxRecDepth 100000
set_option maxHeartbeats 4000000
namespace Mir
open PySem PySem.Spec L2
def RwOk (w : Nat) (kn : Nat → Str) (r : Rw) : Prop := PyData.strOk r.nm = true ∧ r.br.length ≤ 4 ∧ ∀ z ∈ r.br, ∃ j, j < w ∧ z = kn j
/-- the rows' names, in some order -/
def RwNm (kn : Nat → Str) (rs : List Rw) : Prop := ∃ b, b ≤ 12 ∧ (rs.map (·.nm)).Perm ((List.range rs.length).map fun j => kn (b + j))
structure WdOk (w : Wood) (kn : Nat → Str) : Prop where
  few : w.length ≤ 3
  one : 1 ≤ w.length
  nok : ∀ k, k < 900 → PyData.strOk (kn k) = true
  at_ : ∀ (k : Nat) p, w[k]? = some p → p.1 = kn k
  rows : ∀ p ∈ w, p.2.length ≤ 3 ∧ (∃ r ∈ p.2, r.br = []) ∧ ∀ r ∈ p.2, RwOk w.length kn r
  rnm : ∀ p ∈ w, RwNm kn p.2
noncomputable section
theorem rg1_nat (n : Nat) (h : n ≤ 100000) : rg1 [.int (n : Nat)] = .ok (rangeD 0 n) := by
  have : rg1 [.int (n : Nat)] = .ok (rangeD 0 ((n : Nat) : Int).toNat) := guard_ok (by omega)
  rw [this, Int.toNat_natCast]
theorem rangeD_map (n : Nat) : rangeD 0 n = (List.range n).map fun k : Nat => PyData.int (k : Nat) := by
  unfold rangeD
  exact List.map_congr_left fun k _ => by simp
section
variable {fd fn : List D → R Ow} {code : Int} {kn : Nat → Str}
end
end
end Mir
set_option Elab.async false
set_option linter.all false
set_option maxRecDepth 100000
set_option maxHeartbeats 4000000
namespace Mir
open PySem PySem.Spec L2
noncomputable section
theorem rowsOf_first : ∀ (w : Wood) (k : Str), (∃ p ∈ w, p.1 = k) → ∃ p, (w.filter fun p => p.1 == k)[0]? = some p ∧ p.2 = rowsOf w k ∧ p ∈ w
  | [], k, h => by obtain ⟨p, hp, _⟩ := h; cases hp
  | p :: w, k, h => by
    cases c : p.1 == k with
    | true =>
      refine ⟨p, by rw [List.filter_cons_of_pos (by simpa using c)]; rfl, by rw [rowsOf, c]; rfl, List.mem_cons_self⟩
    | false =>
      obtain ⟨q, hq, e⟩ := h
      have hq' : q ∈ w := by
        rcases List.mem_cons.mp hq with rfl | h
        · rw [e] at c; simp at c
        · exact h
      obtain ⟨r, h1, h2, h3⟩ := rowsOf_first w k ⟨q, hq', e⟩
      exact ⟨r, by rw [List.filter_cons_of_neg (by simp [c])]; exact h1, by rw [rowsOf, c]; exact h2, List.mem_cons_of_mem _ h3⟩
def RuleOk (ks bs : List Str) (t : Trm) : Prop := okM t ∧ levM t ≤ 3 ∧ sizeM t ≤ 9 ∧ ∀ c ∈ callsM t, CallOk ks bs c
structure TnMade (t : Trn) : Prop where
  few : t.modes.length ≤ 4
  one : 1 ≤ t.modes.length
  kind : ∀ p ∈ t.modes, ∃ q ∈ t.wood, q.1 = p.1
  rules : ∀ p ∈ t.modes, p.2.length = (rowsOf t.wood p.1).length ∧ ∀ (i : Nat) r u, (rowsOf t.wood p.1)[i]? = some r → p.2[i]? = some u → RuleOk (t.modes.map (·.1)) r.br u
  start : okM t.start ∧ levM t.start ≤ 3
/-- what the parts of the drawing promise -/
structure Gens (fd ft fl fru fca fb : List D → R Ow) (code : Int) (w : Wood) : Prop where
  dr : Draws fd
  term : ∀ (cs : List (Int × Int)) (n : Nat), n ≤ 2 → ∀ dk, ∃ t dk', TermIn cs n t ∧ ft (dkD dk :: [.int code, caD cs, .int (n : Nat)]) = tells (encM t) dk'
  rows : ∀ k, (∃ p ∈ w, p.1 = k) → fl [encWd w, .str k] = .ok (.d (.list ((rowsOf w k).map encRw)))
  rule : ∀ (cs : List (Int × Int)) (base : Trm), TermIn [] 2 base → ∀ dk, ∃ t dk', TermIn cs 2 t ∧ fru (dkD dk :: [.int code, encM base, caD cs]) = tells (encM t) dk'
  callsT : ∀ ks bs : List Str, ks.length ≤ 100 → bs.length ≤ 100 → ∃ cs, fca [.list (ks.map PyData.str), .tuple (bs.map PyData.str)] = .ok (caO cs) ∧ ∀ c ∈ cs, CallOk ks bs c
  callsL : ∀ ks bs : List Str, ks.length ≤ 100 → bs.length ≤ 100 → ∃ cs, fca [.list (ks.map PyData.str), .list (bs.map PyData.str)] = .ok (caO cs) ∧ ∀ c ∈ cs, CallOk ks bs c
  bare : ∀ t, okM t → levM t ≤ 10 → fb [encM t] = .ok (.d (encM (bareM t)))
section
variable {fd ft fl fru fca fb : List D → R Ow} {code : Int} {w : Wood}
theorem TermIn.rule {ks bs : List Str} {cs : List (Int × Int)} {t : Trm} (h : TermIn cs 2 t) (hc : ∀ c ∈ cs, CallOk ks bs c) : RuleOk ks bs t := ⟨h.1, by have := h.2.1; omega, fitS_2 h.2.2.1, fun c hcc => hc c (h.2.2.2.1 c hcc)⟩
theorem rowsOf_mem {w : Wood} {k : Str} (hk : ∃ p ∈ w, p.1 = k) : ∃ p ∈ w, p.2 = rowsOf w k := by
  obtain ⟨p, _, h2, h3⟩ := rowsOf_first w k hk
  exact ⟨p, h3, h2⟩
end
end
end Mir
set_option Elab.async false
set_option linter.all false
set_option maxRecDepth 100000
set_option maxHeartbeats 4000000
namespace Mir
open PySem PySem.Spec L2
theorem TnMade.ok {t : Trn} {kn : Nat → Str} (m : TnMade t) (hw : WdOk t.wood kn) : TnOk t := by
  have kl : (t.modes.map (·.1)).length = t.modes.length := List.length_map _
  have each : ∀ p ∈ t.modes, ∀ u ∈ p.2, ∃ r ∈ rowsOf t.wood p.1, RuleOk (t.modes.map (·.1)) r.br u := fun p hp u hu => by
    obtain ⟨i, hi, e⟩ := List.mem_iff_getElem.mp hu
    obtain ⟨h1, h2⟩ := m.rules p hp
    have hi' : i < (rowsOf t.wood p.1).length := by omega
    exact ⟨_, List.getElem_mem hi', h2 i _ u (List.getElem?_eq_getElem hi') (by rw [List.getElem?_eq_getElem hi, e])⟩
  have rl : ∀ p ∈ t.modes, (rowsOf t.wood p.1).length ≤ 3 ∧ ∃ r ∈ rowsOf t.wood p.1, r.br = [] := fun p hp => by
    obtain ⟨q, q1, q2⟩ := rowsOf_mem (m.kind p hp)
    obtain ⟨a, b, _⟩ := hw.rows q q1
    rw [q2] at a b
    exact ⟨a, b⟩
  have wl := hw.few
  refine ⟨by have := m.few; omega, m.one, fun p hp => ⟨(m.rules p hp).1, by have := (m.rules p hp).1; have := (rl p hp).1; omega⟩, fun p hp => ?_, fun p hp u hu => ?_, fun p hp => ?_, by omega, m.start.1, by have := m.start.2; omega⟩
  · -- bare rows
    obtain ⟨h1, h2⟩ := m.rules p hp
    constructor
    · rw [bares_zip]
      obtain ⟨_, r, hr, hb⟩ := rl p hp
      obtain ⟨i, hi, e⟩ := List.mem_iff_getElem.mp hr
      intro z
      have z2 : ((rowsOf t.wood p.1).zip p.2).filter (fun q => q.1.br.isEmpty) = [] := by simpa using z
      have hm : (r, p.2[i]'(by omega)) ∈ ((rowsOf t.wood p.1).zip p.2).filter (fun q => q.1.br.isEmpty) := by
        refine List.mem_filter.mpr ⟨?_, by show r.br.isEmpty = true; rw [hb]; rfl⟩
        refine List.mem_iff_getElem.mpr ⟨i, by rw [List.length_zip]; omega, ?_⟩
        rw [List.getElem_zip, e]
      rw [z2] at hm
      cases hm
    · intro u hu
      rw [bares_zip] at hu
      obtain ⟨q, hq, rfl⟩ := List.mem_map.mp hu
      obtain ⟨q1, q2⟩ := List.mem_filter.mp hq
      obtain ⟨i, hi, e⟩ := List.mem_iff_getElem.mp q1
      rw [List.length_zip] at hi
      rw [List.getElem_zip] at e
      have ok := h2 i q.1 q.2 (by rw [List.getElem?_eq_getElem (by omega), ← e]) (by rw [List.getElem?_eq_getElem (by omega), ← e])
      have bn : q.1.br = [] := by simpa using q2
      cases hc : callsM q.2 with
      | nil => rfl
      | cons c cs =>
        obtain ⟨i, j, _, z, _, hz⟩ := ok.2.2.2 c (by rw [hc]; exact List.mem_cons_self)
        rw [bn] at hz
        simp at hz
  · obtain ⟨r, _, o1, o2, o3, o4⟩ := each p hp u hu
    refine ⟨o1, by omega, by omega, fun c hc => ?_⟩
    obtain ⟨i, j, e, z, hz, _⟩ := o4 c hc
    have := (List.getElem?_eq_some_iff.mp hz).1
    rw [e]
    constructor
    · show (0 : Int) ≤ (i : Int)
      omega
    · show (i : Int) < _
      omega
  · obtain ⟨i, hi, e⟩ := List.mem_iff_getElem.mp hp
    have en := hw.at_ i p (by rw [List.getElem?_eq_getElem hi, e])
    obtain ⟨a, _, c⟩ := hw.rows p hp
    refine ⟨by rw [en]; exact hw.nok i (by omega), by omega, fun r hr => ?_⟩
    obtain ⟨d1, d2, d3⟩ := c r hr
    refine ⟨d1, by omega, fun z hz => ?_⟩
    obtain ⟨j, hj, ez⟩ := d3 z hz
    rw [ez]
    exact hw.nok j (by omega)
noncomputable section
abbrev lnIn (fs fm : List D → R Ow) : Ev → SR := (sIf (tOrE (eB (eBin gNotN (eVar 1) (eC .none)) asB) (eB (eBin gEq (eBin gIx (eVar 6) (eC (.int 1))) (eTup aNil)) asB))
    (sSeq (sSet 8 (eM (eM (eB (aCons (eVar 7) (aCons (eVar 1) aNil)) fs) viewD) Ow.d))
    (sSet 5 (eM (eIf (eB (eBin gIsN (eVar 5) (eC .none)) asB) (eVar 8) (eM (eB (aCons (eVar 5) (aCons (eVar 8) aNil)) fm) viewD)) Ow.d)))
    sSkip)
end
end Mir
set_option Elab.async false
set_option linter.all false
set_option maxRecDepth 100000
set_option maxHeartbeats 4000000
namespace Mir
open PySem PySem.Spec L2
noncomputable section
abbrev lnB (fl fs fm : List D → R Ow) : Ev → SR := (sSeq (sSet 5 (eM (eC .none) Ow.d))
    (sSeq (sFor (eB (aCons (eM (eB (aCons (eBin gIx (eVar 0) (eC (.int 0))) (aCons (eVar 3) aNil)) fl) viewD) (aCons (eVar 4) aNil)) zpArg) (gtTup 2 (gtCons (gtName 6) (gtCons (gtName 7) gtNil)))
    (lnIn fs fm))
    (sApp 2 (eM (eVar 5) Ow.d))))
def pick (t : Trn) (wants : Rw → Bool) (g : Trm → Stp) (p : Str × List Trm) : List Stp := (((rowsOf t.wood p.1).zip p.2).filter fun q => wants q.1).map fun q => g q.2
end
end Mir
set_option Elab.async false
set_option linter.all false
set_option maxRecDepth 100000
set_option maxHeartbeats 4000000
namespace Mir
open PySem PySem.Spec L2
def orRt : Option Ow → Ev → SR
  | none, e => .nx e
  | some o, e => .rt o e
theorem forL_first {α : Type} {g : D → Ev → Option Ev} {f : Ev → SR} (enc : α → D) (Q : α → Option Ow) (I : Ev → Prop) : ∀ (xs : List α) (step : ∀ a ∈ xs, ∀ env, I env → ∃ env1, g (enc a) env = some env1 ∧ ∃ env2, I env2 ∧ f env1 = orRt (Q a) env2) (env : Ev), I env → ∃ env', I env' ∧ forL g f (xs.map enc) env = orRt (xs.findSome? Q) env'
  | [], _, env, h => ⟨env, h, rfl⟩
  | a :: xs, st, env, h => by
    obtain ⟨env1, g1, env2, h2, f2⟩ := st a List.mem_cons_self env h
    rw [List.map_cons, forL, g1, List.findSome?_cons]
    simp only [f2]
    cases q : Q a with
    | none => exact forL_first enc Q I xs (fun b hb => st b (List.mem_cons_of_mem _ hb)) env2 h2
    | some o => exact ⟨env2, h2, rfl⟩
def noF (b : Bool) : Option Ow := if b then none else some (.d (.bool false))
theorem find_noF {α : Type} (P : α → Bool) : ∀ xs : List α, xs.findSome? (fun a => noF (P a)) = noF (xs.all P)
  | [] => rfl
  | a :: xs => by
    rw [List.findSome?_cons, List.all_cons, find_noF P xs]
    cases P a <;> rfl
theorem noF_t : noF true = none := rfl
theorem noF_f : noF false = some (.d (.bool false)) := rfl
def callFit (ks bs : List Str) (c : Int × Int) : Bool := decide (0 ≤ c.1) && (decide (c.1 < ks.length) && (decide (0 ≤ c.2) && (decide (c.2 < bs.length) && (ks.getD c.1.toNat "" == bs.getD c.2.toNat ""))))
def fitB (ks bs : List Str) (t : Trm) : Bool := (callsM t).all (callFit ks bs)
mutual
def keepsM : Trm → Bool
  | .call _ _ => false
  | .put _ kp _ ps => kp || keepsMs ps
def keepsMs : List Trm → Bool
  | [] => false
  | p :: ps => keepsM p || keepsMs ps
end
theorem keepsMs_any : ∀ ps : List Trm, keepsMs ps = ps.any keepsM
  | [] => by rw [keepsMs]; rfl
  | p :: ps => by rw [keepsMs, keepsMs_any ps]; rfl
def moD (ms : List (Str × List Trm)) : D := .list (ms.map encMo)
def kdsOf (ms : List (Str × List Trm)) : List Str := ms.map (·.1)
def modeOk (w : Wood) (ks : List Str) (p : Str × List Trm) : Bool := (w.any fun q => q.1 == p.1) && ((p.2.length == (rowsOf w p.1).length) && (((rowsOf w p.1).zip p.2).all fun q => fitB ks q.1.br q.2))
def soundB (w : Wood) (k0 : Str) (s : Trm) (ms : List (Str × List Trm)) : Bool := !(keepsM s) && (fitB (kdsOf ms) [k0] s && ms.all (modeOk w (kdsOf ms)))
noncomputable section
abbrev bKeeps (f : List D → R Ow) : Ev → SR := (sSeq (sIf (eB (eBin gEq (eBin gIx (eVar 0) (eC (.int 0))) (eC (.str "call"))) asB)
    (sRet (eM (eC (.bool false)) Ow.d))
    sSkip)
    (sRet (eM (eOr (eBin gIx (eVar 0) (eC (.int 2))) (eM (eCa gAny (aCons (eB (eLc (eB (eBin gIx (eVar 0) (eC (.int 4))) itD) (gtName 1) cYes (eB (aCons (eVar 1) aNil) f) [1]) shD) aNil)) viewD)) Ow.d)))
theorem keeps_fin {f : List D → R Ow} (t : Trm) (h : ∀ nm kp ad ps, t = .put nm kp ad ps → ps.length ≤ 1000 ∧ ∀ p ∈ ps, f [encM p] = .ok (.d (.bool (keepsM p)))) : finR (bKeeps f (envOf 1 [encM t])) = .ok (.d (.bool (keepsM t))) := by
  have he : envOf 1 [encM t] = [some (.d (encM t)), none] := rfl
  rw [he]
  cases t with
  | call m b => rw [keepsM]; simp [c_ix0]
  | put nm kp ad ps =>
    obtain ⟨l1, l2⟩ := h nm kp ad ps rfl
    rw [keepsM, keepsMs_any]
    cases kp with
    | true => simp [m_ix0, m_ix2]
    | false =>
      have lc : eLc (eB (eBin gIx (eVar 0) (eC (.int 4))) itD) (gtName 1) cYes (eB (aCons (eVar 1) aNil) f) [1] [some (.d (encM (.put nm false ad ps))), none] = .ok (.l (ps.map fun p => .d (.bool (keepsM p)))) := by
        refine eLc_of (ds := ps.map encM) (by simp [m_ix4]) (by rw [List.length_map, sizeLine_eq]; omega) (lcR_map encM _ ps fun p hp => ⟨[some (.d (encM (.put nm false ad ps))), some (.d (encM p))], by simp [wipeE], rfl, by simp [l2 p hp]⟩)
      have sh := unDs_of (fun p : Trm => PyData.bool (keepsM p)) ps
      have ga : gAny [.list (ps.map fun p => PyData.bool (keepsM p))] = some (.d (.bool (ps.any keepsM))) := by
        have e : (ps.map fun p => PyData.bool (keepsM p)) = (ps.map keepsM).map PyData.bool := by rw [List.map_map]; rfl
        show (boolsD _).map _ = _
        rw [e, boolsD_map, Option.map_some, List.any_map]
        rfl
      generalize (ps.map fun p => Ow.d (.bool (keepsM p))) = os at lc sh
      generalize (ps.map fun p => PyData.bool (keepsM p)) = ds at sh ga
      simp [m_ix0, m_ix2, lc, sh, ga]
theorem mo_len (ms : List (Str × List Trm)) : gLen [moD ms] = some (.d (.int (ms.length : Nat))) := by
  have : gLen [moD ms] = some (Ow.d (.int (ms.map encMo).length)) := rfl
  rw [this, List.length_map]
theorem mo_ix {ms : List (Str × List Trm)} {k : Nat} {p : Str × List Trm} (h : ms[k]? = some p) : gIx (moD ms) (.int (k : Nat)) = some (encMo p) := by
  show atI (ms.map encMo) _ = _
  exact atI_natD (by rw [List.getElem?_map, h]; rfl)
theorem mo_ix0 (p : Str × List Trm) : gIx (encMo p) (.int 0) = some (.str p.1) := by unfold encMo; simp
def brD (bs : List Str) : D := .tuple (bs.map PyData.str)
theorem br_len (bs : List Str) : gLen [brD bs] = some (.d (.int (bs.length : Nat))) := by
  have : gLen [brD bs] = some (Ow.d (.int (bs.map PyData.str).length)) := rfl
  rw [this, List.length_map]
theorem br_ix {bs : List Str} {k : Nat} {z : Str} (h : bs[k]? = some z) : gIx (brD bs) (.int (k : Nat)) = some (.str z) := by
  show atI (bs.map PyData.str) _ = _
  exact atI_natD (by rw [List.getElem?_map, h]; rfl)
abbrev fitStep (c1 : Ev → R Bool) : Ev → SR := (sSeq (sIf c1
    (sRet (eM (eC (.bool false)) Ow.d))
    sSkip)
    (sIf (eB (eBin gNe (eBin gIx (eBin gIx (eVar 2) (eVar 3)) (eC (.int 0))) (eBin gIx (eVar 1) (eVar 4))) asB)
    (sRet (eM (eC (.bool false)) Ow.d))
    sSkip))
def rangeOk (ks bs : List Str) (c : Int × Int) : Bool := decide (0 ≤ c.1) && (decide (c.1 < ks.length) && (decide (0 ≤ c.2) && decide (c.2 < bs.length)))
abbrev fitC : Ev → R Bool := (tOrE (eB (eBin gLt (eVar 3) (eC (.int 0))) asB) (tOrE (eB (eBin gGe (eVar 3) (eM (eCa gLen (aCons (eVar 2) aNil)) viewD)) asB) (tOrE (eB (eBin gLt (eVar 4) (eC (.int 0))) asB) (eB (eBin gGe (eVar 4) (eM (eCa gLen (aCons (eVar 1) aNil)) viewD)) asB))))
theorem fitStep_ok {c1 : Ev → R Bool} (T : D) (bs : List Str) (ms : List (Str × List Trm)) (c : Int × Int) (h : c1 [some (.d T), some (.d (brD bs)), some (.d (moD ms)), some (.d (.int c.1)), some (.d (.int c.2))] = .ok (!rangeOk (kdsOf ms) bs c)) :
    fitStep c1 [some (.d T), some (.d (brD bs)), some (.d (moD ms)), some (.d (.int c.1)), some (.d (.int c.2))] = orRt (noF (callFit (kdsOf ms) bs c)) [some (.d T), some (.d (brD bs)), some (.d (moD ms)), some (.d (.int c.1)), some (.d (.int c.2))] := by
  obtain ⟨m, b⟩ := c
  show sSeq _ _ _ = _
  rw [sSeq_eq, sIf_eq, h, R.st_ok]
  cases r : rangeOk (kdsOf ms) bs (m, b) with
  | false =>
    have : callFit (kdsOf ms) bs (m, b) = false := by
      unfold rangeOk at r
      unfold callFit
      simp only [Bool.and_eq_false_iff] at r ⊢
      rcases r with r | r | r | r
      · exact .inl r
      · exact .inr (.inl r)
      · exact .inr (.inr (.inl r))
      · exact .inr (.inr (.inr (.inl r)))
    rw [this, noF_f]
    simp [orRt]
  | true =>
    unfold rangeOk at r
    simp only [Bool.and_eq_true, decide_eq_true_eq] at r
    obtain ⟨r1, r2, r3, r4⟩ := r
    have e : callFit (kdsOf ms) bs (m, b) = ((kdsOf ms).getD m.toNat "" == bs.getD b.toNat "") := by
      unfold callFit
      rw [decide_eq_true r1, decide_eq_true r2, decide_eq_true r3, decide_eq_true r4]
      rfl
    rw [e]
    obtain ⟨i, rfl⟩ : ∃ i : Nat, m = (i : Int) := ⟨m.toNat, by omega⟩
    obtain ⟨j, rfl⟩ : ∃ j : Nat, b = (j : Int) := ⟨b.toNat, by omega⟩
    have hi : i < ms.length := by unfold kdsOf at r2; rw [List.length_map] at r2; omega
    have hj : j < bs.length := by omega
    have x1 := mo_ix (List.getElem?_eq_getElem hi)
    have x2 := mo_ix0 ms[i]
    have x3 := br_ix (List.getElem?_eq_getElem hj)
    have g1 : (kdsOf ms).getD ((i : Nat) : Int).toNat "" = ms[i].1 := by
      unfold kdsOf
      rw [Int.toNat_natCast, List.getD_eq_getElem?_getD, List.getElem?_map, List.getElem?_eq_getElem hi]
      rfl
    have g2 : bs.getD ((j : Nat) : Int).toNat "" = bs[j] := by
      rw [Int.toNat_natCast, List.getD_eq_getElem?_getD, List.getElem?_eq_getElem hj]
      rfl
    rw [g1, g2]
    generalize moD ms = M at x1
    generalize brD bs = B at x3
    cases c2 : ms[i].1 == bs[j] with
    | true => simp [x1, x2, x3, gNe_str, c2, orRt, noF_t]
    | false => simp [x1, x2, x3, gNe_str, c2, orRt, noF_f]
theorem fitC_ok (T : D) (bs : List Str) (ms : List (Str × List Trm)) (c : Int × Int) : fitC [some (.d T), some (.d (brD bs)), some (.d (moD ms)), some (.d (.int c.1)), some (.d (.int c.2))] = .ok (!rangeOk (kdsOf ms) bs c) := by
  have x1 := mo_len ms
  have x2 := br_len bs
  have kl : (kdsOf ms).length = ms.length := by unfold kdsOf; rw [List.length_map]
  unfold rangeOk
  rw [kl]
  generalize moD ms = M at x1
  generalize brD bs = B at x2
  by_cases h1 : c.1 < 0
  · have : ¬ 0 ≤ c.1 := by omega
    simp [h1, this]
  · have h1' : 0 ≤ c.1 := by omega
    by_cases h2 : c.1 < (ms.length : Nat)
    · have h2' : ¬ (ms.length : Nat) ≤ c.1 := by omega
      by_cases h3 : c.2 < 0
      · have : ¬ 0 ≤ c.2 := by omega
        simp [h1, h1', h2, h2', h3, this, x1]
      · have h3' : 0 ≤ c.2 := by omega
        by_cases h4 : c.2 < (bs.length : Nat)
        · have h4' : ¬ (bs.length : Nat) ≤ c.2 := by omega
          simp [h1, h1', h2, h2', h3, h3', h4, h4', x1, x2]
        · have h4' : (bs.length : Nat) ≤ c.2 := by omega
          simp [h1, h1', h2, h2', h3, h3', h4, h4', x1, x2]
    · have h2' : (ms.length : Nat) ≤ c.1 := by omega
      simp [h1, h1', h2, h2', x1]
abbrev bFits (c1 : Ev → R Bool) (f : List D → R Ow) : Ev → SR := (sSeq (sFor (eB (eM (eB (aCons (eVar 0) aNil) f) viewD) itD) (gtTup 2 (gtCons (gtName 3) (gtCons (gtName 4) gtNil)))
    (fitStep c1))
    (sRet (eM (eC (.bool true)) Ow.d)))
theorem fits_fin {c1 : Ev → R Bool} (hc : ∀ T bs ms (c : Int × Int), c1 [some (.d T), some (.d (brD bs)), some (.d (moD ms)), some (.d (.int c.1)), some (.d (.int c.2))] = .ok (!rangeOk (kdsOf ms) bs c)) {f : List D → R Ow} (t : Trm) (bs : List Str) (ms : List (Str × List Trm)) {cs : List (Int × Int)} (hp : cs.Perm (callsM t)) (h : f [encM t] = .ok (encCs cs)) :
    finR (bFits c1 f (envOf 2 [encM t, brD bs, moD ms])) = .ok (.d (.bool (fitB (kdsOf ms) bs t))) := by
  have he : envOf 2 [encM t, brD bs, moD ms] = [some (.d (encM t)), some (.d (brD bs)), some (.d (moD ms)), none, none] := rfl
  rw [he]
  have e : fitB (kdsOf ms) bs t = cs.all (callFit (kdsOf ms) bs) := by
    unfold fitB
    rw [Bool.eq_iff_iff, List.all_eq_true, List.all_eq_true]
    exact ⟨fun q c hcc => q c (hp.mem_iff.mp hcc), fun q c hcc => q c (hp.mem_iff.mpr hcc)⟩
  rw [e]
  obtain ⟨env', hI, lp⟩ := forL_first (g := gtTup 2 (gtCons (gtName 3) (gtCons (gtName 4) gtNil))) (f := fitStep c1) encC (fun c => noF (callFit (kdsOf ms) bs c)) (fun env => ∃ x3 x4, env = [some (.d (encM t)), some (.d (brD bs)), some (.d (moD ms)), x3, x4]) cs (fun c hcc env hI => by
    obtain ⟨x3, x4, rfl⟩ := hI
    exact ⟨[some (.d (encM t)), some (.d (brD bs)), some (.d (moD ms)), some (.d (.int c.1)), some (.d (.int c.2))], rfl, _, ⟨_, _, rfl⟩, fitStep_ok (encM t) bs ms c (hc _ _ _ _)⟩) [some (.d (encM t)), some (.d (brD bs)), some (.d (moD ms)), none, none] ⟨none, none, rfl⟩
  rw [find_noF] at lp
  have vw : viewD (encCs cs) = .list (cs.map encC) := viewD_of encC cs
  have fo : (sFor (eB (eM (eB (aCons (eVar 0) aNil) f) viewD) itD) (gtTup 2 (gtCons (gtName 3) (gtCons (gtName 4) gtNil))) (fitStep c1)) [some (.d (encM t)), some (.d (brD bs)), some (.d (moD ms)), none, none] = orRt (noF (cs.all (callFit (kdsOf ms) bs))) env' := by
    rw [sFor_eq]
    have e2 : (eB (eM (eB (aCons (eVar 0) aNil) f) viewD) itD) [some (.d (encM t)), some (.d (brD bs)), some (.d (moD ms)), none, none] = .ok (cs.map encC) := by
      generalize encCs cs = O at h vw
      simp [h, vw]
    rw [e2, R.st_ok]
    exact lp
  show finR (sSeq _ _ _) = _
  rw [sSeq_eq, fo]
  cases cs.all (callFit (kdsOf ms) bs) with
  | true => simp [noF_t, orRt]
  | false => simp [noF_f, orRt]
end
end Mir
set_option Elab.async false
set_option linter.all false
set_option maxRecDepth 100000
set_option maxHeartbeats 4000000
namespace Mir
open PySem PySem.Spec L2
noncomputable section
abbrev rowStep (f5 : List D → R Ow) (j k : Nat) : Ev → SR := (sIf (tNotE (eB (eM (eB (aCons (eVar k) (aCons (eBin gIx (eVar j) (eC (.int 1))) (aCons (eVar 2) aNil))) f5) viewD) asB))
    (sRet (eM (eC (.bool false)) Ow.d))
    sSkip)
abbrev modeStep (f5 f2 : List D → R Ow) : Ev → SR := (sSeq (sSet 5 (eM (eM (eB (aCons (eVar 0) (aCons (eVar 4) aNil)) f2) viewD) Ow.d))
    (sSeq (sIf (tOrE (eB (eBin gNotIn (eVar 4) (eVar 3)) asB) (eB (eBin gNe (eM (eCa gLen (aCons (eVar 6) aNil)) viewD) (eM (eCa gLen (aCons (eVar 5) aNil)) viewD)) asB))
    (sRet (eM (eC (.bool false)) Ow.d))
    sSkip)
    (sFor (eB (aCons (eVar 5) (aCons (eVar 6) aNil)) zpArg) (gtTup 2 (gtCons (gtName 7) (gtCons (gtName 8) gtNil)))
    (rowStep f5 7 8))))
abbrev bIsSound (f1 f5 f2 : List D → R Ow) : Ev → SR := (sSeq (sIf (tOrE (eB (eM (eB (aCons (eVar 1) aNil) f1) viewD) asB) (tNotE (eB (eM (eB (aCons (eVar 1) (aCons (eTup (aCons (eBin gIx (eBin gIx (eVar 0) (eC (.int 0))) (eC (.int 0))) aNil)) (aCons (eVar 2) aNil))) f5) viewD) asB)))
    (sRet (eM (eC (.bool false)) Ow.d))
    sSkip)
    (sSeq (sSet 3 (eM (eM (eLc (eB (eVar 0) itD) (gtTup 2 (gtCons (gtName 4) (gtCons (gtName 5) gtNil))) cYes (eM (eVar 4) Ow.d) [4, 5]) viewD) Ow.d))
    (sSeq (sFor (eB (eVar 2) itD) (gtTup 2 (gtCons (gtName 4) (gtCons (gtName 6) gtNil)))
    (modeStep f5 f2))
    (sRet (eM (eC (.bool true)) Ow.d)))))
def rwsD (rs : List Rw) : D := .list (rs.map encRw)
def trsD (ts : List Trm) : D := .list (ts.map encM)
theorem rws_len (rs : List Rw) : gLen [rwsD rs] = some (.d (.int (rs.length : Nat))) := by
  have : gLen [rwsD rs] = some (Ow.d (.int (rs.map encRw).length)) := rfl
  rw [this, List.length_map]
theorem trs_len (ts : List Trm) : gLen [trsD ts] = some (.d (.int (ts.length : Nat))) := by
  have : gLen [trsD ts] = some (Ow.d (.int (ts.map encM).length)) := rfl
  rw [this, List.length_map]
theorem rw_ix1 (r : Rw) : gIx (encRw r) (.int 1) = some (brD r.br) := by
  unfold encRw brD
  generalize r.br.map PyData.str = B
  simp
def encRT (q : Rw × Trm) : D := .tuple [encRw q.1, encM q.2]
theorem zip_rt (rs : List Rw) (ts : List Trm) : zpArg [rwsD rs, trsD ts] = .ok ((rs.zip ts).map encRT) := by
  show (.ok (zipD _ _) : R (List D)) = _
  rw [zipD_zip]
  rfl
theorem wd_ix0 {w : Wood} {p : Str × List Rw} (h : w[0]? = some p) : gIx (encWd w) (.int 0) = some (encKd p) := by
  show atI (w.map encKd) _ = _
  exact atI_natD (k := 0) (by rw [List.getElem?_map, h]; rfl)
theorem kd_ix0 (p : Str × List Rw) : gIx (encKd p) (.int 0) = some (.str p.1) := by unfold encKd; simp
theorem notIn_strs {k : Str} {ks : List Str} (hk : PyData.strOk k = true) (hs : ∀ z ∈ ks, PyData.strOk z = true) : gNotIn (.str k) (.list (ks.map PyData.str)) = some (.bool (!(ks.any fun z => z == k))) := by
  have ok : inOk (.str k) (ks.map PyData.str) = true := by
    unfold inOk
    simp only [Bool.and_eq_true, decide_eq_true_eq, List.all_eq_true]
    refine ⟨⟨by rw [PyData.canLay0]; exact hk, by simp [PyData.depth]⟩, fun e he => ?_⟩
    obtain ⟨z, hz, rfl⟩ := List.mem_map.mp he
    rw [PyData.canLay0]
    exact hs z hz
  have e : inD (.str k) (ks.map PyData.str) = ks.any fun z => z == k := by
    unfold inD
    rw [List.any_map]
    rfl
  show (if inOk (.str k) (ks.map PyData.str) = true then some (PyData.bool (xor true (inD (.str k) (ks.map PyData.str)))) else none) = _
  rw [if_pos ok, e]
  simp
/-- the rows of a mode against its rules: the last loop of both lookers -/
theorem rows_check {f5 : List D → R Ow} {ms : List (Str × List Trm)} (j k : Nat) (I : Ev → Prop) (rs : List Rw) (ts : List Trm)
    (h5 : ∀ t ∈ ts, ∀ bs, f5 [encM t, brD bs, moD ms] = .ok (.d (.bool (fitB (kdsOf ms) bs t))))
    (hI : ∀ env, I env → ∀ a b, ∃ env1, gtTup 2 (gtCons (gtName j) (gtCons (gtName k) gtNil)) (.tuple [a, b]) env = some env1 ∧ I env1 ∧ eVar j env1 = .ok a ∧ eVar k env1 = .ok b ∧ eVar 2 env1 = .ok (moD ms)) (env : Ev) (h0 : I env) :
    ∃ env', I env' ∧ forL (gtTup 2 (gtCons (gtName j) (gtCons (gtName k) gtNil))) (rowStep f5 j k) ((rs.zip ts).map encRT) env = orRt (noF ((rs.zip ts).all fun q => fitB (kdsOf ms) q.1.br q.2)) env' := by
  obtain ⟨env', h1, h2⟩ := forL_first (g := gtTup 2 (gtCons (gtName j) (gtCons (gtName k) gtNil))) (f := rowStep f5 j k) encRT (fun q => noF (fitB (kdsOf ms) q.1.br q.2)) I (rs.zip ts) (fun q hq env hh => by
    obtain ⟨env1, g1, g2, v1, v2, v3⟩ := hI env hh (encRw q.1) (encM q.2)
    refine ⟨env1, g1, env1, g2, ?_⟩
    have ix := rw_ix1 q.1
    have hf := h5 q.2 (List.of_mem_zip hq).2 q.1.br
    have c : (tNotE (eB (eM (eB (aCons (eVar k) (aCons (eBin gIx (eVar j) (eC (.int 1))) (aCons (eVar 2) aNil))) f5) viewD) asB)) env1 = .ok (!fitB (kdsOf ms) q.1.br q.2) := by
      generalize moD ms = M at v3 hf
      generalize brD q.1.br = B at ix hf
      simp [v1, v2, v3, ix, hf]
    show sIf _ _ _ _ = _
    rw [sIf_eq, c, R.st_ok]
    cases fitB (kdsOf ms) q.1.br q.2 with
    | true => simp [noF_t, orRt]
    | false => simp [noF_f, orRt]) env h0
  refine ⟨env', h1, ?_⟩
  rw [h2, find_noF]
structure SndOk (w : Wood) (s : Trm) (ms : List (Str × List Trm)) : Prop where
  kinds : ∀ p ∈ w, PyData.strOk p.1 = true
  few : w.length ≤ 100
  dist : (w.map (·.1)).Nodup
  mkinds : ∀ p ∈ ms, PyData.strOk p.1 = true
theorem modeStep_ok {w : Wood} {s : Trm} {ms : List (Str × List Trm)} (ok : SndOk w s ms) {f5 f2 : List D → R Ow} (S : D) (p : Str × List Trm) (hp : p ∈ ms)
    (h5 : ∀ t ∈ p.2, ∀ bs, f5 [encM t, brD bs, moD ms] = .ok (.d (.bool (fitB (kdsOf ms) bs t))))
    (h2 : ∀ k, ∃ o, f2 [encWd w, .str k] = .ok o ∧ viewD o = rwsD (rowsOf w k)) (x5 x7 x8 : Option Ow) :
    ∃ y5 y7 y8, modeStep f5 f2 [some (.d (encWd w)), some (.d S), some (.d (moD ms)), some (.d (.list ((w.map (·.1)).map PyData.str))), some (.d (.str p.1)), x5, some (.d (trsD p.2)), x7, x8] = orRt (noF (modeOk w (kdsOf ms) p)) [some (.d (encWd w)), some (.d S), some (.d (moD ms)), some (.d (.list ((w.map (·.1)).map PyData.str))), some (.d (.str p.1)), y5, some (.d (trsD p.2)), y7, y8] := by
  obtain ⟨o, o1, o2⟩ := h2 p.1
  have s1 : sSet 5 (eM (eM (eB (aCons (eVar 0) (aCons (eVar 4) aNil)) f2) viewD) Ow.d) [some (.d (encWd w)), some (.d S), some (.d (moD ms)), some (.d (.list ((w.map (·.1)).map PyData.str))), some (.d (.str p.1)), x5, some (.d (trsD p.2)), x7, x8] = .nx [some (.d (encWd w)), some (.d S), some (.d (moD ms)), some (.d (.list ((w.map (·.1)).map PyData.str))), some (.d (.str p.1)), some (.d (rwsD (rowsOf w p.1))), some (.d (trsD p.2)), x7, x8] := by
    generalize moD ms = M
    generalize PyData.list ((w.map (·.1)).map PyData.str) = K
    generalize encWd w = W at o1
    generalize trsD p.2 = T
    generalize rwsD (rowsOf w p.1) = RS at o2
    simp [o1, o2]
  have ni := notIn_strs (ok.mkinds p hp) (ks := w.map (·.1)) fun z hz => by
    obtain ⟨q, hq, rfl⟩ := List.mem_map.mp hz
    exact ok.kinds q hq
  have an : ((w.map (·.1)).any fun z => z == p.1) = w.any fun q => q.1 == p.1 := by rw [List.any_map]; rfl
  rw [an] at ni
  have l1 := rws_len (rowsOf w p.1)
  have l2 := trs_len p.2
  have c : (tOrE (eB (eBin gNotIn (eVar 4) (eVar 3)) asB) (eB (eBin gNe (eM (eCa gLen (aCons (eVar 6) aNil)) viewD) (eM (eCa gLen (aCons (eVar 5) aNil)) viewD)) asB)) [some (.d (encWd w)), some (.d S), some (.d (moD ms)), some (.d (.list ((w.map (·.1)).map PyData.str))), some (.d (.str p.1)), some (.d (rwsD (rowsOf w p.1))), some (.d (trsD p.2)), x7, x8] = .ok (!((w.any fun q => q.1 == p.1) && (p.2.length == (rowsOf w p.1).length))) := by
    generalize moD ms = M
    generalize PyData.list ((w.map (·.1)).map PyData.str) = K at ni
    generalize encWd w = W
    generalize trsD p.2 = T at l2
    generalize rwsD (rowsOf w p.1) = RS at l1
    generalize (w.any fun q => q.1 == p.1) = A at ni ⊢
    cases A with
    | false => simp [ni]
    | true =>
      by_cases e : p.2.length = (rowsOf w p.1).length
      · simp [ni, l1, l2, e]
      · have e' : ¬ ((p.2.length : Int) = ((rowsOf w p.1).length : Int)) := by omega
        have e2 : (((p.2.length : Int) == ((rowsOf w p.1).length : Int))) = false := by simpa using e'
        simp [ni, l1, l2, e, e2]
  unfold modeOk
  cases cc : (w.any fun q => q.1 == p.1) && (p.2.length == (rowsOf w p.1).length) with
  | false =>
    rw [← Bool.and_assoc, cc, Bool.false_and, noF_f]
    refine ⟨some (.d (rwsD (rowsOf w p.1))), x7, x8, seq_nx s1 ?_⟩
    rw [sSeq_eq, sIf_eq, c, cc, R.st_ok]
    simp [orRt]
  | true =>
    rw [← Bool.and_assoc, cc, Bool.true_and]
    obtain ⟨env', ⟨y7, y8, e⟩, lp⟩ := rows_check (f5 := f5) (ms := ms) 7 8 (fun env => ∃ y7 y8, env = [some (.d (encWd w)), some (.d S), some (.d (moD ms)), some (.d (.list ((w.map (·.1)).map PyData.str))), some (.d (.str p.1)), some (.d (rwsD (rowsOf w p.1))), some (.d (trsD p.2)), y7, y8]) (rowsOf w p.1) p.2 h5 (fun env hh a b => by
      obtain ⟨y7, y8, rfl⟩ := hh
      exact ⟨[some (.d (encWd w)), some (.d S), some (.d (moD ms)), some (.d (.list ((w.map (·.1)).map PyData.str))), some (.d (.str p.1)), some (.d (rwsD (rowsOf w p.1))), some (.d (trsD p.2)), some (.d a), some (.d b)], rfl, ⟨_, _, rfl⟩, rfl, rfl, rfl⟩) [some (.d (encWd w)), some (.d S), some (.d (moD ms)), some (.d (.list ((w.map (·.1)).map PyData.str))), some (.d (.str p.1)), some (.d (rwsD (rowsOf w p.1))), some (.d (trsD p.2)), x7, x8] ⟨x7, x8, rfl⟩
    subst e
    refine ⟨some (.d (rwsD (rowsOf w p.1))), y7, y8, seq_nx s1 ?_⟩
    rw [sSeq_eq, sIf_eq, c, cc, R.st_ok]
    simp only [Bool.not_true, Bool.false_eq_true, if_false, sSkip_eq, SR.andThen]
    rw [sFor_eq]
    have z := zip_rt (rowsOf w p.1) p.2
    have e3 : (eB (aCons (eVar 5) (aCons (eVar 6) aNil)) zpArg) [some (.d (encWd w)), some (.d S), some (.d (moD ms)), some (.d (.list ((w.map (·.1)).map PyData.str))), some (.d (.str p.1)), some (.d (rwsD (rowsOf w p.1))), some (.d (trsD p.2)), x7, x8] = .ok (((rowsOf w p.1).zip p.2).map encRT) := by
      rw [← z]
      rfl
    rw [e3, R.st_ok]
    exact lp
theorem isSound_fin {w : Wood} {s : Trm} {ms : List (Str × List Trm)} (ok : SndOk w s ms) {p0 : Str × List Rw} (h0 : w[0]? = some p0) {f1 f5 f2 : List D → R Ow}
    (h1 : f1 [encM s] = .ok (.d (.bool (keepsM s))))
    (h5 : ∀ t, (t = s ∨ ∃ p ∈ ms, t ∈ p.2) → ∀ bs, f5 [encM t, brD bs, moD ms] = .ok (.d (.bool (fitB (kdsOf ms) bs t))))
    (h2 : ∀ k, ∃ o, f2 [encWd w, .str k] = .ok o ∧ viewD o = rwsD (rowsOf w k)) : finR (bIsSound f1 f5 f2 (envOf 6 [encWd w, encM s, moD ms])) = .ok (.d (.bool (soundB w p0.1 s ms))) := by
  have he : envOf 6 [encWd w, encM s, moD ms] = [some (.d (encWd w)), some (.d (encM s)), some (.d (moD ms)), none, none, none, none, none, none] := rfl
  rw [he]
  have i0 := wd_ix0 h0
  have i1 := kd_ix0 p0
  have h5s := h5 s (.inl rfl) [p0.1]
  have bD : brD [p0.1] = .tuple [.str p0.1] := rfl
  rw [bD] at h5s
  have c : (tOrE (eB (eM (eB (aCons (eVar 1) aNil) f1) viewD) asB) (tNotE (eB (eM (eB (aCons (eVar 1) (aCons (eTup (aCons (eBin gIx (eBin gIx (eVar 0) (eC (.int 0))) (eC (.int 0))) aNil)) (aCons (eVar 2) aNil))) f5) viewD) asB))) [some (.d (encWd w)), some (.d (encM s)), some (.d (moD ms)), none, none, none, none, none, none] = .ok (!(!(keepsM s) && fitB (kdsOf ms) [p0.1] s)) := by
    generalize moD ms = M at h5s
    generalize encWd w = W at i0
    generalize keepsM s = A at h1 ⊢
    generalize fitB (kdsOf ms) [p0.1] s = B at h5s ⊢
    cases A with
    | true => simp [h1]
    | false => simp [h1, i0, i1, h5s, sizeLine_eq]
  unfold soundB
  rw [← Bool.and_assoc]
  cases cc : !(keepsM s) && fitB (kdsOf ms) [p0.1] s with
  | false =>
    show finR (sSeq _ _ _) = _
    rw [sSeq_eq, sIf_eq, c, cc, R.st_ok]
    simp
  | true =>
    rw [Bool.true_and]
    have lc : eLc (eB (eVar 0) itD) (gtTup 2 (gtCons (gtName 4) (gtCons (gtName 5) gtNil))) cYes (eM (eVar 4) Ow.d) [4, 5] [some (.d (encWd w)), some (.d (encM s)), some (.d (moD ms)), none, none, none, none, none, none] = .ok (.l (w.map fun p => .d (.str p.1))) := by
      refine eLc_of (ds := w.map encKd) rfl (by have := ok.few; rw [List.length_map, sizeLine_eq]; omega) (lcR_map encKd _ w fun p hp => ⟨[some (.d (encWd w)), some (.d (encM s)), some (.d (moD ms)), none, some (.d (.str p.1)), some (.d (rwsD p.2)), none, none, none], rfl, rfl, rfl⟩)
    have vw : viewD (.l (w.map fun p => Ow.d (.str p.1))) = .list ((w.map (·.1)).map PyData.str) := by
      rw [List.map_map]
      exact viewD_of (fun p : Str × List Rw => PyData.str p.1) w
    have s2 : sSet 3 (eM (eM (eLc (eB (eVar 0) itD) (gtTup 2 (gtCons (gtName 4) (gtCons (gtName 5) gtNil))) cYes (eM (eVar 4) Ow.d) [4, 5]) viewD) Ow.d) [some (.d (encWd w)), some (.d (encM s)), some (.d (moD ms)), none, none, none, none, none, none] = .nx [some (.d (encWd w)), some (.d (encM s)), some (.d (moD ms)), some (.d (.list ((w.map (·.1)).map PyData.str))), none, none, none, none, none] := by
      generalize (w.map fun p => Ow.d (.str p.1)) = os at lc vw
      generalize PyData.list ((w.map (·.1)).map PyData.str) = K at vw
      generalize moD ms = M at lc
      generalize encWd w = W at lc
      simp [lc, vw]
    obtain ⟨env', hI, lp⟩ := forL_first (g := gtTup 2 (gtCons (gtName 4) (gtCons (gtName 6) gtNil))) (f := modeStep f5 f2) encMo (fun p => noF (modeOk w (kdsOf ms) p)) (fun env => ∃ x4 x5 x6 x7 x8, env = [some (.d (encWd w)), some (.d (encM s)), some (.d (moD ms)), some (.d (.list ((w.map (·.1)).map PyData.str))), x4, x5, x6, x7, x8]) ms (fun p hp env hh => by
      obtain ⟨x4, x5, x6, x7, x8, rfl⟩ := hh
      obtain ⟨y5, y7, y8, e⟩ := modeStep_ok ok (f5 := f5) (f2 := f2) (encM s) p hp (fun t ht => h5 t (.inr ⟨p, hp, ht⟩)) h2 x5 x7 x8
      exact ⟨_, rfl, _, ⟨_, y5, _, y7, y8, rfl⟩, e⟩) [some (.d (encWd w)), some (.d (encM s)), some (.d (moD ms)), some (.d (.list ((w.map (·.1)).map PyData.str))), none, none, none, none, none] ⟨none, none, none, none, none, rfl⟩
    rw [find_noF] at lp
    show finR (sSeq _ _ _) = _
    rw [sSeq_eq, sIf_eq, c, cc, R.st_ok]
    simp only [Bool.not_true, Bool.false_eq_true, if_false, sSkip_eq, SR.andThen]
    refine fin_step s2 ?_
    rw [sSeq_eq]
    have fo : (sFor (eB (eVar 2) itD) (gtTup 2 (gtCons (gtName 4) (gtCons (gtName 6) gtNil))) (modeStep f5 f2)) [some (.d (encWd w)), some (.d (encM s)), some (.d (moD ms)), some (.d (.list ((w.map (·.1)).map PyData.str))), none, none, none, none, none] = orRt (noF (ms.all (modeOk w (kdsOf ms)))) env' := by
      rw [sFor_eq]
      have e3 : (eB (eVar 2) itD) [some (.d (encWd w)), some (.d (encM s)), some (.d (moD ms)), some (.d (.list ((w.map (·.1)).map PyData.str))), none, none, none, none, none] = .ok (ms.map encMo) := rfl
      rw [e3, R.st_ok]
      exact lp
    rw [fo]
    cases ms.all (modeOk w (kdsOf ms)) with
    | true => simp [noF_t, orRt]
    | false => simp [noF_f, orRt]
def numOf : List Rw → Str → Nat → Option Nat
  | [], _, _ => none
  | r :: rs, nm, k => if r.nm == nm then some k else numOf rs nm (k + 1)
end
end Mir
set_option Elab.async false
set_option linter.all false
set_option maxRecDepth 100000
set_option maxHeartbeats 4000000
namespace Mir
open PySem PySem.Spec L2
section
variable (S : Trm) (R : Nat → List Trm) (n : Nat)
/-- to the mode lead calls -/
inductive Reach : Int → Prop
  | start {c : Int × Int} : c ∈ callsM S → Reach c.1
  | step {m : Nat} {t : Trm} {c : Int × Int} : Reach (m : Int) → t ∈ R m → c ∈ callsM t → Reach c.1
/-- calls by modes that there are -/
structure Calls : Prop where
  start : ∀ c ∈ callsM S, 0 ≤ c.1 ∧ c.1 < n
  step : ∀ (m : Nat), m < n → ∀ t ∈ R m, ∀ c ∈ callsM t, 0 ≤ c.1 ∧ c.1 < n
/-- found so far; calls still to look at: those of the terms on the stack, and cs -/
structure RInv (l : List Int) (st : List Trm) (cs : List (Int × Int)) : Prop where
  nd : l.Nodup
  rch : ∀ i ∈ l, Reach S R i
  src : ∀ t ∈ st, ∀ c ∈ callsM t, Reach S R c.1
  csr : ∀ c ∈ cs, Reach S R c.1
  s0 : S ∈ st ∨ ∀ c ∈ callsM S, c.1 ∈ l ∨ c ∈ cs
  sm : ∀ m : Nat, (m : Int) ∈ l → ∀ t ∈ R m, t ∈ st ∨ ∀ c ∈ callsM t, c.1 ∈ l ∨ c ∈ cs
variable {S R n}
theorem RInv.done {l : List Int} (h : RInv S R l [] []) (hn : Calls S R n) (i : Int) : i ∈ l ↔ Reach S R i := by
  refine ⟨h.rch i, fun r => ?_⟩
  induction r with
  | @start c hc =>
    rcases h.s0 with q | q
    · cases q
    · rcases q c hc with q | q
      · exact q
      · cases q
  | @step m t c hm ht hc ih =>
    rcases h.sm m ih t ht with q | q
    · cases q
    · rcases q c hc with q | q
      · exact q
      · cases q
end
noncomputable section
def rulesAt (ms : List (Str × List Trm)) (k : Nat) : List Trm := match ms[k]? with
  | some p => p.2
  | none => []
section
variable {t : Trn} {B : Nat} (hB : ∀ p ∈ t.modes, p.2.length ≤ B) (hc : Calls t.start (rulesAt t.modes) t.modes.length) (hm : t.modes.length + (B * t.modes.length + 1) ≤ 10000)
include hB hc hm
variable {f0 : List D → R Ow} (hf : ∀ u, (u = t.start ∨ ∃ p ∈ t.modes, u ∈ p.2) → f0 [encM u] = .ok (encCs (callsM u)) ∧ Nice (encM u) ∧ (encM u).depth ≤ 100)
include hf
end
end
end Mir
set_option Elab.async false
set_option linter.all false
set_option maxRecDepth 100000
set_option maxHeartbeats 4000000
namespace Mir
open PySem PySem.Spec L2
def scD (ns : List Int) : PyData := .list (ns.map PyData.int)
theorem sc_len (ns : List Int) : gLen [scD ns] = some (.d (.int (ns.length : Nat))) := by
  have : gLen [scD ns] = some (Ow.d (.int (ns.map PyData.int).length)) := rfl
  rw [this, List.length_map]
theorem sc_ix {ns : List Int} {k : Nat} {z : Int} (h : ns[k]? = some z) : gIx (scD ns) (.int (k : Nat)) = some (.int z) := by
  show atI (ns.map PyData.int) _ = _
  exact atI_natD (by rw [List.getElem?_map, h]; rfl)
noncomputable section
abbrev bCell : Ev → SR := (sSeq (sIf (eB (eBin gLt (eVar 1) (eM (eCa gLen (aCons (eVar 0) aNil)) viewD)) asB)
    (sRet (eM (eBin gIx (eVar 0) (eVar 1)) Ow.d))
    sSkip)
    (sRet (eM (eC (.int 0)) Ow.d)))
def scCell (ns : List Int) (k : Nat) : Int := ns.getD k 0
theorem cell_fin (ns : List Int) (k : Nat) : finR (bCell (envOf 0 [scD ns, .int (k : Nat)])) = .ok (.d (.int (scCell ns k))) := by
  have hl := sc_len ns
  unfold scCell
  rw [List.getD_eq_getElem?_getD]
  by_cases h : k < ns.length
  · have ix := sc_ix (List.getElem?_eq_getElem h)
    have h' : (k : Int) < (ns.length : Nat) := by omega
    rw [List.getElem?_eq_getElem h]
    generalize scD ns = S at hl ix
    have he : envOf 0 [S, .int (k : Nat)] = [some (.d S), some (.d (.int (k : Nat)))] := rfl
    rw [he]
    simp [hl, ix, h, h']
  · have h' : ¬ (k : Int) < (ns.length : Nat) := by omega
    rw [List.getElem?_eq_none (by omega)]
    generalize scD ns = S at hl
    have he : envOf 0 [S, .int (k : Nat)] = [some (.d S), some (.d (.int (k : Nat)))] := rfl
    rw [he]
    simp [hl, h, h']
end
end Mir
set_option Elab.async false
set_option linter.all false
set_option maxRecDepth 100000
set_option maxHeartbeats 4000000
namespace Mir
open PySem PySem.Spec L2
def brOf : List Rw → Str → Option (List Str)
  | [], _ => none
  | r :: rs, nm => if r.nm == nm then some r.br else brOf rs nm
mutual
def isOf (w : Wood) : Tr → Str → Bool
  | .mk nm _ bs, k => match brOf (rowsOf w k) nm with
    | none => false
    | some ks => decide (ks.length = bs.length) && isOfs w bs ks
def isOfs (w : Wood) : List Tr → List Str → Bool
  | [], _ => true
  | _ :: _, [] => true
  | b :: bs, k :: ks => isOf w b k && isOfs w bs ks
end
noncomputable section
def mkOf (kp : Bool) (ad mk : Int) : Int := if kp then ad + mk else ad
end
end Mir
set_option Elab.async false
set_option linter.all false
set_option maxRecDepth 100000
set_option maxHeartbeats 4000000
namespace Mir
open PySem PySem.Spec L2
def onStep (i : Int) (l : List Int) (c : Int × Int) : List Int := if c.2 = i ∧ c.1 ∉ l then l ++ [c.1] else l
def onAll (i : Int) (cs : List (Int × Int)) (l : List Int) : List Int := cs.foldl (onStep i) l
def risen (l : List Int) : List Int := l.mergeSort fun a b => decide (a ≤ b)
noncomputable section
/-- the modes in which terms call a branch, rising -/
def modesOn (i : Int) (Ts : List Trm) : List Int := risen (onAll i (callsMs Ts) [])
end
def trNm : Tr → Str
  | .mk n _ _ => n
def trBs : Tr → List Tr
  | .mk _ _ bs => bs
def noTm : Trm := .call 0 0
def noTr : Tr := .mk "" 0 []
/-- the rule of a mode for a name -/
def ruleT (t : Trn) (m : Int) (nm : Str) : Option Trm := match t.modes[m.toNat]? with
  | none => none
  | some p => match numOf (rowsOf t.wood p.1) nm 0 with
    | none => none
    | some i => p.2[i]?
def ruleF (t : Trn) (m : Int) (nm : Str) : Trm := (ruleT t m nm).getD noTm
mutual
def madB (mk : Int) (fs : List (Int → Tr)) : Trm → Tr
  | .call m b => (fs.getD b.toNat fun _ => noTr) m
  | .put nm kp ad ps => .mk nm (mkOf kp ad mk) (madBs mk fs ps)
def madBs (mk : Int) (fs : List (Int → Tr)) : List Trm → List Tr
  | [] => []
  | p :: ps => madB mk fs p :: madBs mk fs ps
end
mutual
def madT (t : Trn) : Tr → Trm → Tr
  | .mk _ mk bs => madB mk (madTs t bs)
def madTs (t : Trn) : List Tr → List (Int → Tr)
  | [] => []
  | b :: bs => (fun m => madT t b (ruleF t m (trNm b))) :: madTs t bs
end
/-- size and levels -/
def mesD (o : Tr) : D := .tuple [.int (sizeT o : Nat), .int (levT o : Nat)]
noncomputable section
end
end Mir
set_option Elab.async false
set_option linter.all false
set_option maxRecDepth 100000
set_option maxHeartbeats 4000000
namespace Mir
open PySem PySem.Spec L2
/-- the calls of a term fit branches of these kinds -/
def FitT (t : Trn) (ks : List Str) (T : Trm) : Prop := ∀ c ∈ callsM T, 0 ≤ c.1 ∧ 0 ≤ c.2 ∧ ∃ p, t.modes[c.1.toNat]? = some p ∧ ks[c.2.toNat]? = some p.1
structure GoodM (B : Nat) (T : Trm) : Prop where
  ok : okM T
  lev : levM T ≤ B
  few : sizeM T ≤ 1000
structure SndT (t : Trn) (B : Nat) : Prop where
  few : t.modes.length ≤ 1000
  wide : ∀ k nm ks, brOf (rowsOf t.wood k) nm = some ks → ks.length ≤ 1000
  lens : ∀ p ∈ t.modes, p.2.length = (rowsOf t.wood p.1).length
  fits : ∀ p ∈ t.modes, ∀ (i : Nat) (row : Rw) (T : Trm), (rowsOf t.wood p.1)[i]? = some row → p.2[i]? = some T → FitT t row.br T ∧ GoodM B T
/-- what below_of tells -/
def prsB (t : Trn) (Ts : List Trm) (i : Nat) (b : Tr) : List (D × D) := (modesOn (i : Int) Ts).map fun m => (PyData.int m, mesD (madT t b (ruleF t m (trNm b))))
def belL (t : Trn) (Ts : List Trm) : Nat → List Tr → List D
  | _, [] => []
  | i, b :: bs => .dict (prsB t Ts i b) :: belL t Ts (i + 1) bs
noncomputable section
end
end Mir
set_option Elab.async false
set_option linter.all false
set_option maxRecDepth 100000
set_option maxHeartbeats 4000000
namespace Mir
open PySem PySem.Spec L2
noncomputable section
@[simp] theorem R.map_exc {α β : Type} (f : α → β) (c : Str) : R.map f (.ex c) = .ex c := rfl
@[simp] theorem R.bind_exc {α β : Type} (f : α → R β) (c : Str) : R.bind (.ex c) f = .ex c := rfl
@[simp] theorem R.st_exc {α : Type} (env : Ev) (f : α → SR) (c : Str) : (R.ex c : R α).st env f = .ex c env := rfl
@[simp] theorem andThen_exc (c : Str) (env : Ev) (g : Ev → SR) : (SR.ex c env).andThen g = .ex c env := rfl
@[simp] theorem finR_exc (c : Str) (env : Ev) : finR (.ex c env) = .ex c := rfl
/-- what the walk of a branch needs -/
structure BrOk (t : Trn) (Ts : List Trm) (f5 f9 f10 f11 : List D → R Ow) (j : Nat) (b : Tr) : Prop where
  few : (modesOn (j : Int) Ts).length ≤ 1000
  h9 : f9 [trsD Ts, .int (j : Nat)] = .ok (.l ((modesOn (j : Int) Ts).map fun m => .d (.int m)))
  h5 : ∀ m ∈ modesOn (j : Int) Ts, f5 [encTn t, .int m, .str (trNm b)] = .ok (.d (encM (ruleF t m (trNm b))))
  h11 : f11 [encTn t, trsD ((modesOn (j : Int) Ts).map fun m => ruleF t m (trNm b)), encT b] = .ok (.l ((belL t ((modesOn (j : Int) Ts).map fun m => ruleF t m (trNm b)) 0 (trBs b)).map Ow.d))
  h10 : ∀ m ∈ modesOn (j : Int) Ts, f10 [encM (ruleF t m (trNm b)), .list (belL t ((modesOn (j : Int) Ts).map fun m => ruleF t m (trNm b)) 0 (trBs b))] = .ok (.d (mesD (madT t b (ruleF t m (trNm b)))))
end
end Mir
set_option Elab.async false
set_option linter.all false
set_option maxRecDepth 100000
set_option maxHeartbeats 4000000
namespace Mir
open PySem PySem.Spec L2
/-- names below sixteen, told apart -/
def KnInj (kn : Nat → Str) : Prop := ∀ i j, i < 16 → j < 16 → kn i = kn j → i = j
theorem WdOk.kinds {w : Wood} {kn : Nat → Str} (h : WdOk w kn) (hk : KnInj kn) : (w.map (·.1)).Nodup := by
  unfold List.Nodup
  rw [List.pairwise_iff_getElem]
  intro i j hi hj hij e
  rw [List.length_map] at hi hj
  have hf := h.few
  rw [List.getElem_map, List.getElem_map] at e
  have a := h.at_ i _ (List.getElem?_eq_getElem hi)
  have b := h.at_ j _ (List.getElem?_eq_getElem hj)
  have e2 : w[i].1 = w[j].1 := e
  rw [a, b] at e2
  have := hk i j (by omega) (by omega) e2
  omega
theorem RwNm.nodup {kn : Nat → Str} {rs : List Rw} (h : RwNm kn rs) (hl : rs.length ≤ 3) (hk : KnInj kn) : (rs.map (·.nm)).Nodup := by
  obtain ⟨b, hb, hp⟩ := h
  rw [hp.nodup_iff]
  unfold List.Nodup
  rw [List.pairwise_iff_getElem]
  intro i j hi hj hij e
  rw [List.length_map, List.length_range] at hi hj
  rw [List.getElem_map, List.getElem_map, List.getElem_range, List.getElem_range] at e
  have := hk _ _ (by omega) (by omega) e
  omega
theorem rowsK_or (w : Wood) (k : Str) : rowsOf w k = [] ∨ ∃ p ∈ w, p.1 = k ∧ rowsOf w k = p.2 := by
  induction w with
  | nil => exact .inl rfl
  | cons p w ih =>
    rw [rowsOf]
    cases c : p.1 == k with
    | true => exact .inr ⟨p, List.mem_cons_self, by simpa using c, rfl⟩
    | false =>
      rcases ih with h | ⟨q, h1, h2, h3⟩
      · exact .inl h
      · exact .inr ⟨q, List.mem_cons_of_mem _ h1, h2, h3⟩
theorem brOf_in {nm : Str} : ∀ {rs : List Rw} {ks : List Str}, brOf rs nm = some ks → ∃ r ∈ rs, r.nm = nm ∧ r.br = ks
  | [], ks, h => by cases h
  | r :: rs, ks, h => by
    rw [brOf] at h
    split at h
    · rename_i c
      exact ⟨r, List.mem_cons_self, by simpa using c, Option.some.inj h⟩
    · obtain ⟨q, h1, h2⟩ := brOf_in h
      exact ⟨q, List.mem_cons_of_mem _ h1, h2⟩
/-- what the later laws need of a drawn turning -/
structure TnGd (t : Trn) : Prop where
  snd : SndT t 3
  ok : TnOk t
  kinds : (t.wood.map (·.1)).Nodup
  rows : ∀ p ∈ t.wood, (p.2.map (·.nm)).Nodup ∧ (∃ r ∈ p.2, r.br = []) ∧ ∀ r ∈ p.2, PyData.strOk r.nm = true ∧ r.br.length ≤ 4 ∧ ∀ z ∈ r.br, ∃ q ∈ t.wood, q.1 = z
  mkind : ∀ p ∈ t.modes, ∃ q ∈ t.wood, q.1 = p.1
  some : 1 ≤ t.wood.length
  stop : ∃ N, N ≤ 36 ∧ tab (mds t) (N + 1) = tab (mds t) N ∧ ∀ i, i < N → tab (mds t) (i + 1) ≠ tab (mds t) i
theorem TnMade.gd {t : Trn} {kn : Nat → Str} (m : TnMade t) (hw : WdOk t.wood kn) (hk : KnInj kn) : TnGd t := by
  have ok := m.ok hw
  refine ⟨⟨by have := m.few; omega, fun k nm ks h => ?_, fun p hp => (m.rules p hp).1, fun p hp i row T hr hT => ?_⟩, ok, hw.kinds hk, fun p hp => ?_, m.kind, hw.one, ?_⟩
  · obtain ⟨r, hr, _, e⟩ := brOf_in h
    rcases rowsK_or t.wood k with z | ⟨p, hp, _, e2⟩
    · rw [z] at hr; cases hr
    · rw [e2] at hr
      have := ((hw.rows p hp).2.2 r hr).2.1
      rw [← e]
      omega
  · obtain ⟨a, b, c, d⟩ := (m.rules p hp).2 i row T hr hT
    refine ⟨fun z hz => ?_, a, b, by omega⟩
    obtain ⟨x, y, e, q, h1, h2⟩ := d z hz
    subst e
    rw [List.getElem?_map] at h1
    cases hx : t.modes[x]? with
    | none => rw [hx] at h1; cases h1
    | some p' =>
      rw [hx] at h1
      have e : p'.1 = q := Option.some.inj h1
      exact ⟨by show (0 : Int) ≤ (x : Nat); omega, by show (0 : Int) ≤ (y : Nat); omega, p', by rw [Int.toNat_natCast]; exact hx, by rw [Int.toNat_natCast, e]; exact h2⟩
  · obtain ⟨a, b, c⟩ := hw.rows p hp
    refine ⟨(hw.rnm p hp).nodup a hk, b, fun r hr => ?_⟩
    obtain ⟨c1, c2, c3⟩ := c r hr
    refine ⟨c1, c2, fun z hz => ?_⟩
    obtain ⟨j, hj, e⟩ := c3 z hz
    exact ⟨t.wood[j], List.getElem_mem hj, by rw [e]; exact hw.at_ j _ (List.getElem?_eq_getElem hj)⟩
  · obtain ⟨N, h1, h2, h3⟩ := tab_stop (mds t) (mds_ok ok)
    refine ⟨N, ?_, h2, h3⟩
    have each : ∀ s ∈ tab (mds t) 0, cS s ≤ 9 := fun s hs => by
      obtain ⟨md, hm, rfl⟩ := List.mem_map.mp (show s ∈ (mds t).map fun m => metOf ((bares m).map (stIn [])) from hs)
      obtain ⟨p, hp, rfl⟩ := List.mem_map.mp hm
      obtain ⟨h1, _⟩ := ok.bare p hp
      obtain ⟨r, rest, e⟩ : ∃ r rest, bares (mdOf t.wood p) = r :: rest := by
        cases e : bares (mdOf t.wood p) with
        | nil => exact absurd e h1
        | cons r rest => exact ⟨r, rest, rfl⟩
      have le : leS (metOf ((bares (mdOf t.wood p)).map (stIn []))) (stIn [] r) := metOf_le (by rw [e]; simp)
      have hr : r ∈ p.2 := bares_in r (by rw [e]; simp)
      obtain ⟨i, hi, ei⟩ := List.mem_iff_getElem.mp hr
      obtain ⟨q1, q2⟩ := m.rules p hp
      have := (q2 i _ r (List.getElem?_eq_getElem (by omega)) (by rw [List.getElem?_eq_getElem hi, ei])).2.2.1
      have a := (leS_c le).1
      have b := stIn_c r
      omega
    have := cSs_le (n := 9) (ss := tab (mds t) 0) each
    rw [tab_len] at this
    have l : (mds t).length = t.modes.length := List.length_map _
    rw [l] at this
    have := m.few
    have : 9 * t.modes.length ≤ 9 * 4 := Nat.mul_le_mul_left _ this
    omega
end Mir
set_option Elab.async false
set_option linter.all false
set_option maxRecDepth 100000
set_option maxHeartbeats 4000000
namespace Mir
open PySem PySem.Spec L2
def lets (l : List Nat) : Str := tx (l.map fun d => 97 + d)
def mixI (c j : Int) : Int :=
  let n1 := c % 2147483647 + 48271 * (j + 1)
  let n2 := (n1 * n1 + 69621 * j) % 2147483647
  (n2 * n2 + 16807 * j + 1) % 2147483647
noncomputable section
/-- eight names, all unlike -/
structure Names8 (ls : List (List Nat)) : Prop where
  eight : ls.length = 8
  nd : ls.Nodup
  lets : ∀ l ∈ ls, ∀ d ∈ l, d < 26
  some : ∀ l ∈ ls, 1 ≤ l.length ∧ l.length ≤ 8
end
end Mir
set_option Elab.async false
set_option linter.all false
set_option maxRecDepth 100000
set_option maxHeartbeats 4000000
namespace Mir
open PySem PySem.Spec L2
/-- 10 ^ 59, kept shut -/
def T59 : Int := 10 ^ 59
theorem p59 : gPow (.int 10) (.int 59) = some (.int T59) := gPow10 59 (by decide)
noncomputable section
end
end Mir
set_option Elab.async false
set_option linter.all false
set_option maxRecDepth 100000
set_option maxHeartbeats 4000000
namespace Mir
open PySem PySem.Spec L2
/-- names at hand: eight, all unlike -/
structure NamesD (NS : D) (N : Nat → Str) : Prop where
  ix : ∀ i : Nat, i < 8 → gIx NS (.int (i : Nat)) = some (.str (N i))
  ne : ∀ i j : Nat, i < 8 → j < 8 → i ≠ j → N i ≠ N j
  ok : ∀ i : Nat, i < 8 → PyData.strOk (N i) = true
end Mir
set_option Elab.async false
set_option linter.all false
set_option maxRecDepth 100000
set_option maxHeartbeats 4000000
namespace Mir
open PySem PySem.Spec L2
structure NcTn (t : Trn) (B : Nat) : Prop where
  kinds : ∀ p ∈ t.wood, PyData.strOk p.1 = true
  rows : ∀ p ∈ t.wood, ∀ r ∈ p.2, PyData.strOk r.nm = true ∧ ∀ z ∈ r.br, PyData.strOk z = true
  start : okM t.start ∧ levM t.start ≤ B
  mkinds : ∀ p ∈ t.modes, PyData.strOk p.1 = true
  rules : ∀ p ∈ t.modes, ∀ T ∈ p.2, okM T ∧ levM T ≤ B
end Mir
set_option Elab.async false
set_option linter.all false
set_option maxRecDepth 100000
set_option maxHeartbeats 4000000
namespace Mir
open PySem PySem.Spec L2
noncomputable section
abbrev stB (f5 : List D → R Ow) : Ev → SR := (sSeq (sSet 2 (eM (eBin gIx (eBin gIx (eVar 2) (eC (.int 2))) (eBin gIx (eVar 1) (eC (.int 2)))) Ow.d))
    (sSet 1 (eM (eM (eB (aCons (eVar 0) (aCons (eBin gIx (eVar 1) (eC (.int 1))) (aCons (eBin gIx (eVar 2) (eC (.int 0))) aNil))) f5) viewD) Ow.d)))
end
end Mir
set_option Elab.async false
set_option linter.all false
set_option maxRecDepth 100000
set_option maxHeartbeats 4000000
namespace Mir
open PySem PySem.Spec L2
/-- a wood whose kinds and rows are told apart, each kind with a row without branches -/
structure WoodOk (w : Wood) : Prop where
  some : 1 ≤ w.length ∧ w.length ≤ 3
  kinds : (w.map (·.1)).Nodup
  kok : ∀ p ∈ w, PyData.strOk p.1 = true
  few : ∀ p ∈ w, p.2.length ≤ 3
  dist : ∀ p ∈ w, (p.2.map (·.nm)).Nodup
  rok : ∀ p ∈ w, ∀ r ∈ p.2, PyData.strOk r.nm = true ∧ r.br.length ≤ 3 ∧ ∀ z ∈ r.br, z ∈ w.map (·.1)
  leaf : ∀ p ∈ w, ∃ r ∈ p.2, r.br = []
noncomputable section
section
variable {f13 : List D → R Ow} (h13 : ∀ (c : Int) (j : Nat), j ≤ 1000 → f13 [.int c, .int (j : Nat)] = .ok (.d (.int (mixI c (j : Nat))))) {N : Nat → Str} {NS : PyData} (hN : NamesD NS N) {n : Nat} (hn : 1 ≤ n ∧ n ≤ 3) (c : Int)
include h13 hN hn
end
end
end Mir
set_option Elab.async false
set_option linter.all false
set_option maxRecDepth 100000
set_option maxHeartbeats 4000000
namespace Mir.W3
open PySem PySem.Spec L2
noncomputable section
section
variable {f13 : List D → R Ow} (h13 : ∀ (c : Int) (j : Nat), j ≤ 1000 → f13 [.int c, .int (j : Nat)] = .ok (.d (.int (mixI c (j : Nat))))) {N : Nat → Str} {NS : PyData} (hN : NamesD NS N) {n : Nat} (hn : 1 ≤ n ∧ n ≤ 3) (c : Int)
include h13 hN hn
end
end
end Mir.W3
set_option Elab.async false
set_option linter.all false
set_option maxRecDepth 100000
set_option maxHeartbeats 4000000
namespace Mir
open PySem PySem.Spec L2
instance : Inhabited Trm := ⟨noTm⟩
structure DrawnM (cs : List (Int × Int)) (d : Nat) (T : Trm) : Prop where
  ok : okM T
  lev : levM T ≤ d + 1
  size : sizeM T + 1 ≤ 2 ^ (d + 1)
  calls : ∀ c ∈ callsM T, c ∈ cs
def csD (cs : List (Int × Int)) : PyData := .list (cs.map encC)
noncomputable section
end
end Mir
set_option Elab.async false
set_option linter.all false
set_option maxRecDepth 100000
set_option maxHeartbeats 4000000
namespace Mir
open PySem PySem.Spec L2
def clsAt (bs os : List Str) (b : Nat) : List (Int × Int) := ((List.range os.length).filter fun m => os.getD m "" == bs.getD b "").map fun m : Nat => ((m : Int), (b : Int))
def clsOf (bs os : List Str) : List (Int × Int) := ((List.range bs.length).map (clsAt bs os)).flatten
noncomputable section
def osD (os : List Str) : PyData := .list (os.map PyData.str)
/-- branches, as a list or a tuple -/
structure IsBr (BD : D) (bs : List Str) : Prop where
  len : gLen [BD] = some (.d (.int (bs.length : Nat)))
  ix : ∀ b, b < bs.length → gIx BD (.int (b : Nat)) = some (.str (bs.getD b ""))
def small250 (x : Int) : Prop := x.natAbs < 2 ^ 250
end
end Mir
set_option Elab.async false
set_option linter.all false
set_option maxRecDepth 100000
set_option maxHeartbeats 4000000
namespace Mir
open PySem PySem.Spec L2
structure TnDrawn (t : Trn) (os : List Str) : Prop where
  cnt : 1 ≤ os.length ∧ os.length ≤ 4
  kinds : ∀ z ∈ os, z ∈ t.wood.map (·.1)
  len : t.modes.length = os.length
  mode : ∀ (m : Nat) (p : Str × List Trm), t.modes[m]? = some p → p.1 = os.getD m "" ∧ p.2.length = (rowsOf t.wood p.1).length ∧ ∀ (i : Nat) (row : Rw) (T : Trm), (rowsOf t.wood p.1)[i]? = some row → p.2[i]? = some T → DrawnM (clsOf row.br os) 2 T
  start : DrawnM (clsOf [(t.wood.map (·.1)).getD 0 ""] os) 2 t.start
noncomputable section
section
variable {f12 f13 f17 f18 : List D → R Ow} {SC NS : PyData} {cell : Nat → Int} (h12 : ∀ k : Nat, f12 [SC, .int (k : Nat)] = .ok (.d (.int (cell k))))
  (h17 : ∀ (c : Int) (cs : List (Int × Int)) (kp : Bool), ∃ T, DrawnM cs 2 T ∧ f17 [.int c, .int 0, .int 2, csD cs, NS, .bool kp] = .ok (.d (encM T)))
  (h18 : ∀ (BD : D) (bs os : List Str), IsBr BD bs → bs.length ≤ 3 → os.length ≤ 10 → f18 [BD, osD os] = .ok (.l ((clsOf bs os).map fun c => .d (encC c))))
include h12 h17 h18
variable (h13 : ∀ (c : Int) (j : Nat), j ≤ 1000 → f13 [.int c, .int (j : Nat)] = .ok (.d (.int (mixI c (j : Nat)))))
include h13
end
end
end Mir
set_option Elab.async false
set_option linter.all false
set_option maxRecDepth 100000
set_option maxHeartbeats 4000000
namespace Mir
open PySem PySem.Spec L2
structure Nd where
  kind : Str
  lev : Nat
  row : Option Rw
  mark : Int
  kids : List Nat
structure NdOk (w : Wood) (top : Nat) (ns : List Nd) (i : Nat) (n : Nd) : Prop where
  kind : n.kind ∈ w.map (·.1)
  lev : 1 ≤ n.lev ∧ n.lev ≤ top
  mark : small250 n.mark
  bare : n.row = none → n.kids = []
  full : ∀ r, n.row = some r → r ∈ rowsOf w n.kind ∧ r.br ≠ [] ∧ n.kids.length = r.br.length ∧ ∀ (j k : Nat), n.kids[j]? = some k → i < k ∧ ∃ c, ns[k]? = some c ∧ r.br[j]? = some c.kind ∧ c.lev = n.lev + 1
structure GInv (w : Wood) (top : Nat) (ns : List Nd) (bare : List Nat) : Prop where
  root : ∃ n0, ns[0]? = some n0 ∧ n0.kind = (w.map (·.1)).getD 0 ("" : Str)
  each : ∀ (i : Nat) (n : Nd), ns[i]? = some n → NdOk w top ns i n
  bnd : bare.Nodup
  bare : ∀ b ∈ bare, ∃ n, ns[b]? = some n ∧ n.row = none
noncomputable section
end
end Mir
set_option Elab.async false
set_option linter.all false
set_option maxRecDepth 100000
set_option maxHeartbeats 4000000
namespace Mir
open PySem PySem.Spec L2
noncomputable section
end
end Mir
set_option Elab.async false
set_option linter.all false
set_option maxRecDepth 100000
set_option maxHeartbeats 4000000
namespace Mir
open PySem PySem.Spec L2
noncomputable section
section
variable {w : Wood} (hw : WoodOk w) (CE : D) (top : Nat)
include hw
variable {f13 f20 : List D → R Ow} (h13 : ∀ (c : Int) (j : Nat), j ≤ 1000 → f13 [.int c, .int (j : Nat)] = .ok (.d (.int (mixI c (j : Nat))))) (h20 : ∀ c z : Int, ∃ x : Int, small250 x ∧ f20 [.int c, .int z] = .ok (.d (.int x)))
include h13 h20
end
end
end Mir
set_option Elab.async false
set_option linter.all false
set_option maxRecDepth 100000
set_option maxHeartbeats 4000000
namespace Mir
open PySem PySem.Spec L2
mutual
def smallT : Tr → Prop
  | .mk _ k bs => small250 k ∧ smallTs bs
def smallTs : List Tr → Prop
  | [] => True
  | b :: bs => smallT b ∧ smallTs bs
end
structure GoodT (w : Wood) (top : Nat) (n : Nd) (t : Tr) : Prop where
  is : isOf w t n.kind = true
  lev : levT t + n.lev ≤ top + 1
  small : smallT t
  ok : okT t
noncomputable section
section
variable {w : Wood} (hw : WoodOk w) {top : Nat} {ns : List Nd} {bare : List Nat} (hI : GInv w top ns bare) (hl : ns.length ≤ 200) {f13 : List D → R Ow} (h13 : ∀ (c : Int) (j : Nat), j ≤ 1000 → f13 [.int c, .int (j : Nat)] = .ok (.d (.int (mixI c (j : Nat)))))
include hw hI hl h13
end
end
end Mir
set_option Elab.async false
set_option linter.all false
set_option maxRecDepth 100000
set_option maxHeartbeats 4000000
namespace Mir
open PySem PySem.Spec L2
noncomputable section
end
end Mir
set_option Elab.async false
set_option linter.all false
set_option maxRecDepth 100000
set_option maxHeartbeats 4000000
namespace Mir
open PySem PySem.Spec L2
section
variable {t : Trn} (gd : TnGd t)
include gd
end
/-- the kind's leaf -/
def leafT (w : Wood) (k : Str) : Tr := .mk ((((rowsOf w k).filter fun r => r.br.isEmpty).map (·.nm)).getD 0 "") 0 []
theorem leaf_lev (w : Wood) (k : Str) : levT (leafT w k) = 1 := by unfold leafT; rw [levT, levTs]
section
variable {t : Trn} (gd : TnGd t)
include gd
end
/-- what a mode makes of a tree -/
def outT (t : Trn) (m : Nat) (u : Tr) : Tr := madT t u (ruleF t (m : Int) (trNm u))
def trAt : Tr → List Nat → Option Tr
  | u, [] => some u
  | .mk _ _ bs, j :: q => match bs[j]? with
    | some b => trAt b q
    | none => none
abbrev Lab := Str × Int × Nat
def labT : Tr → Lab
  | .mk nm k bs => (nm, k, bs.length)
end Mir
set_option Elab.async false
set_option linter.all false
set_option maxRecDepth 100000
set_option maxHeartbeats 4000000
namespace Mir
open PySem PySem.Spec L2
section
variable {t : Trn} (gd : TnGd t)
include gd
end
section
variable {t : Trn} (gd : TnGd t)
include gd
end
end Mir
set_option Elab.async false
set_option linter.all false
set_option maxRecDepth 100000
set_option maxHeartbeats 4000000
namespace Mir
open PySem PySem.Spec L2
noncomputable section
end
end Mir
set_option Elab.async false
set_option linter.all false
set_option maxRecDepth 100000
set_option maxHeartbeats 4000000
namespace Mir
open PySem PySem.Spec L2
noncomputable section
end
end Mir
set_option Elab.async false
set_option linter.all false
set_option maxRecDepth 100000
set_option maxHeartbeats 4000000
namespace Mir
open PySem PySem.Spec L2
noncomputable section
section
variable {t : Trn} {m N : Nat} {f0 f9 f11 f20 : List D → R Ow}
end
end
end Mir
set_option Elab.async false
set_option linter.all false
set_option maxRecDepth 100000
set_option maxHeartbeats 4000000
namespace Mir
open PySem PySem.Spec L2
noncomputable section
end
end Mir
set_option Elab.async false
set_option linter.all false
set_option maxRecDepth 100000
set_option maxHeartbeats 4000000
namespace Mir
open PySem PySem.Spec L2
noncomputable section
end
end Mir
set_option Elab.async false
set_option linter.all false
set_option maxRecDepth 100000
set_option maxHeartbeats 4000000
namespace Mir
open PySem PySem.Spec L2
section
variable {t : Trn} (gd : TnGd t)
include gd
end
/-- what a split must be -/
structure SplitAt (t : Trn) (m : Nat) (q : List Nat) (k : Nat) (v u : Tr) : Prop where
  kind : ∀ p, t.modes[m]? = some p → isOf t.wood v p.1 = true ∧ isOf t.wood u p.1 = true
  lev : levT v = 1 ∧ levT u ≤ k + 1 ∧ (if levT v < levT u then levT u else levT v) = k + 1
  part : ∃ y z, trAt (outT t m v) q = some y ∧ trAt (outT t m u) q = some z ∧ labT y ≠ labT z
section
variable {t : Trn} (gd : TnGd t)
include gd
end
end Mir
set_option Elab.async false
set_option linter.all false
set_option maxRecDepth 100000
set_option maxHeartbeats 4000000
namespace Mir
open PySem PySem.Spec L2
section
variable {t : Trn} (gd : TnGd t)
include gd
end
end Mir
set_option Elab.async false
set_option linter.all false
set_option maxRecDepth 100000
set_option maxHeartbeats 4000000
namespace Mir
open PySem PySem.Spec L2
noncomputable section
end
end Mir
set_option Elab.async false
set_option linter.all false
set_option maxRecDepth 100000
set_option maxHeartbeats 4000000
namespace Mir
open PySem PySem.Spec L2
noncomputable section
end
end Mir
set_option Elab.async false
set_option linter.all false
set_option maxRecDepth 100000
set_option maxHeartbeats 4000000
namespace Mir
open PySem PySem.Spec L2
structure Dm where
  pl : List Nat
  tm : Option (Int × Int)
  kd : Str
noncomputable section
end
end Mir
set_option Elab.async false
set_option linter.all false
set_option maxRecDepth 100000
set_option maxHeartbeats 4000000
namespace Mir
open PySem PySem.Spec L2
noncomputable section
end
end Mir
set_option Elab.async false
set_option linter.all false
set_option maxRecDepth 100000
set_option maxHeartbeats 4000000
namespace Mir
open PySem PySem.Spec L2
noncomputable section
end
mutual
def plM (c : Nat) : Trm → Prop
  | .call _ _ => False
  | .put nm _ _ ps => PyData.strOk nm = true ∧ ps.length ≤ c ∧ plMs c ps
def plMs (c : Nat) : List Trm → Prop
  | [] => True
  | p :: ps => plM c p ∧ plMs c ps
end
end Mir
set_option Elab.async false
set_option linter.all false
set_option maxRecDepth 100000
set_option maxHeartbeats 4000000
namespace Mir
open PySem PySem.Spec L2
/-- a call that the law has to give: mode, branch, the kind of what comes -/
structure Cl3 where
  m : Nat
  b : Nat
  kd : Str
noncomputable section
end
end Mir
set_option Elab.async false
set_option linter.all false
set_option maxRecDepth 100000
set_option maxHeartbeats 4000000
namespace Mir
open PySem PySem.Spec L2
noncomputable section
end
end Mir
set_option Elab.async false
set_option linter.all false
set_option maxRecDepth 100000
set_option maxHeartbeats 4000000
namespace Mir
open PySem PySem.Spec L2
noncomputable section
theorem forL_nx {g : D → Ev → Option Ev} {f : Ev → SR} {d : D} {ds : List D} {env env1 env2 : Ev} (hg : g d env = some env1) (hf : f env1 = .nx env2) : forL g f (d :: ds) env = forL g f ds env2 := by
  rw [forL, hg]
  simp only
  rw [hf]
end
end Mir
set_option Elab.async false
set_option linter.all false
set_option maxRecDepth 100000
set_option maxHeartbeats 4000000
namespace Mir
open PySem PySem.Spec L2
noncomputable section
def joinWs (s : Wo) : List (List Wo) → List Wo
  | [] => []
  | p :: ps => p ++ (ps.map fun q => s :: q).flatten
def splitA (s : Wo) (cur : List Wo) : List Wo → List (List Wo)
  | [] => [cur]
  | w :: ws => if w = s then cur :: splitA s [] ws else splitA s (cur ++ [w]) ws
theorem split_piece {s : Wo} : ∀ {p : List Wo} (cur rest : List Wo), s ∉ p → splitA s cur (p ++ rest) = splitA s (cur ++ p) rest
  | [], cur, rest, _ => by simp
  | w :: p, cur, rest, h => by
    have hw : w ≠ s := fun e => h (by rw [e]; exact List.mem_cons_self)
    rw [List.cons_append, splitA, if_neg hw, split_piece _ _ fun m => h (List.mem_cons_of_mem _ m), List.append_assoc]
    rfl
theorem split_rest {s : Wo} : ∀ (ps : List (List Wo)) (cur : List Wo), (∀ p ∈ ps, s ∉ p) → splitA s cur ((ps.map fun q => s :: q).flatten) = cur :: ps
  | [], cur, _ => by simp [splitA]
  | p :: ps, cur, h => by
    rw [List.map_cons, List.flatten_cons, List.cons_append, splitA, if_pos rfl, split_piece _ _ (h p List.mem_cons_self), List.nil_append, split_rest ps p fun q hq => h q (List.mem_cons_of_mem _ hq)]
theorem split_join {s : Wo} {ps : List (List Wo)} (h : ∀ p ∈ ps, s ∉ p) (hn : ps ≠ []) : splitA s [] (joinWs s ps) = ps := by
  cases ps with
  | nil => exact absurd rfl hn
  | cons p ps =>
    rw [joinWs, split_piece _ _ (h p List.mem_cons_self), List.nil_append, split_rest ps p fun q hq => h q (List.mem_cons_of_mem _ hq)]
abbrev rowWD (ws : List Wo) : D := .list (ws.map fun w => .str (tx w))
abbrev rowWO (ws : List Wo) : Ow := .l (ws.map fun w => .d (.str (tx w)))
abbrev partB : Ev → SR := (sIf (eB (eBin gEq (eVar 3) (eVar 1)) asB)
    (sApp 2 (eLst aNil))
    (sPApp (pIx (pVar 2) (eB (eC (.int 1)) gNeg)) (eM (eVar 3) Ow.d)))
abbrev bParted : Ev → SR := (sSeq (sSet 2 (eLstO (oCons (eLst aNil) oNil)))
    (sSeq (sFor (eB (eVar 0) itD) (gtName 3)
    partB)
    (sRetV 2)))
theorem gEqW (a b : Wo) : gEq (.str (tx a)) (.str (tx b)) = some (.bool (decide (a = b))) := by
  show (some (PyData.bool (tx a == tx b)) : Option D) = _
  congr 2
  by_cases h : a = b
  · subst h; simp
  · have : tx a ≠ tx b := fun e => h (tx_inj e)
    simp [h, this]
theorem sPApp_ofW {p : Ev → R Pl} {f : Ev → R Ow} {env : Ev} {os : List Ow} {bk : Ow → Ev} {r : Ow} (hp : p env = .ok (.l os, bk)) (hf : f env = .ok r) (hl : os.length < sizeLine) : sPApp p f env = .nx (bk (.l (os ++ [r]))) := by
  unfold sPApp ownP
  rw [hp, R.st_ok]
  simp only
  rw [hf, R.st_ok, if_pos hl]
theorem part_step (RD : D) (s w : Wo) (P : List (List Wo)) (cur : List Wo) (x3 : Option Ow) (hP : P.length ≤ 100000) (hc : cur.length ≤ 100000) :
    partB [some (.d RD), some (.d (.str (tx s))), some (.l ((P ++ [cur]).map rowWO)), some (.d (.str (tx w)))] = .nx [some (.d RD), some (.d (.str (tx s))), some (.l ((if w = s then P ++ [cur] ++ [[]] else P ++ [cur ++ [w]]).map rowWO)), some (.d (.str (tx w)))] := by
  have q := gEqW w s
  have ct : (eB (eBin gEq (eVar 3) (eVar 1)) asB) [some (.d RD), some (.d (.str (tx s))), some (.l ((P ++ [cur]).map rowWO)), some (.d (.str (tx w)))] = .ok (decide (w = s)) := by
    generalize ((P ++ [cur]).map rowWO) = PO
    simp [q]
  show sIf _ _ _ _ = _
  rw [sIf_eq, ct, R.st_ok]
  have len : ((P ++ [cur]).map rowWO).length = P.length + 1 := by simp
  by_cases h : w = s
  · rw [decide_eq_true h, if_pos rfl, if_pos h, List.map_append (l₂ := [[]])]
    generalize ((P ++ [cur]).map rowWO) = PO at *
    have : PO.length < 16777216 := by omega
    simp [ownL, sizeLine_eq, this, rowWO]
  · rw [decide_eq_false h, if_neg (by simp), if_neg h]
    have gx : ixN ((P ++ [cur]).map rowWO).length (-1) = some P.length := by
      rw [len]
      unfold ixN
      rw [if_neg (by omega), if_pos (by omega)]
      congr 1
      omega
    have at1 : ((P ++ [cur]).map rowWO)[P.length]? = some (rowWO cur) := by
      rw [List.map_append, List.getElem?_append_right (by simp)]
      simp
    obtain ⟨E, hE⟩ : ∃ E : Ev, E = [some (.d RD), some (.d (.str (tx s))), some (.l ((P ++ [cur]).map rowWO)), some (.d (.str (tx w)))] := ⟨_, rfl⟩
    have hp : pIx (pVar 2) (eB (eC (.int 1)) gNeg) E = .ok (rowWO cur, fun o' => E.set 2 (some (.l (((P ++ [cur]).map rowWO).set P.length o')))) := by
      have v2 : pVar 2 E = .ok (.l ((P ++ [cur]).map rowWO), fun o' => E.set 2 (some o')) := by rw [hE]; rfl
      unfold pIx
      rw [v2, R.bind_ok]
      have ng : (eB (eC (.int 1)) gNeg) E = .ok (.int (-1)) := rfl
      rw [ng, R.bind_ok]
      unfold ixP
      simp only [gx, at1]
    rw [← hE]
    rw [sPApp_ofW hp (r := .d (.str (tx w))) (by rw [hE]; generalize ((P ++ [cur]).map rowWO) = PO; simp) (by rw [List.length_map, sizeLine_eq]; omega), hE]
    have e : ((P ++ [cur]).map rowWO).set P.length (.l ((cur.map fun w => Ow.d (.str (tx w))) ++ [.d (.str (tx w))])) = (P ++ [cur ++ [w]]).map rowWO := by
      rw [List.map_append, List.map_append, List.set_append_right _ _ (by simp)]
      simp [rowWO]
    rw [e]
    rfl
theorem part_loop (RD : D) (s : Wo) : ∀ (ws : List Wo) (P : List (List Wo)) (cur : List Wo) (x3 : Option Ow), P.length + ws.length ≤ 100000 → cur.length + ws.length ≤ 100000 → ∃ y3, forL (gtName 3) partB (ws.map fun w => .str (tx w)) [some (.d RD), some (.d (.str (tx s))), some (.l ((P ++ [cur]).map rowWO)), x3] = .nx [some (.d RD), some (.d (.str (tx s))), some (.l ((P ++ splitA s cur ws).map rowWO)), y3]
  | [], P, cur, x3, _, _ => ⟨x3, rfl⟩
  | w :: ws, P, cur, x3, h1, h2 => by
    rw [List.length_cons] at h1 h2
    have st := part_step RD s w P cur x3 (by omega) (by omega)
    by_cases h : w = s
    · rw [if_pos h] at st
      obtain ⟨y3, e⟩ := part_loop RD s ws (P ++ [cur]) [] (some (.d (.str (tx w)))) (by simp; omega) (by simp; omega)
      refine ⟨y3, ?_⟩
      rw [splitA, if_pos h, List.map_cons, forL_nx (g := gtName 3) (env1 := [some (.d RD), some (.d (.str (tx s))), some (.l ((P ++ [cur]).map rowWO)), some (.d (.str (tx w)))]) rfl st, e, List.append_assoc]
      rfl
    · rw [if_neg h] at st
      obtain ⟨y3, e⟩ := part_loop RD s ws P (cur ++ [w]) (some (.d (.str (tx w)))) (by omega) (by simp; omega)
      refine ⟨y3, ?_⟩
      rw [splitA, if_neg h, List.map_cons, forL_nx (g := gtName 3) (env1 := [some (.d RD), some (.d (.str (tx s))), some (.l ((P ++ [cur]).map rowWO)), some (.d (.str (tx w)))]) rfl st, e]
theorem parted_fin (ws : List Wo) (s : Wo) (hl : ws.length ≤ 100000) : finR (bParted (envOf 2 [rowWD ws, .str (tx s)])) = .ok (.l ((splitA s [] ws).map rowWO)) := by
  have he : envOf 2 [rowWD ws, .str (tx s)] = [some (.d (rowWD ws)), some (.d (.str (tx s))), none, none] := rfl
  rw [he]
  refine fin_step (env1 := [some (.d (rowWD ws)), some (.d (.str (tx s))), some (.l (([] ++ [[]]).map rowWO)), none]) (by
    generalize rowWD ws = RD
    simp [sizeLine_eq, rowWO]) ?_
  obtain ⟨y3, e⟩ := part_loop (rowWD ws) s ws [] [] none (by simpa using hl) (by simpa using hl)
  have it : (eB (eVar 0) itD) [some (.d (rowWD ws)), some (.d (.str (tx s))), some (.l (([] ++ [[]]).map rowWO)), none] = .ok (ws.map fun w => .str (tx w)) := rfl
  refine fin_step (by rw [sFor_eq, it, R.st_ok]; exact e) ?_
  rfl
end
end Mir
set_option Elab.async false
set_option linter.all false
set_option maxRecDepth 100000
set_option maxHeartbeats 4000000
namespace Mir
open PySem PySem.Spec L2
noncomputable section
def NmW (w : Wo) : Prop := w ≠ [] ∧ (∀ x ∈ w, isL x = true) ∧ w.length ≤ 8
theorem NmW.ok {w : Wo} (h : NmW w) : PyData.strOk (tx w) = true := strOk_tx fun c hc => isL_small (h.2.1 c hc)
abbrev WdR := Wo × List Wo
abbrev WdK := Wo × List WdR
structure OkR (r : WdR) : Prop where
  nm : NmW r.1
  few : r.2.length ≤ 4
  br : ∀ b ∈ r.2, NmW b
structure OkK (k : WdK) : Prop where
  nm : NmW k.1
  some : k.2 ≠ []
  few : k.2.length ≤ 100
  rows : ∀ r ∈ k.2, OkR r
end
end Mir
set_option Elab.async false
set_option linter.all false
set_option maxRecDepth 100000
set_option maxHeartbeats 4000000
namespace Mir
open PySem PySem.Spec L2
noncomputable section
theorem sum_le_mul {α : Type} (f : α → Nat) (c : Nat) : ∀ l : List α, (∀ a ∈ l, f a ≤ c) → (l.map f).sum ≤ l.length * c
  | [], _ => by simp
  | a :: l, h => by
    have := sum_le_mul f c l fun x hx => h x (List.mem_cons_of_mem _ hx)
    have := h a List.mem_cons_self
    rw [List.map_cons, List.sum_cons, List.length_cons, Nat.succ_mul]
    omega
end
end Mir
set_option Elab.async false
set_option linter.all false
set_option maxRecDepth 100000
set_option maxHeartbeats 4000000
namespace Mir
open PySem PySem.Spec L2
noncomputable section
structure OkWd (w : List WdK) : Prop where
  ok : ∀ k ∈ w, OkK k
  some : w ≠ []
  few : w.length ≤ 100
  nd : (w.map (·.1)).Nodup
  names : ∀ k ∈ w, (k.2.map (·.1)).Nodup
  bare : ∀ k ∈ w, ∃ r ∈ k.2, r.2 = []
  told : ∀ k ∈ w, ∀ r ∈ k.2, ∀ b ∈ r.2, b ∈ w.map (·.1)
end
end Mir
set_option Elab.async false
set_option linter.all false
set_option maxRecDepth 100000
set_option maxHeartbeats 4000000
namespace Mir
open PySem PySem.Spec L2
noncomputable section
end
end Mir
set_option Elab.async false
set_option linter.all false
set_option maxRecDepth 100000
set_option maxHeartbeats 4000000
namespace Mir
open PySem PySem.Spec L2
noncomputable section
theorem glueW_len (s : List Nat) (h : s.length ≤ 3) : ∀ l : List (List Nat), (glue s l).length ≤ (l.map fun w => w.length + 3).sum
  | [] => by simp [glue]
  | a :: r => by
    have e : ∀ r : List (List Nat), ((r.map fun b => s ++ b).flatten).length ≤ (r.map fun w => w.length + 3).sum := fun r => by
      induction r with
      | nil => simp
      | cons b r ih =>
        rw [List.map_cons, List.flatten_cons, List.length_append, List.length_append, List.map_cons, List.sum_cons]
        omega
    have := e r
    rw [glue, List.length_append, List.map_cons, List.sum_cons]
    omega
theorem sum_plusW (l : List (List Nat)) : (l.map fun w => w.length + 3).sum = (l.map List.length).sum + l.length * 3 := by
  induction l with
  | nil => rfl
  | cons a l ih => rw [List.map_cons, List.sum_cons, List.map_cons, List.sum_cons, ih, List.length_cons, Nat.succ_mul]; omega
theorem gJoinL (s : List Nat) (hs : s.length ≤ 3) (l : List (List Nat)) (B : Nat) (hl : l.length ≤ 1000) (hb : ∀ w ∈ l, w.length ≤ B) (hB : B ≤ 10000) : gJoin (.str (tx s)) (.list (l.map fun w => .str (tx w))) = some (.str (tx (glue s l))) ∧ (glue s l).length ≤ l.length * (B + 3) := by
  have a := sum_le_mul (fun w : List Nat => w.length + 3) (B + 3) l fun w hw => by have := hb w hw; omega
  have b := glueW_len s hs l
  have c := sum_plusW l
  have d : l.length * (B + 3) ≤ 1000 * 10003 := Nat.mul_le_mul hl (by omega)
  have e : l.length * s.length ≤ l.length * 3 := Nat.mul_le_mul_left _ hs
  exact ⟨gJoin_tx s l (by omega), by omega⟩
theorem semis_is : ("; " : Str) = tx [59, 32] := by rw [tx_of ("; " : Str)]; congr 1
end
end Mir
set_option Elab.async false
set_option linter.all false
set_option maxRecDepth 100000
set_option maxHeartbeats 4000000
namespace Mir
open PySem PySem.Spec L2
noncomputable section
end
end Mir
set_option Elab.async false
set_option linter.all false
set_option maxRecDepth 100000
set_option maxHeartbeats 4000000
namespace Mir
open PySem PySem.Spec L2
noncomputable section
section
variable {F G : Ev → R D} {env : Ev} {a b : List Wo}
end
end
end Mir
set_option Elab.async false
set_option linter.all false
set_option maxRecDepth 100000
set_option maxHeartbeats 4000000
namespace Mir
open PySem PySem.Spec L2
noncomputable section
end
end Mir
set_option Elab.async false
set_option linter.all false
set_option maxRecDepth 100000
set_option maxHeartbeats 4000000
namespace Mir
open PySem PySem.Spec L2
noncomputable section
section
variable {b : List Nat} {t f : Nat} {q : Bool} (ht : t < b.length) (hb : b.length ≤ 8) (hL : ∀ z ∈ b, isL z = true) (hf : f < 26) (hx : b[t]? = some (97 + f)) (hq : q = true → b.length = 8)
include ht hb hL hq in
include ht hf hx hq in
end
end
end Mir
set_option Elab.async false
set_option linter.all false
set_option maxRecDepth 100000
set_option maxHeartbeats 4000000
namespace Mir
open PySem PySem.Spec L2
inductive NT where
  | call (nm : List Nat) (k : Int)
  | put (nm : List Nat) (kp : Bool) (ad : Int) (z : Bool) (ps : List NT)
def ekW (kp : Bool) : List (List Nat) := if kp = true then [[61]] else []
def adW (ad : Int) (z : Bool) : List (List Nat) := if ad = 0 ∧ z = false then [] else [ik ad]
mutual
def wT : NT → List (List Nat)
  | .call nm k => [[42], nm, ik k]
  | .put nm kp ad z ps => nm :: (ekW kp ++ (adW ad z ++ brw (wTs ps)))
def wTs : List NT → List (List Nat)
  | [] => []
  | p :: ps => wT p ++ wTs ps
end
mutual
def encNT : NT → D
  | .call nm k => .tuple [.str "call", .str (tx nm), .int k]
  | .put nm kp ad _ ps => .tuple [.str "put", .str (tx nm), .bool kp, .int ad, .tuple (encNTs ps)]
def encNTs : List NT → List D
  | [] => []
  | p :: ps => encNT p :: encNTs ps
end
mutual
def levNT : NT → Nat
  | .call _ _ => 1
  | .put _ _ _ _ ps => levNTs ps + 1
def levNTs : List NT → Nat
  | [] => 0
  | p :: ps => max (levNT p) (levNTs ps)
end
mutual
def sizeNT : NT → Nat
  | .call _ _ => 1
  | .put _ _ _ _ ps => 1 + sizeNTs ps
def sizeNTs : List NT → Nat
  | [] => 0
  | p :: ps => sizeNT p + sizeNTs ps
end
mutual
def okNT : NT → Prop
  | .call nm k => NmW nm ∧ k.natAbs < 10 ^ 60
  | .put nm _ ad _ ps => NmW nm ∧ ad.natAbs < 10 ^ 60 ∧ ps.length ≤ 1000 ∧ okNTs ps
def okNTs : List NT → Prop
  | [] => True
  | p :: ps => okNT p ∧ okNTs ps
end
mutual
def ntM (ix : List Nat → Int) : NT → Trm
  | .call nm k => .call (ix nm) k
  | .put nm kp ad _ ps => .put (tx nm) kp ad (ntMs ix ps)
def ntMs (ix : List Nat → Int) : List NT → List Trm
  | [] => []
  | p :: ps => ntM ix p :: ntMs ix ps
end
mutual
def callsNT : NT → List (List Nat)
  | .call nm _ => [nm]
  | .put _ _ _ _ ps => callsNTs ps
def callsNTs : List NT → List (List Nat)
  | [] => []
  | p :: ps => callsNT p ++ callsNTs ps
end
theorem encNTs_map : ∀ ps : List NT, encNTs ps = ps.map encNT
  | [] => by rw [encNTs]; rfl
  | p :: ps => by rw [encNTs, encNTs_map ps]; rfl
theorem ntMs_map (ix : List Nat → Int) : ∀ ps : List NT, ntMs ix ps = ps.map (ntM ix)
  | [] => by rw [ntMs]; rfl
  | p :: ps => by rw [ntMs, ntMs_map ix ps]; rfl
theorem okNTs_iff : ∀ ps : List NT, okNTs ps ↔ ∀ p ∈ ps, okNT p
  | [] => by simp [okNTs]
  | p :: ps => by rw [okNTs, okNTs_iff ps]; simp
theorem callsNTs_flat : ∀ ps : List NT, callsNTs ps = (ps.map callsNT).flatten
  | [] => by rw [callsNTs]; rfl
  | p :: ps => by rw [callsNTs, callsNTs_flat ps]; rfl
theorem encNT_call (nm : List Nat) (k : Int) : encNT (.call nm k) = .tuple [.str "call", .str (tx nm), .int k] := by rw [encNT]
theorem encNT_put (nm : List Nat) (kp : Bool) (ad : Int) (z : Bool) (ps : List NT) : encNT (.put nm kp ad z ps) = .tuple [.str "put", .str (tx nm), .bool kp, .int ad, .tuple (ps.map encNT)] := by rw [encNT, encNTs_map]
theorem ntM_call (ix : List Nat → Int) (nm : List Nat) (k : Int) : ntM ix (.call nm k) = .call (ix nm) k := by rw [ntM]
theorem ntM_put (ix : List Nat → Int) (nm : List Nat) (kp : Bool) (ad : Int) (z : Bool) (ps : List NT) : ntM ix (.put nm kp ad z ps) = .put (tx nm) kp ad (ps.map (ntM ix)) := by rw [ntM, ntMs_map]
theorem levNTs_le {n : Nat} : ∀ {ps : List NT}, levNTs ps ≤ n → ∀ p ∈ ps, levNT p ≤ n
  | [], _, p, hp => nomatch hp
  | q :: qs, h, p, hp => by
    rw [levNTs] at h
    rcases List.mem_cons.mp hp with rfl | hp
    · omega
    · exact levNTs_le (n := n) (by omega) p hp
theorem wT_ne (T : NT) : ∃ s ss, wT T = s :: ss := by
  cases T with
  | call nm k => exact ⟨_, _, by rw [wT]⟩
  | put nm kp ad z ps => exact ⟨_, _, by rw [wT]⟩
theorem wTs_ne (T : NT) (bs : List NT) : wTs (T :: bs) ≠ [] := by
  obtain ⟨s, ss, e⟩ := wT_ne T
  rw [wTs, e]
  simp
theorem wTs_len : ∀ bs : List NT, bs.length ≤ (wTs bs).length
  | [] => by simp
  | T :: bs => by
    obtain ⟨s, ss, e⟩ := wT_ne T
    rw [wTs, List.length_append, e, List.length_cons, List.length_cons]
    have := wTs_len bs
    omega
theorem brwT_some {ws : List (List Nat)} (h : ws ≠ []) : brw ws = [40] :: (ws ++ [[41]]) := by
  cases ws with
  | nil => exact absurd rfl h
  | cons w ws => rfl
/-- what may come behind a term's words -/
def EndT (post : List (List Nat)) : Prop := ∀ w, post.head? = some w → w = [41] ∨ w = [42] ∨ NmW w
/-- the head of a row of terms' words -/
theorem endT_terms {bs : List NT} (ok : okNTs bs) (post : List (List Nat)) : EndT (wTs bs ++ [41] :: post) := by
  cases bs with
  | nil =>
    intro w hw
    rw [wTs] at hw
    simp at hw
    exact .inl hw.symm
  | cons T bs =>
    intro w hw
    rw [okNTs] at ok
    cases T with
    | call nm k =>
      rw [wTs, wT] at hw
      simp at hw
      exact .inr (.inl hw.symm)
    | put nm kp ad z cs =>
      rw [okNT] at ok
      rw [wTs, wT] at hw
      simp at hw
      subst hw
      exact .inr (.inr ok.1.1)
mutual
theorem depth_encNT : ∀ T : NT, (encNT T).depth ≤ 2 * levNT T
  | .call nm k => by
    rw [encNT_call, levNT]
    simp [PyData.depth, PyData.depthAll]
  | .put nm kp ad z ps => by
    rw [encNT, levNT]
    have := depth_encNTs ps
    simp only [PyData.depth, PyData.depthAll]
    omega
theorem depth_encNTs : ∀ ps : List NT, PyData.depthAll (encNTs ps) ≤ 2 * levNTs ps
  | [] => by rw [encNTs]; simp [PyData.depthAll]
  | p :: ps => by
    rw [encNTs, levNTs, PyData.depthAll]
    have := depth_encNT p
    have := depth_encNTs ps
    omega
end
mutual
theorem can_encNT : ∀ T : NT, okNT T → (encNT T).canLay0 = true
  | .call nm k, h => by
    rw [okNT] at h
    rw [encNT_call, PyData.canLay0]
    have h1 := NmW.ok h.1
    have : PyData.strOk "call" = true := by decide +kernel
    simp [PyData.canLayAll0, PyData.canLay0, this, h1]
  | .put nm kp ad z ps, h => by
    rw [okNT] at h
    have h1 := NmW.ok h.1
    have h2 := can_encNTs ps h.2.2.2
    rw [encNT, PyData.canLay0]
    have : PyData.strOk "put" = true := by decide +kernel
    simp [PyData.canLayAll0, PyData.canLay0, this, h1, h2]
theorem can_encNTs : ∀ ps : List NT, okNTs ps → PyData.canLayAll0 (encNTs ps) = true
  | [], _ => by rw [encNTs]; rfl
  | p :: ps, h => by
    rw [okNTs] at h
    rw [encNTs, PyData.canLayAll0, can_encNT p h.1, can_encNTs ps h.2]
    rfl
end
theorem gLen_rw (ws : List (List Nat)) : gLen [rowWD ws] = some (.d (.int (ws.length : Nat))) := by
  have : gLen [rowWD ws] = some (Ow.d (.int (ws.map fun w => PyData.str (tx w)).length)) := rfl
  rw [this, List.length_map]
theorem gIx_rw {ws pre : List (List Nat)} {w : List Nat} {post : List (List Nat)} (h : ws = pre ++ w :: post) : gIx (rowWD ws) (.int (pre.length : Nat)) = some (.str (tx w)) := by
  show atI _ _ = _
  exact atI_natD (by rw [List.getElem?_map, h, List.getElem?_append_right (Nat.le_refl _)]; simp)
theorem gNe_txW (a b : List Nat) : gNe (.str (tx a)) (.str (tx b)) = some (.bool (!decide (a = b))) := by
  rw [show gNe (.str (tx a)) (.str (tx b)) = some (.bool (!(tx a == tx b))) from rfl]
  have e : (tx a == tx b) = decide (a = b) := by
    by_cases h : a = b
    · subst h; simp
    · rw [decide_eq_false h, beq_eq_false_iff_ne]
      exact fun z => h (tx_inj z)
  rw [e]
theorem star_is : (Str.ofString "*") = tx [42] := by rw [tx_of (Str.ofString "*")]; congr 1
theorem same_is : (Str.ofString "=") = tx [61] := by rw [tx_of (Str.ofString "=")]; congr 1
theorem opn_is : (Str.ofString "(") = tx [40] := by rw [tx_of (Str.ofString "(")]; congr 1
theorem cls_is : (Str.ofString ")") = tx [41] := by rw [tx_of (Str.ofString ")")]; congr 1
theorem cln_is : (Str.ofString ":") = tx [58] := by rw [tx_of (Str.ofString ":")]; congr 1
theorem smc_is : (Str.ofString ";") = tx [59] := by rw [tx_of (Str.ofString ";")]; congr 1
/-- a word that is no number and no sign of what is kept -/
def NoMk (w : List Nat) : Prop := w = [40] ∨ w = [41] ∨ w = [42] ∨ NmW w
theorem nm_ne_sig {w : List Nat} (h : NmW w) {c : Nat} (hc : isL c = false) : w ≠ [c] := fun z => by
  have := h.2.1 c (by rw [z]; simp)
  rw [hc] at this
  cases this
theorem ik_ne_sig {k : Int} {c : Nat} (hc : isF c = false) : ik k ≠ [c] := fun z => by
  obtain ⟨p, x, e, hx⟩ := ik_last k
  rw [e] at z
  have : x = c := by
    have := congrArg List.getLast? z
    simpa using this
  rw [this, hc] at hx
  cases hx
theorem noMk_ne {w : List Nat} (h : NoMk w) : w ≠ [61] := by
  rcases h with rfl | rfl | rfl | h
  · decide
  · decide
  · decide
  · exact nm_ne_sig h (by decide)
theorem NmW.hd {w : List Nat} (h : NmW w) : ∃ c r, w = c :: r ∧ isL c = true := by
  cases w with
  | nil => exact absurd rfl h.1
  | cons c r => exact ⟨c, r, rfl, h.2.1 c List.mem_cons_self⟩
theorem NmW.last {w : List Nat} (h : NmW w) : ∃ p x, w = p ++ [x] ∧ isF x = false := by
  rcases List.eq_nil_or_concat w with e | ⟨p, x, e⟩
  · exact absurd e h.1
  · rw [List.concat_eq_append] at e
    have hx := h.2.1 x (by rw [e]; simp)
    refine ⟨p, x, e, ?_⟩
    unfold isL at hx
    unfold isF
    simp only [Bool.and_eq_true, decide_eq_true_eq] at hx
    simp
    omega
end Mir
set_option Elab.async false
set_option linter.all false
set_option maxRecDepth 100000
set_option maxHeartbeats 4000000
noncomputable section
namespace Mir
open PySem PySem.Spec L2
abbrev TbE := Str × Str × List (Str × D)
def tbP (rs : List (Str × D)) : List (D × D) := rs.map fun p => (.str p.1, p.2)
def teO (e : TbE) : Ow := .t [.d (.str e.2.1), .m (tbP e.2.2)]
def tbK (tb : List TbE) : Ow := .k (tb.map fun e => .str e.1) (tb.map teO)
theorem findK_none {m : Str} : ∀ {tb : List TbE}, (∀ e ∈ tb, e.1 ≠ m) → findK (.str m) (tb.map fun e => PyData.str e.1) = none
  | [], _ => rfl
  | e :: tb, h => by
    have h1 : keyEq (.str e.1) (.str m) = false := by
      show (e.1 == m) = false
      exact beq_eq_false_iff_ne.mpr (h e List.mem_cons_self)
    rw [List.map_cons, findK, h1, findK_none fun e' he => h e' (List.mem_cons_of_mem _ he)]
    rfl
theorem findK_at {m : Str} : ∀ {tb : List TbE} {j : Nat} {e : TbE}, tb[j]? = some e → e.1 = m → (∀ i e', i < j → tb[i]? = some e' → e'.1 ≠ m) → findK (.str m) (tb.map fun e => PyData.str e.1) = some j
  | [], _, _, h, _, _ => by simp at h
  | e0 :: tb, 0, e, h, he, _ => by
    have : e0 = e := by simpa using h
    subst this
    have h1 : keyEq (.str e0.1) (.str m) = true := by
      show (e0.1 == m) = true
      rw [he]; exact beq_self_eq_true m
    rw [List.map_cons, findK, if_pos h1]
  | e0 :: tb, j + 1, e, h, he, hn => by
    have h1 : keyEq (.str e0.1) (.str m) = false := by
      show (e0.1 == m) = false
      exact beq_eq_false_iff_ne.mpr (hn 0 e0 (by omega) rfl)
    have ih := findK_at (tb := tb) (j := j) (e := e) (by simpa using h) he fun i e' hi h' => hn (i + 1) e' (by omega) (by simpa using h')
    rw [List.map_cons, findK, h1, ih]
    rfl
theorem keyEq_str (a b : Str) : keyEq (.str a) (.str b) = (a == b) := rfl
theorem tbP_any {n : Str} (rs : List (Str × D)) : ((tbP rs).any fun p => keyEq p.1 (.str n)) = rs.any fun p => p.1 == n := by
  rw [tbP, List.any_map]
  rfl
theorem putP_tb {n : Str} {d : D} {rs : List (Str × D)} (h : (rs.any fun p => p.1 == n) = false) : putP (tbP rs) (.str n) d = tbP (rs ++ [(n, d)]) := by
  unfold putP
  rw [tbP_any, h, if_neg (by simp)]
  simp [tbP]
abbrev tbTest (f : List D → R Ow) : Ev → SR := (sIf (eB (eBin gNotIn (eVar 5) (eM (eLc (eB (eM (eB (aCons (eVar 0) (aCons (eVar 4) aNil)) f) viewD) itD) (gtTup 2 (gtCons (gtName 7) (gtCons (gtName 8) gtNil))) cYes (eM (eVar 7) Ow.d) (List.map (·.2) ([("told", 7), ("branches", 8)] : List (Str × Nat)))) viewD)) asB)
    (sRaise "NoTurning")
    sSkip)
abbrev tbRest : Ev → SR := (sSeq (sIf (tOrE (eB (eBin gNe (ePtD (pIx (pVar 7) (eC (.int 0)))) (eVar 4)) asB) (eB (eInPM false (eVar 5) (pIx (pVar 7) (eC (.int 1)))) asB))
    (sRaise "NoTurning")
    sSkip)
    (sPPutM (pIx (pVar 7) (eC (.int 1))) (eVar 5) (eVar 6)))
abbrev tbBody (f : List D → R Ow) : Ev → SR := (sSeq (sFrz 7 (tbTest f))
    (sBorD 2 7 (eVar 3) (eTupO (oCons (eM (eVar 4) Ow.d) (oCons eDictNew oNil)))
    tbRest))
theorem tbTest_ok {f : List D → R Ow} {WD : D} {k n : Str} {rws : List Rw} (hf : ∃ o, f [WD, .str k] = .ok o ∧ viewD o = .list (rws.map encRw)) (hn : n ∈ rws.map (·.nm)) (ok : ∀ r ∈ rws, PyData.strOk r.nm = true) (hl : rws.length ≤ 100000) (x1 x2 x3 x6 x8 : Option Ow) :
    tbTest f [some (.d WD), x1, x2, x3, some (.d (.str k)), some (.d (.str n)), x6, none, x8] = .nx [some (.d WD), x1, x2, x3, some (.d (.str k)), some (.d (.str n)), x6, none, x8] := by
  obtain ⟨o, f1, f2⟩ := hf
  have on : PyData.strOk n = true := by
    obtain ⟨r, hr, e⟩ := List.mem_map.mp hn
    rw [← e]; exact ok r hr
  have lc : eLc (eB (eM (eB (aCons (eVar 0) (aCons (eVar 4) aNil)) f) viewD) itD) (gtTup 2 (gtCons (gtName 7) (gtCons (gtName 8) gtNil))) cYes (eM (eVar 7) Ow.d) (List.map (·.2) ([("told", 7), ("branches", 8)] : List (Str × Nat))) [some (.d WD), x1, x2, x3, some (.d (.str k)), some (.d (.str n)), x6, none, x8] = .ok (.l (rws.map fun r => .d (.str r.nm))) := by
    refine eLc_of (ds := rws.map encRw) ?_ (by rw [List.length_map, sizeLine_eq]; omega) (lcR_map encRw (fun r => Ow.d (.str r.nm)) rws fun r hr => ⟨[some (.d WD), x1, x2, x3, some (.d (.str k)), some (.d (.str n)), x6, some (.d (.str r.nm)), some (.d (.tuple (r.br.map PyData.str)))], rfl, rfl, rfl⟩)
    simp [f1, f2]
  have vl : viewD (.l (rws.map fun r => .d (.str r.nm))) = .list (rws.map fun r => .str r.nm) := viewD_of (fun r : Rw => PyData.str r.nm) rws
  have ni := notIn_strs (k := n) (ks := rws.map (·.nm)) on (fun z hz => by
    obtain ⟨r, hr, rfl⟩ := List.mem_map.mp hz
    exact ok r hr)
  have an : ((rws.map (·.nm)).any fun z => z == n) = true := List.any_eq_true.mpr ⟨n, hn, beq_self_eq_true n⟩
  rw [an, List.map_map] at ni
  have ni : gNotIn (.str n) (.list (rws.map fun r => .str r.nm)) = some (.bool false) := ni
  simp only [sIf, R.st, eB_eq, eBin_eq, eM_eq, lc] 
  simp [vl, ni]
theorem sBorD_new {r x : Nat} {g : Ev → R D} {d : Ev → R Ow} {gs : Ev → SR} {env env2 : Ev} {ks : List D} {os : List Ow} {k : D} {o o' : Ow} (he : env[r]? = some (some (.k ks os))) (hg : g env = .ok k) (hd : d env = .ok o) (hx : x < env.length) (hrx : r ≠ x) (hk : isKey k = true) (hl : ks.length < sizeLine) (hf : findK k ks = none)
    (hb : gs ((env.set r none).set x (some o)) = .nx env2) (h2 : env2[x]? = some (some o')) (h3 : r < env2.length) : sBorD r x g d gs env = .nx ((env2.set x none).set r (some (.k (ks ++ [k]) (os ++ [o'])))) := by
  unfold sBorD
  rw [he]
  simp only [hg, hd, R.st_ok]
  rw [if_pos ⟨hx, hrx, hk, hl⟩, hf]
  simp only [hb, fixB, fixB1, h2]
  rw [if_pos h3]
theorem sBorD_old {r x : Nat} {g : Ev → R D} {d : Ev → R Ow} {gs : Ev → SR} {env env2 : Ev} {ks : List D} {os : List Ow} {k : D} {o s o' : Ow} {j : Nat} (he : env[r]? = some (some (.k ks os))) (hg : g env = .ok k) (hd : d env = .ok o) (hx : x < env.length) (hrx : r ≠ x) (hk : isKey k = true) (hl : ks.length < sizeLine) (hf : findK k ks = some j) (hs : os[j]? = some s)
    (hb : gs ((env.set r none).set x (some s)) = .nx env2) (h2 : env2[x]? = some (some o')) (h3 : r < env2.length) : sBorD r x g d gs env = .nx ((env2.set x none).set r (some (.k ks (os.set j o')))) := by
  unfold sBorD
  rw [he]
  simp only [hg, hd, R.st_ok]
  rw [if_pos ⟨hx, hrx, hk, hl⟩, hf]
  simp only [hs, hb, fixB, fixB1, h2]
  rw [if_pos h3]
theorem tbRest_ok {m' k n : Str} {T : D} {rs : List (Str × D)} (hk : PyData.strOk k = true) (hn : (rs.any fun p => p.1 == n) = false) (hl : rs.length ≤ 1000) (x0 x1 x2 x3 x8 : Option Ow) :
    tbRest [x0, x1, x2, x3, some (.d (.str k)), some (.d (.str n)), some (.d T), some (teO (m', k, rs)), x8] = .nx [x0, x1, x2, x3, some (.d (.str k)), some (.d (.str n)), some (.d T), some (teO (m', k, rs ++ [(n, T)])), x8] := by
  have p0 : pIx (pVar 7) (eC (.int 0)) [x0, x1, x2, x3, some (.d (.str k)), some (.d (.str n)), some (.d T), some (teO (m', k, rs)), x8] = .ok (.d (.str k), fun o' => [x0, x1, x2, x3, some (.d (.str k)), some (.d (.str n)), some (.d T), some (.t [o', .m (tbP rs)]), x8]) := rfl
  have p1 : pIx (pVar 7) (eC (.int 1)) [x0, x1, x2, x3, some (.d (.str k)), some (.d (.str n)), some (.d T), some (teO (m', k, rs)), x8] = .ok (.m (tbP rs), fun o' => [x0, x1, x2, x3, some (.d (.str k)), some (.d (.str n)), some (.d T), some (.t [.d (.str k), o']), x8]) := rfl
  have ne : gNe (.str k) (.str k) = some (.bool false) := by
    rw [show gNe (.str k) (.str k) = some (.bool (!(k == k))) from rfl, beq_self_eq_true]
    rfl
  have an := tbP_any (n := n) rs
  rw [hn] at an
  have pl : (tbP rs).length = rs.length := List.length_map _
  have in1 : eInPM false (eVar 5) (pIx (pVar 7) (eC (.int 1))) [x0, x1, x2, x3, some (.d (.str k)), some (.d (.str n)), some (.d T), some (teO (m', k, rs)), x8] = .ok (.bool false) := by
    unfold eInPM
    rw [p1]
    show (if isKey (.str n) = true then R.ok (PyData.bool (((tbP rs).any fun x => keyEq x.1 (.str n)) != false)) else .no) = _
    rw [an]
    rfl
  have e0 : ePtD (pIx (pVar 7) (eC (.int 0))) [x0, x1, x2, x3, some (.d (.str k)), some (.d (.str n)), some (.d T), some (teO (m', k, rs)), x8] = .ok (.str k) := by
    unfold ePtD
    rw [p0]
    rfl
  have put : sPPutM (pIx (pVar 7) (eC (.int 1))) (eVar 5) (eVar 6) [x0, x1, x2, x3, some (.d (.str k)), some (.d (.str n)), some (.d T), some (teO (m', k, rs)), x8] = .nx [x0, x1, x2, x3, some (.d (.str k)), some (.d (.str n)), some (.d T), some (teO (m', k, rs ++ [(n, T)])), x8] := by
    unfold sPPutM
    rw [p1]
    show (if isKey (.str n) = true ∧ (tbP rs).length < sizeLine then SR.nx [x0, x1, x2, x3, some (.d (.str k)), some (.d (.str n)), some (.d T), some (.t [.d (.str k), .m (putP (tbP rs) (.str n) T)]), x8] else .no) = _
    rw [if_pos ⟨rfl, by rw [pl, sizeLine_eq]; omega⟩, putP_tb hn]
    rfl
  have t1 : (sIf (tOrE (eB (eBin gNe (ePtD (pIx (pVar 7) (eC (.int 0)))) (eVar 4)) asB) (eB (eInPM false (eVar 5) (pIx (pVar 7) (eC (.int 1)))) asB)) (sRaise "NoTurning") sSkip) [x0, x1, x2, x3, some (.d (.str k)), some (.d (.str n)), some (.d T), some (teO (m', k, rs)), x8] = .nx [x0, x1, x2, x3, some (.d (.str k)), some (.d (.str n)), some (.d T), some (teO (m', k, rs)), x8] := by
    simp [e0, in1, ne]
  show (sSeq _ _) _ = _
  rw [sSeq_eq, t1]
  exact put
theorem tbTup_ok (m k : Str) (x0 x1 x2 x3 x5 x6 x7 x8 : Option Ow) : eTupO (oCons (eM (eVar 4) Ow.d) (oCons eDictNew oNil)) [x0, x1, x2, x3, some (.d (.str k)), x5, x6, x7, x8] = .ok (teO (m, k, [])) := by
  simp [teO, tbP, sizeLine_eq]
/-- a new mode -/
theorem tb_new {f : List D → R Ow} {WD : D} {m k n : Str} {T : D} {rws : List Rw} (hf : ∃ o, f [WD, .str k] = .ok o ∧ viewD o = .list (rws.map encRw)) (hn : n ∈ rws.map (·.nm)) (ok : ∀ r ∈ rws, PyData.strOk r.nm = true) (hl : rws.length ≤ 100000) (hk : PyData.strOk k = true) (tb : List TbE) (hm : ∀ e ∈ tb, e.1 ≠ m) (ht : tb.length ≤ 1000) (x1 x8 : Option Ow) :
    tbBody f [some (.d WD), x1, some (tbK tb), some (.d (.str m)), some (.d (.str k)), some (.d (.str n)), some (.d T), none, x8] = .nx [some (.d WD), x1, some (tbK (tb ++ [(m, k, [(n, T)])])), some (.d (.str m)), some (.d (.str k)), some (.d (.str n)), some (.d T), none, x8] := by
  have t1 := tbTest_ok hf hn ok hl x1 (some (tbK tb)) (some (.d (.str m))) (some (.d T)) x8
  have f7 : frzV 7 [some (.d WD), x1, some (tbK tb), some (.d (.str m)), some (.d (.str k)), some (.d (.str n)), some (.d T), none, x8] = [some (.d WD), x1, some (tbK tb), some (.d (.str m)), some (.d (.str k)), some (.d (.str n)), some (.d T), none, x8] := rfl
  show (sSeq _ _) _ = _
  rw [sSeq_eq, sFrz, f7, t1]
  simp only [SR.andThen]
  rw [sBorD_new (ks := tb.map fun e => .str e.1) (os := tb.map teO) (k := .str m) (o := teO (m, k, [])) (o' := teO (m, k, [] ++ [(n, T)])) rfl rfl (tbTup_ok m k _ _ _ _ _ _ _ _) (by simp) (by decide) rfl (by rw [List.length_map, sizeLine_eq]; omega) (findK_none hm) (tbRest_ok (m' := m) hk rfl (by simp) (some (.d WD)) x1 none (some (.d (.str m))) x8) rfl (by simp)]
  show SR.nx [_, _, some (.k _ _), _, _, _, _, none, _] = _
  unfold tbK
  simp
/-- a further row of a mode -/
theorem tb_old {f : List D → R Ow} {WD : D} {m k n : Str} {T : D} {rws : List Rw} (hf : ∃ o, f [WD, .str k] = .ok o ∧ viewD o = .list (rws.map encRw)) (hn : n ∈ rws.map (·.nm)) (ok : ∀ r ∈ rws, PyData.strOk r.nm = true) (hl : rws.length ≤ 100000) (hk : PyData.strOk k = true) (tb : List TbE) {j : Nat} {rs : List (Str × D)} (hj : tb[j]? = some (m, k, rs)) (hm : ∀ i e', i < j → tb[i]? = some e' → e'.1 ≠ m) (hr : (rs.any fun p => p.1 == n) = false) (hrl : rs.length ≤ 1000) (ht : tb.length ≤ 1000) (x1 x8 : Option Ow) :
    tbBody f [some (.d WD), x1, some (tbK tb), some (.d (.str m)), some (.d (.str k)), some (.d (.str n)), some (.d T), none, x8] = .nx [some (.d WD), x1, some (tbK (tb.set j (m, k, rs ++ [(n, T)]))), some (.d (.str m)), some (.d (.str k)), some (.d (.str n)), some (.d T), none, x8] := by
  have t1 := tbTest_ok hf hn ok hl x1 (some (tbK tb)) (some (.d (.str m))) (some (.d T)) x8
  have f7 : frzV 7 [some (.d WD), x1, some (tbK tb), some (.d (.str m)), some (.d (.str k)), some (.d (.str n)), some (.d T), none, x8] = [some (.d WD), x1, some (tbK tb), some (.d (.str m)), some (.d (.str k)), some (.d (.str n)), some (.d T), none, x8] := rfl
  show (sSeq _ _) _ = _
  rw [sSeq_eq, sFrz, f7, t1]
  simp only [SR.andThen]
  have os : (tb.map teO)[j]? = some (teO (m, k, rs)) := by rw [List.getElem?_map, hj]; rfl
  rw [sBorD_old (ks := tb.map fun e => .str e.1) (os := tb.map teO) (k := .str m) (o := teO (m, k, [])) (o' := teO (m, k, rs ++ [(n, T)])) rfl rfl (tbTup_ok m k _ _ _ _ _ _ _ _) (by simp) (by decide) rfl (by rw [List.length_map, sizeLine_eq]; omega) (findK_at hj rfl hm) os (tbRest_ok (m' := m) hk hr hrl (some (.d WD)) x1 none (some (.d (.str m))) x8) rfl (by simp)]
  show SR.nx [_, _, some (.k _ _), _, _, _, _, none, _] = _
  unfold tbK
  have hl : j < tb.length := (List.getElem?_eq_some_iff.mp hj).1
  have e1 : (tb.set j (m, k, rs ++ [(n, T)])).map (fun e => PyData.str e.1) = tb.map fun e => PyData.str e.1 := by
    rw [List.map_set]
    refine List.ext_getElem? fun i => ?_
    rw [List.getElem?_set]
    split
    · rename_i c
      subst c
      rw [List.getElem?_map, hj, if_pos (by rw [List.length_map]; exact hl)]
      rfl
    · rfl
  rw [e1, List.map_set]
end Mir
end
set_option Elab.async false
set_option linter.all false
set_option maxRecDepth 100000
set_option maxHeartbeats 4000000
noncomputable section
namespace Mir
open PySem PySem.Spec L2
def ruD (m k : Str) (p : Str × D) : D := .tuple [.str m, .str k, .str p.1, p.2]
def rusD (tb : List TbE) : List D := (tb.map fun e => e.2.2.map (ruD e.1 e.2.1)).flatten
abbrev tbG : D → Ev → Option Ev := gtTup 4 (gtCons (gtName 3) (gtCons (gtName 4) (gtCons (gtName 5) (gtCons (gtName 6) gtNil))))
structure TbOk (f : List D → R Ow) (WD : D) (e : TbE) : Prop where
  ok : PyData.strOk e.2.1 = true
  rows : ∃ rws : List Rw, (∃ o, f [WD, .str e.2.1] = .ok o ∧ viewD o = .list (rws.map encRw)) ∧ (∀ p ∈ e.2.2, p.1 ∈ rws.map (·.nm)) ∧ (∀ r ∈ rws, PyData.strOk r.nm = true) ∧ rws.length ≤ 1000
  nd : (e.2.2.map (·.1)).Nodup
  ne : e.2.2 ≠ []
  few : e.2.2.length ≤ 1000
theorem tb_rows {f : List D → R Ow} {WD : D} {m k : Str} (done : List TbE) (hd : ∀ e ∈ done, e.1 ≠ m) (hdl : done.length ≤ 900) (hk : PyData.strOk k = true) (rws : List Rw) (hf : ∃ o, f [WD, .str k] = .ok o ∧ viewD o = .list (rws.map encRw)) (ok : ∀ r ∈ rws, PyData.strOk r.nm = true) (hl : rws.length ≤ 1000) (x1 : Option Ow) :
    ∀ (rs rs0 : List (Str × D)) (x3 x4 x5 x6 x8 : Option Ow), (∀ p ∈ rs, p.1 ∈ rws.map (·.nm)) → ((rs0 ++ rs).map (·.1)).Nodup → (rs0 ++ rs).length ≤ 1000 →
    ∃ y3 y4 y5 y6 y8, ∀ ds, forL tbG (tbBody f) (rs.map (ruD m k) ++ ds) [some (.d WD), x1, some (tbK (done ++ [(m, k, rs0)])), x3, x4, x5, x6, none, x8] = forL tbG (tbBody f) ds [some (.d WD), x1, some (tbK (done ++ [(m, k, rs0 ++ rs)])), y3, y4, y5, y6, none, y8]
  | [], rs0, x3, x4, x5, x6, x8, _, _, _ => ⟨x3, x4, x5, x6, x8, fun ds => by rw [List.append_nil]; rfl⟩
  | p :: rs, rs0, x3, x4, x5, x6, x8, h, nd, hl2 => by
    have hr : (rs0.any fun q => q.1 == p.1) = false := by
      rw [List.any_eq_false]
      intro q hq e
      have e : q.1 = p.1 := by simpa using e
      rw [List.map_append] at nd
      exact (List.nodup_append.mp nd).2.2 q.1 (List.mem_map_of_mem hq) p.1 (by simp) e
    have hj : (done ++ [(m, k, rs0)])[done.length]? = some (m, k, rs0) := by simp
    have step := tb_old (T := p.2) hf (h p List.mem_cons_self) ok (by omega) hk (done ++ [(m, k, rs0)]) hj (fun i e' hi he => by
      rw [List.getElem?_append_left hi] at he
      exact hd e' (List.mem_of_getElem? he)) hr (by rw [List.length_append] at hl2; omega) (by rw [List.length_append]; simp; omega) x1 x8
    have es : (done ++ [(m, k, rs0)]).set done.length (m, k, rs0 ++ [(p.1, p.2)]) = done ++ [(m, k, rs0 ++ [p])] := by
      rw [List.set_append_right _ _ (Nat.le_refl _)]
      simp
    rw [es] at step
    obtain ⟨y3, y4, y5, y6, y8, ih⟩ := tb_rows done hd hdl hk rws hf ok hl x1 rs (rs0 ++ [p]) (some (.d (.str m))) (some (.d (.str k))) (some (.d (.str p.1))) (some (.d p.2)) x8 (fun q hq => h q (List.mem_cons_of_mem _ hq)) (by rw [List.append_assoc]; exact nd) (by rw [List.append_assoc]; exact hl2)
    refine ⟨y3, y4, y5, y6, y8, fun ds => ?_⟩
    rw [List.append_assoc] at ih
    rw [List.map_cons, List.cons_append, forL_nx (env1 := [some (.d WD), x1, some (tbK (done ++ [(m, k, rs0)])), some (.d (.str m)), some (.d (.str k)), some (.d (.str p.1)), some (.d p.2), none, x8]) rfl step]
    exact ih ds
theorem tb_modes {f : List D → R Ow} {WD : D} (x1 : Option Ow) : ∀ (tb done : List TbE) (x3 x4 x5 x6 x8 : Option Ow), (∀ e ∈ tb, TbOk f WD e) → ((done ++ tb).map (·.1)).Nodup → (done ++ tb).length ≤ 900 →
    ∃ y3 y4 y5 y6 y8, forL tbG (tbBody f) (rusD tb) [some (.d WD), x1, some (tbK done), x3, x4, x5, x6, none, x8] = .nx [some (.d WD), x1, some (tbK (done ++ tb)), y3, y4, y5, y6, none, y8]
  | [], done, x3, x4, x5, x6, x8, _, _, _ => ⟨x3, x4, x5, x6, x8, by rw [List.append_nil]; rfl⟩
  | (m, k, rs) :: tb, done, x3, x4, x5, x6, x8, h, nd, hl => by
    have o := h _ List.mem_cons_self
    obtain ⟨ok, ⟨rws, hf, r2, r3, r4⟩, nd2, ne, few⟩ := o
    cases rs with
    | nil => exact absurd rfl ne
    | cons p rs =>
    have hd : ∀ e ∈ done, e.1 ≠ m := fun e he z => by
      rw [List.map_append] at nd
      exact (List.nodup_append.mp nd).2.2 e.1 (List.mem_map_of_mem he) m (by simp) z
    have dl : done.length ≤ 900 := by rw [List.length_append] at hl; omega
    have s1 := tb_new (T := p.2) (m := m) hf (r2 p List.mem_cons_self) r3 (by omega) ok done hd (by omega) x1 x8
    obtain ⟨y3, y4, y5, y6, y8, s2⟩ := tb_rows done hd dl ok rws hf r3 r4 x1 rs [(p.1, p.2)] (some (.d (.str m))) (some (.d (.str k))) (some (.d (.str p.1))) (some (.d p.2)) x8 (fun q hq => r2 q (List.mem_cons_of_mem _ hq)) nd2 few
    obtain ⟨z3, z4, z5, z6, z8, s3⟩ := tb_modes x1 tb (done ++ [(m, k, p :: rs)]) y3 y4 y5 y6 y8 (fun e he => h e (List.mem_cons_of_mem _ he)) (by rw [List.append_assoc]; exact nd) (by rw [List.append_assoc]; exact hl)
    refine ⟨z3, z4, z5, z6, z8, ?_⟩
    rw [List.append_assoc] at s3
    have e0 : rusD ((m, k, p :: rs) :: tb) = ruD m k p :: (rs.map (ruD m k) ++ rusD tb) := by
      unfold rusD
      rw [List.map_cons, List.flatten_cons]
      rfl
    rw [e0, forL_nx (env1 := [some (.d WD), x1, some (tbK done), some (.d (.str m)), some (.d (.str k)), some (.d (.str p.1)), some (.d p.2), none, x8]) rfl s1]
    rw [s2]
    exact s3
abbrev bTableBy (f : List D → R Ow) : Ev → SR := (sSeq (sSet 2 eDictNewK)
    (sSeq (sFor (eB (eVar 1) itD) tbG
    (tbBody f))
    (sRetV 2)))
theorem tableBy_fin {f : List D → R Ow} {WD : D} (tb : List TbE) (h : ∀ e ∈ tb, TbOk f WD e) (nd : (tb.map (·.1)).Nodup) (hl : tb.length ≤ 900) (hr : (rusD tb).length ≤ 100000) : finR (bTableBy f (envOf 7 [WD, .list (rusD tb)])) = .ok (tbK tb) := by
  have he : envOf 7 [WD, .list (rusD tb)] = [some (.d WD), some (.d (.list (rusD tb))), none, none, none, none, none, none, none] := rfl
  rw [he]
  obtain ⟨y3, y4, y5, y6, y8, lp⟩ := tb_modes (f := f) (WD := WD) (some (.d (.list (rusD tb)))) tb [] none none none none none h (by simpa using nd) (by simpa using hl)
  rw [List.nil_append] at lp
  refine fin_step (env1 := [some (.d WD), some (.d (.list (rusD tb))), some (tbK []), none, none, none, none, none, none]) rfl ?_
  refine fin_step (env1 := [some (.d WD), some (.d (.list (rusD tb))), some (tbK tb), y3, y4, y5, y6, none, y8]) ?_ ?_
  · generalize rusD tb = ds at *
    simp [lp]
  · rfl
/-- the table looked at as data -/
def teP (e : TbE) : D × D := (.str e.1, .tuple [.str e.2.1, .dict (tbP e.2.2)])
theorem view_tbK (tb : List TbE) : viewD (tbK tb) = .dict (tb.map teP) := by
  unfold tbK
  rw [viewD_k, viewAll_map, List.map_map]
  congr 1
  induction tb with
  | nil => rfl
  | cons e tb ih =>
    rw [List.map_cons, List.map_cons, List.zip_cons_cons, ih, List.map_cons]
    have : (PyData.str e.1, (viewD ∘ teO) e) = teP e := by
      show (PyData.str e.1, viewD (teO e)) = teP e
      unfold teO teP
      simp
    rw [this]
end Mir
end
set_option Elab.async false
set_option linter.all false
set_option maxRecDepth 100000
set_option maxHeartbeats 4000000
noncomputable section
namespace Mir
open PySem PySem.Spec L2
theorem firstAt_idx {z : Str} : ∀ {ys : List Str} (k : Nat), z ∈ ys → firstAt z ys k = some (k + ys.idxOf z)
  | [], k, h => nomatch h
  | y :: ys, k, h => by
    rw [firstAt]
    by_cases c : (y == z) = true
    · rw [if_pos c, List.idxOf_cons, c]
      rfl
    · rw [if_neg c]
      have hz : z ∈ ys := by
        rcases List.mem_cons.mp h with e | e
        · exact absurd (by rw [e]; exact beq_self_eq_true y) c
        · exact e
      rw [firstAt_idx (k + 1) hz, List.idxOf_cons]
      rw [show (y == z) = false from by simpa using c]
      simp only [cond_false]
      congr 1
      omega
theorem gIndex_strs {z : Str} {ys : List Str} (h : z ∈ ys) : gIndex (.list (ys.map PyData.str)) (.str z) = some (.int (ys.idxOf z : Nat)) := by
  show ((strsD (ys.map PyData.str)).bind fun ys => (firstAt z ys 0).map fun j => PyData.int (j : Nat)) = _
  rw [strsD_map]
  show (firstAt z ys 0).map _ = _
  rw [firstAt_idx 0 h, Nat.zero_add]
  rfl
def nix (ns : List Str) (nm : List Nat) : Int := ((ns.idxOf (tx nm) : Nat) : Int)
abbrev bNum (f : List D → R Ow) : Ev → SR := (sSeq (sIf (eB (eBin gEq (eBin gIx (eVar 0) (eC (.int 0))) (eC (.str "call"))) asB)
    (sSeq (sIf (eB (eBin gNotIn (eBin gIx (eVar 0) (eC (.int 1))) (eVar 1)) asB)
    (sRaise "NoTurning")
    sSkip)
    (sRet (eM (eTup (aCons (eC (.str "call")) (aCons (eLsIndex (eVar 1) (eBin gIx (eVar 0) (eC (.int 1)))) (aCons (eBin gIx (eVar 0) (eC (.int 2))) aNil)))) Ow.d)))
    sSkip)
    (sRet (eM (eTup (aCons (eC (.str "put")) (aCons (eBin gIx (eVar 0) (eC (.int 1))) (aCons (eBin gIx (eVar 0) (eC (.int 2))) (aCons (eBin gIx (eVar 0) (eC (.int 3))) (aCons (eM (eCa gTuple (aCons (eB (eLc (eB (eBin gIx (eVar 0) (eC (.int 4))) itD) (gtName 2) cYes (eB (aCons (eVar 2) (aCons (eVar 1) aNil)) f) (List.map (·.2) ([("part", 2)] : List (Str × Nat)))) shD) aNil)) viewD) aNil)))))) Ow.d)))
abbrev msD (ns : List Str) : D := .list (ns.map PyData.str)
theorem num_call (f : List D → R Ow) {ns : List Str} {nm : List Nat} (k : Int) (hn : NmW nm) (hs : ∀ z ∈ ns, PyData.strOk z = true) (h : tx nm ∈ ns) : finR (bNum f (envOf 1 [encNT (.call nm k), msD ns])) = .ok (.d (encM (ntM (nix ns) (.call nm k)))) := by
  rw [encNT_call, ntM_call, encM_call]
  have he : envOf 1 [(.tuple [.str "call", .str (tx nm), .int k] : D), msD ns] = [some (.d (.tuple [.str "call", .str (tx nm), .int k])), some (.d (msD ns)), none] := rfl
  rw [he]
  have ni := notIn_strs (k := tx nm) (ks := ns) hn.ok hs
  have an : (ns.any fun z => z == tx nm) = true := List.any_eq_true.mpr ⟨tx nm, h, beq_self_eq_true _⟩
  rw [an] at ni
  have ni : gNotIn (.str (tx nm)) (msD ns) = some (.bool false) := ni
  have gi := gIndex_strs h
  have li : eLsIndex (eVar 1) (eBin gIx (eVar 0) (eC (.int 1))) [some (.d (.tuple [.str "call", .str (tx nm), .int k])), some (.d (msD ns)), none] = .ok (.int (ns.idxOf (tx nm) : Nat)) := by
    show R.of (gIndex (.list (ns.map PyData.str)) (.str (tx nm))) = _
    rw [gi]
    rfl
  have ec : gEq (.str "call") (.str "call") = some (.bool true) := by rw [gEq_str]; rfl
  unfold nix
  clear gi
  generalize msD ns = NL at *
  simp [ec, ni, li, sizeLine_eq]
theorem num_put (f : List D → R Ow) {ns : List Str} {nm : List Nat} (kp : Bool) (ad : Int) (z : Bool) (ps : List NT) (hl : ps.length ≤ 1000) (h : ∀ p ∈ ps, f [encNT p, msD ns] = .ok (.d (encM (ntM (nix ns) p)))) : finR (bNum f (envOf 1 [encNT (.put nm kp ad z ps), msD ns])) = .ok (.d (encM (ntM (nix ns) (.put nm kp ad z ps)))) := by
  rw [encNT_put, ntM_put, encM_put]
  have he : envOf 1 [(.tuple [.str "put", .str (tx nm), .bool kp, .int ad, .tuple (ps.map encNT)] : D), msD ns] = [some (.d (.tuple [.str "put", .str (tx nm), .bool kp, .int ad, .tuple (ps.map encNT)])), some (.d (msD ns)), none] := rfl
  rw [he]
  have ec : gEq (.str "put") (.str "call") = some (.bool false) := by rw [gEq_str]; rfl
  have lc : eLc (eB (eBin gIx (eVar 0) (eC (.int 4))) itD) (gtName 2) cYes (eB (aCons (eVar 2) (aCons (eVar 1) aNil)) f) [2] [some (.d (.tuple [.str "put", .str (tx nm), .bool kp, .int ad, .tuple (ps.map encNT)])), some (.d (msD ns)), none] = .ok (.l (ps.map fun p => .d (encM (ntM (nix ns) p)))) := by
    refine eLc_of (ds := ps.map encNT) rfl (by rw [List.length_map, sizeLine_eq]; omega) (lcR_map encNT (fun p => Ow.d (encM (ntM (nix ns) p))) ps fun p hp => ⟨[some (.d (.tuple [.str "put", .str (tx nm), .bool kp, .int ad, .tuple (ps.map encNT)])), some (.d (msD ns)), some (.d (encNT p))], rfl, rfl, ?_⟩)
    exact h p hp
  have sh := unDs_of (fun p => encM (ntM (nix ns) p)) ps
  rw [List.map_map]
  have hc : (ps.map (encM ∘ ntM (nix ns))) = ps.map fun p => encM (ntM (nix ns) p) := rfl
  rw [hc]
  generalize (ps.map fun p => Ow.d (encM (ntM (nix ns) p))) = os at *
  generalize (ps.map fun p => encM (ntM (nix ns) p)) = ds at *
  generalize msD ns = NL at *
  generalize (ps.map encNT) = es at *
  simp [ec, lc, sh, sizeLine_eq]
abbrev mbIn (f : List D → R Ow) : Ev → SR := (sSeq (sIf (eB (eBin (gInDD true) (eVar 7) (eVar 5)) asB)
    (sRaise "NoTurning")
    sSkip)
    (sApp 6 (eB (aCons (eBin gGetD (eVar 5) (eVar 7)) (aCons (eVar 2) aNil)) f)))
abbrev mbOut (f9 f18 : List D → R Ow) : Ev → SR := (sSeq (sSet 6 (eLst aNil))
    (sSeq (sFor (eB (eM (eB (aCons (eVar 0) (aCons (eVar 4) aNil)) f9) viewD) itD) (gtTup 2 (gtCons (gtName 7) (gtCons (gtName 8) gtNil)))
    (mbIn f18))
    (sFrz 6 (sApp 3 (eM (eTup (aCons (eVar 4) (aCons (eVar 6) aNil))) Ow.d)))))
abbrev bModesBy (f9 f18 : List D → R Ow) : Ev → SR := (sSeq (sSet 2 (eM (eM (eListKD (eVar 1)) viewD) Ow.d))
    (sSeq (sSet 3 (eLst aNil))
    (sSeq (sForVD 1 (gtTup 2 (gtCons (gtName 4) (gtCons (gtName 5) gtNil)))
    (mbOut f9 f18))
    (sRetV 3))))
/-- what the rules of one mode come to -/
structure MbOk (f9 f18 : List D → R Ow) (WD : D) (NL : D) (e : TbE) (ts : List D) : Prop where
  rows : ∃ rws : List Rw, (∃ o, f9 [WD, .str e.2.1] = .ok o ∧ viewD o = .list (rws.map encRw)) ∧ rws.length = ts.length ∧ ∀ (i : Nat) (r : Rw) (t : D), rws[i]? = some r → ts[i]? = some t → ∃ T, getP (tbP e.2.2) (.str r.nm) = some T ∧ f18 [T, NL] = .ok (.d t)
  ne : e.2.2 ≠ []
  few : ts.length ≤ 1000
theorem tbP_keys (rs : List (Str × D)) : (tbP rs).all (fun p => isKey p.1) = true := by
  rw [List.all_eq_true]
  intro p hp
  obtain ⟨q, hq, rfl⟩ := List.mem_map.mp hp
  rfl
theorem getP_any {ps : List (D × D)} {k T : D} (h : getP ps k = some T) : (ps.any fun p => keyEq p.1 k) = true := by
  unfold getP at h
  cases hf : ps.find? fun p => keyEq p.1 k with
  | none => rw [hf] at h; cases h
  | some p =>
    rw [List.any_eq_true]
    exact ⟨p, List.mem_of_find?_eq_some hf, List.find?_some (p := fun p : D × D => keyEq p.1 k) hf⟩
theorem mb_in {f18 : List D → R Ow} {rs : List (Str × D)} {NL : D} {n : Str} {br T t : D} (hg : getP (tbP rs) (.str n) = some T) (hf : f18 [T, NL] = .ok (.d t)) (x0 x1 x3 x4 : Option Ow) (os : List Ow) (hl : os.length ≤ 10000) :
    mbIn f18 [x0, x1, some (.d NL), x3, x4, some (.d (.dict (tbP rs))), some (.l os), some (.d (.str n)), some (.d br)] = .nx [x0, x1, some (.d NL), x3, x4, some (.d (.dict (tbP rs))), some (.l (os ++ [.d t])), some (.d (.str n)), some (.d br)] := by
  have ni : gInDD true (.str n) (.dict (tbP rs)) = some (.bool false) := by
    have an := getP_any hg
    have ks := tbP_keys rs
    cases hp : tbP rs with
    | nil => rw [hp] at an; cases an
    | cons p ps =>
      rw [hp] at an ks
      rw [gInDD_dict, if_pos ⟨rfl, ks⟩, an]
      rfl
  have gg : gGetD (.dict (tbP rs)) (.str n) = some T := hg
  generalize (.dict (tbP rs) : D) = TD at *
  have hl2 : os.length < sizeLine := by rw [sizeLine_eq]; omega
  simp [ni, gg, hf, hl2]
theorem mb_out {f9 f18 : List D → R Ow} {WD NL : D} {e : TbE} {ts : List D} (h : MbOk f9 f18 WD NL e ts) (x1 x6 x7 x8 : Option Ow) (ms : List Ow) (hl : ms.length ≤ 10000) :
    ∃ y7 y8, mbOut f9 f18 [some (.d WD), x1, some (.d NL), some (.l ms), some (.d (.str e.2.1)), some (.d (.dict (tbP e.2.2))), x6, x7, x8] = .nx [some (.d WD), x1, some (.d NL), some (.l (ms ++ [.d (.tuple [.str e.2.1, .list ts])])), some (.d (.str e.2.1)), some (.d (.dict (tbP e.2.2))), some (.d (.list ts)), y7, y8] := by
  obtain ⟨⟨rws, ⟨o, f1, f2⟩, rl, rt⟩, ne, few⟩ := h
  obtain ⟨env', lp, y7, y8, rfl⟩ := forL_map (g := gtTup 2 (gtCons (gtName 7) (gtCons (gtName 8) gtNil))) (f := mbIn f18) encRw rws (fun i env => ∃ y7 y8, env = [some (.d WD), x1, some (.d NL), some (.l ms), some (.d (.str e.2.1)), some (.d (.dict (tbP e.2.2))), some (.l ((ts.take i).map Ow.d)), y7, y8]) (fun i r env hr hI => by
    obtain ⟨y7, y8, rfl⟩ := hI
    have hi : i < ts.length := by rw [← rl]; exact (List.getElem?_eq_some_iff.mp hr).1
    obtain ⟨T, g1, g2⟩ := rt i r ts[i] hr (List.getElem?_eq_getElem hi)
    refine ⟨_, rfl, _, .inl (mb_in (n := r.nm) g1 g2 _ _ _ _ _ (by rw [List.length_map, List.length_take]; omega)), some (.d (.str r.nm)), some (.d (.tuple (r.br.map PyData.str))), ?_⟩
    have : (ts.take (i + 1)).map Ow.d = (ts.take i).map Ow.d ++ [.d ts[i]] := by
      rw [List.take_succ, List.getElem?_eq_getElem hi, List.map_append]
      rfl
    rw [this]) [some (.d WD), x1, some (.d NL), some (.l ms), some (.d (.str e.2.1)), some (.d (.dict (tbP e.2.2))), some (.l []), x7, x8] ⟨x7, x8, by simp⟩
  refine ⟨y7, y8, ?_⟩
  rw [rl, List.take_length] at lp
  have hl2 : ms.length < sizeLine := by rw [sizeLine_eq]; omega
  have s1 : (sSet 6 (eLst aNil)) [some (.d WD), x1, some (.d NL), some (.l ms), some (.d (.str e.2.1)), some (.d (.dict (tbP e.2.2))), x6, x7, x8] = .nx [some (.d WD), x1, some (.d NL), some (.l ms), some (.d (.str e.2.1)), some (.d (.dict (tbP e.2.2))), some (.l []), x7, x8] := by simp [sizeLine_eq]
  have s2 : (sFor (eB (eM (eB (aCons (eVar 0) (aCons (eVar 4) aNil)) f9) viewD) itD) (gtTup 2 (gtCons (gtName 7) (gtCons (gtName 8) gtNil))) (mbIn f18)) [some (.d WD), x1, some (.d NL), some (.l ms), some (.d (.str e.2.1)), some (.d (.dict (tbP e.2.2))), some (.l []), x7, x8] = .nx [some (.d WD), x1, some (.d NL), some (.l ms), some (.d (.str e.2.1)), some (.d (.dict (tbP e.2.2))), some (.l (ts.map Ow.d)), y7, y8] := by
    unfold sFor
    have : (eB (eM (eB (aCons (eVar 0) (aCons (eVar 4) aNil)) f9) viewD) itD) [some (.d WD), x1, some (.d NL), some (.l ms), some (.d (.str e.2.1)), some (.d (.dict (tbP e.2.2))), some (.l []), x7, x8] = .ok (rws.map encRw) := by simp [f1, f2]
    rw [this, R.st_ok]
    exact lp
  have f6 : frzV 6 [some (.d WD), x1, some (.d NL), some (.l ms), some (.d (.str e.2.1)), some (.d (.dict (tbP e.2.2))), some (.l (ts.map Ow.d)), y7, y8] = [some (.d WD), x1, some (.d NL), some (.l ms), some (.d (.str e.2.1)), some (.d (.dict (tbP e.2.2))), some (.d (.list ts)), y7, y8] := by
    show [_, _, _, _, _, _, some (Ow.d (viewD (.l (ts.map Ow.d)))), _, _] = _
    rw [viewD_l, viewAll_mapd]
  show (sSeq _ _) _ = _
  rw [sSeq_eq, s1]
  simp only [SR.andThen]
  rw [sSeq_eq, s2]
  simp only [SR.andThen]
  rw [sFrz, f6]
  have hl3 : ms.length < 16777216 := by omega
  simp [hl3, sizeLine_eq]
theorem modesBy_fin {f9 f18 : List D → R Ow} {WD : D} (tb : List TbE) (md : List (List D)) (hl : md.length = tb.length) (ne : tb ≠ []) (few : tb.length ≤ 900)
    (h : ∀ (i : Nat) e ts, tb[i]? = some e → md[i]? = some ts → MbOk f9 f18 WD (msD (tb.map (·.1))) e ts) :
    finR (bModesBy f9 f18 (envOf 7 [WD, .dict (tb.map teP)])) = .ok (.l ((List.zipWith (fun (e : TbE) ts => PyData.tuple [.str e.2.1, .list ts]) tb md).map Ow.d)) := by
  have he : envOf 7 [WD, .dict (tb.map teP)] = [some (.d WD), some (.d (.dict (tb.map teP))), none, none, none, none, none, none, none] := rfl
  rw [he]
  have ks : (tb.map teP).all (fun p => isKey p.1) = true := by
    rw [List.all_eq_true]
    intro p hp
    obtain ⟨e, _, rfl⟩ := List.mem_map.mp hp
    rfl
  obtain ⟨NL, hNL⟩ : ∃ d, d = msD (tb.map (·.1)) := ⟨_, rfl⟩
  have lk : gListKD (.dict (tb.map teP)) = some (.l ((tb.map (·.1)).map fun z => .d (.str z))) := by
    cases tb with
    | nil => exact absurd rfl ne
    | cons e tb =>
      rw [List.map_cons] at ks ⊢
      rw [gListKD_dict, if_pos ks, ← List.map_cons, List.map_map, List.map_map, List.map_map]
      rfl
  have vl : viewD (.l ((tb.map (·.1)).map fun z => .d (.str z))) = NL := by
    rw [hNL]
    exact viewD_of (fun z : Str => PyData.str z) (tb.map (·.1))
  rw [← hNL] at h
  refine fin_step (env1 := [some (.d WD), some (.d (.dict (tb.map teP))), some (.d NL), none, none, none, none, none, none]) ?_ ?_
  · generalize ((tb.map (·.1)).map fun z => Ow.d (.str z)) = os at lk vl
    generalize (.dict (tb.map teP) : D) = TD at lk
    simp [eListKD, lk, vl]
  refine fin_step (env1 := [some (.d WD), some (.d (.dict (tb.map teP))), some (.d NL), some (.l []), none, none, none, none, none]) (by simp [sizeLine_eq]) ?_
  obtain ⟨env', lp, y4, y5, y6, y7, y8, rfl⟩ := forL_map (g := gtTup 2 (gtCons (gtName 4) (gtCons (gtName 5) gtNil))) (f := mbOut f9 f18) (fun e : TbE => (teP e).2) tb (fun i env => ∃ y4 y5 y6 y7 y8, env = [some (.d WD), some (.d (.dict (tb.map teP))), some (.d NL), some (.l (((List.zipWith (fun (e : TbE) ts => PyData.tuple [.str e.2.1, .list ts]) tb md).take i).map Ow.d)), y4, y5, y6, y7, y8]) (fun i e env hi hI => by
    obtain ⟨y4, y5, y6, y7, y8, rfl⟩ := hI
    have hlt : i < md.length := by rw [hl]; exact (List.getElem?_eq_some_iff.mp hi).1
    obtain ⟨z7, z8, st⟩ := mb_out (h i e md[i] hi (List.getElem?_eq_getElem hlt)) (some (.d (.dict (tb.map teP)))) y6 y7 y8 (((List.zipWith (fun (e : TbE) ts => PyData.tuple [.str e.2.1, .list ts]) tb md).take i).map Ow.d) (by rw [List.length_map, List.length_take]; omega)
    refine ⟨_, rfl, _, .inl st, some (.d (.str e.2.1)), some (.d (.dict (tbP e.2.2))), some (.d (.list md[i])), z7, z8, ?_⟩
    have zi : (List.zipWith (fun (e : TbE) ts => PyData.tuple [.str e.2.1, .list ts]) tb md)[i]? = some (.tuple [.str e.2.1, .list md[i]]) := by
      rw [List.getElem?_zipWith, hi, List.getElem?_eq_getElem hlt]
    have : ((List.zipWith (fun (e : TbE) ts => PyData.tuple [.str e.2.1, .list ts]) tb md).take (i + 1)).map Ow.d = ((List.zipWith (fun (e : TbE) ts => PyData.tuple [.str e.2.1, .list ts]) tb md).take i).map Ow.d ++ [.d (.tuple [.str e.2.1, .list md[i]])] := by
      rw [List.take_succ, zi, List.map_append]
      rfl
    rw [this]) [some (.d WD), some (.d (.dict (tb.map teP))), some (.d NL), some (.l []), none, none, none, none, none] ⟨none, none, none, none, none, by simp⟩
  have ft : (List.zipWith (fun (e : TbE) ts => PyData.tuple [.str e.2.1, .list ts]) tb md).take tb.length = List.zipWith (fun (e : TbE) ts => PyData.tuple [.str e.2.1, .list ts]) tb md := List.take_of_length_le (by rw [List.length_zipWith]; omega)
  rw [ft] at lp
  have vd : valsD (tb.map teP) = tb.map fun e => (teP e).2 := by
    unfold valsD
    rw [List.map_map]
    rfl
  refine fin_step (env1 := [some (.d WD), some (.d (.dict (tb.map teP))), some (.d NL), some (.l ((List.zipWith (fun (e : TbE) ts => PyData.tuple [.str e.2.1, .list ts]) tb md).map Ow.d)), y4, y5, y6, y7, y8]) ?_ rfl
  cases ht : tb.map teP with
  | nil =>
    have := List.map_eq_nil_iff.mp ht
    exact absurd this ne
  | cons q ps =>
    rw [ht] at ks lp vd
    rw [sForVD_of rfl ks, vd, lp]
    rfl
end Mir
end
set_option Elab.async false
set_option linter.all false
set_option maxRecDepth 100000
set_option maxHeartbeats 4000000
noncomputable section
namespace Mir
open PySem PySem.Spec L2
def brT : List (List Nat) → List Nat
  | [] => []
  | w :: ws => 40 :: (glue [32] (w :: ws) ++ [41])
mutual
def txT : NT → List Nat
  | .call nm k => 42 :: (nm ++ ik k)
  | .put nm kp ad z ps => nm ++ ((ekW kp).flatten ++ ((adW ad z).flatten ++ brT (txTs ps)))
def txTs : List NT → List (List Nat)
  | [] => []
  | p :: ps => txT p :: txTs ps
end
mutual
def noZ : NT → Prop
  | .call _ _ => True
  | .put _ _ _ z ps => z = false ∧ noZs ps
def noZs : List NT → Prop
  | [] => True
  | p :: ps => noZ p ∧ noZs ps
end
theorem txTs_map : ∀ ps : List NT, txTs ps = ps.map txT
  | [] => by rw [txTs]; rfl
  | p :: ps => by rw [txTs, txTs_map ps]; rfl
theorem noZs_iff : ∀ ps : List NT, noZs ps ↔ ∀ p ∈ ps, noZ p
  | [] => by simp [noZs]
  | p :: ps => by rw [noZs, noZs_iff ps]; simp
theorem ekW_len (kp : Bool) : (ekW kp).flatten.length ≤ 1 := by cases kp <;> simp [ekW]
theorem adW_len {ad : Int} (h : ad.natAbs < 10 ^ 60) (z : Bool) : (adW ad z).flatten.length ≤ 61 := by
  unfold adW
  split
  · simp
  · simpa using ik_len h
mutual
theorem txT_len : ∀ T : NT, okNT T → (txT T).length + 3 ≤ 80 * sizeNT T
  | .call nm k, h => by
    rw [okNT] at h
    rw [txT, sizeNT]
    have := ik_len h.2
    have := h.1.2.2
    simp
    omega
  | .put nm kp ad z ps, h => by
    rw [okNT] at h
    rw [txT, sizeNT]
    have h1 := h.1.2.2
    have h2 := ekW_len kp
    have h3 := adW_len h.2.1 z
    have h4 := txTs_len ps h.2.2.2
    have h5 : (brT (txTs ps)).length ≤ 80 * sizeNTs ps + 2 := by
      cases hp : txTs ps with
      | nil => simp [brT]
      | cons w ws =>
        rw [hp] at h4
        have := glueW_len [32] (by decide) (w :: ws)
        rw [brT]
        simp at this h4 ⊢
        omega
    simp only [List.length_append]
    omega
theorem txTs_len : ∀ ps : List NT, okNTs ps → ((txTs ps).map fun w => w.length + 3).sum ≤ 80 * sizeNTs ps
  | [], _ => by rw [txTs]; simp
  | p :: ps, h => by
    rw [okNTs] at h
    rw [txTs, sizeNTs, List.map_cons, List.sum_cons]
    have := txT_len p h.1
    have := txTs_len ps h.2
    omega
end
theorem sizeNTs_le : ∀ {ps : List NT} {p : NT}, p ∈ ps → sizeNT p ≤ sizeNTs ps
  | [], _, h => nomatch h
  | q :: qs, p, h => by
    rw [sizeNTs]
    rcases List.mem_cons.mp h with rfl | h
    · omega
    · have := sizeNTs_le h
      omega
def brS : List (Nat × List Nat) → List (Nat × List Nat)
  | [] => []
  | s :: ss => (0, [40]) :: (s :: ss ++ [(0, [41])])
mutual
def sgT : Nat → NT → List (Nat × List Nat)
  | g, .call nm k => [(g, [42]), (0, nm), (0, ik k)]
  | g, .put nm kp ad z ps => (g, nm) :: ((ekW kp).map (fun w => (0, w)) ++ ((adW ad z).map (fun w => (0, w)) ++ brS (sgTs 0 ps)))
def sgTs : Nat → List NT → List (Nat × List Nat)
  | _, [] => []
  | g, p :: ps => sgT g p ++ sgTs 1 ps
end
theorem brS_w : ∀ ss : List (Nat × List Nat), (brS ss).map (·.2) = brw (ss.map (·.2))
  | [] => rfl
  | s :: ss => by simp [brS, brw]
mutual
theorem sgT_w : ∀ (g : Nat) (T : NT), (sgT g T).map (·.2) = wT T
  | g, .call nm k => by rw [sgT, wT]; rfl
  | g, .put nm kp ad z ps => by
    rw [sgT, wT, List.map_cons, List.map_append, List.map_append, brS_w, sgTs_w 0 ps, List.map_map, List.map_map]
    simp [Function.comp_def]
theorem sgTs_w : ∀ (g : Nat) (ps : List NT), (sgTs g ps).map (·.2) = wTs ps
  | g, [] => by rw [sgTs, wTs]; rfl
  | g, p :: ps => by rw [sgTs, wTs, List.map_append, sgT_w g p, sgTs_w 1 ps]
end
theorem sgT_ne (g : Nat) (T : NT) : ∃ w ss, sgT g T = (g, w) :: ss := by
  cases T with
  | call nm k => exact ⟨_, _, by rw [sgT]⟩
  | put nm kp ad z ps => exact ⟨_, _, by rw [sgT]⟩
end Mir
end
set_option Elab.async false
set_option linter.all false
set_option maxRecDepth 100000
set_option maxHeartbeats 4000000
noncomputable section
namespace Mir
open PySem PySem.Spec L2
def mw (k : Nat) : List Nat := if k < 26 then [97 + k] else [97 + k / 26, 97 + k % 26]
theorem isL_add {j : Nat} (h : j < 26) : isL (97 + j) = true := by
  unfold isL
  have a : 97 ≤ 97 + j := by omega
  have b : 97 + j ≤ 122 := by omega
  simp [a, b]
theorem mw_nm {k : Nat} (h : k < 676) : NmW (mw k) := by
  unfold mw
  split
  · exact ⟨by simp, fun x hx => by rw [List.mem_singleton.mp hx]; exact isL_add (by omega), by simp⟩
  · refine ⟨by simp, fun x hx => ?_, by simp⟩
    rcases List.mem_cons.mp hx with rfl | hx
    · exact isL_add (by omega)
    · rw [List.mem_singleton.mp hx]; exact isL_add (by omega)
theorem mw_inj {a b : Nat} (ha : a < 676) (hb : b < 676) (h : mw a = mw b) : a = b := by
  unfold mw at h
  split at h <;> split at h
  · simp at h; exact h
  · simp at h
  · simp at h
  · simp at h; omega
theorem addT {a b : List Nat} (h : a.length + b.length ≤ 16777216) : gAddA (.str (tx a)) (.str (tx b)) = some (.str (tx (a ++ b))) := by
  show (if (tx a).length + (tx b).length ≤ sizeLine then some (PyData.str (tx a ++ tx b)) else none) = _
  rw [if_pos (by rw [tx_len, tx_len, sizeLine_eq]; exact h), tx_app]
abbrev mwC : Ev → R Bool := (eB (eBin gGe (eVar 0) (eC (.int 26))) asB)
abbrev mwB : Ev → SR := (sSeq (sSet 0 (eM (eBin gDiv (eVar 0) (eC (.int 26))) Ow.d))
    (sSet 1 (eM (eM (eBinO gAdd (eBin gIx (eC (.str "abcdefghijklmnopqrstuvwxyz")) (eBin gMod (eVar 0) (eC (.int 26)))) (eVar 1)) viewD) Ow.d)))
abbrev bModeWord : Ev → SR := (sSeq (sSet 1 (eM (eBin gIx (eC (.str "abcdefghijklmnopqrstuvwxyz")) (eBin gMod (eVar 0) (eC (.int 26)))) Ow.d))
    (sSeq (whileN mwC mwB 1000000)
    (sRet (eM (eVar 1) Ow.d))))
theorem abcI {k : Nat} : gIx (.str "abcdefghijklmnopqrstuvwxyz") (.int ((k : Int) % 26)) = some (.str (tx [97 + k % 26])) := by
  have := abc_ix (k := k % 26) (by omega)
  exact this
theorem modeWord_fin {k : Nat} (h : k < 676) : finR (bModeWord (envOf 1 [.int (k : Nat)])) = .ok (.d (.str (tx (mw k)))) := by
  have he : envOf 1 [(.int (k : Nat) : D)] = [some (.d (.int (k : Nat))), none] := rfl
  rw [he]
  have m1 : gMod (.int (k : Nat)) (.int 26) = some (.int ((k : Int) % 26)) := gMod_int (by decide)
  refine fin_step (env1 := [some (.d (.int (k : Nat))), some (.d (.str (tx [97 + k % 26])))]) (by simp [m1, abcI]) ?_
  obtain ⟨N, hN⟩ : ∃ N : Nat, (1000000 : Nat) = N + 2 := ⟨999998, rfl⟩
  rw [hN]
  clear hN
  by_cases c : k < 26
  · have c1 : mwC [some (.d (.int (k : Nat))), some (.d (.str (tx [97 + k % 26])))] = .ok false := by
      have : ¬ (26 : Int) ≤ (k : Int) := by omega
      simp [this]
    refine fin_step (env1 := [some (.d (.int (k : Nat))), some (.d (.str (tx [97 + k % 26])))]) (by rw [whileN, c1]; rfl) ?_
    have e : mw k = [97 + k % 26] := by unfold mw; rw [if_pos c, Nat.mod_eq_of_lt c]
    rw [e]
    rfl
  · have c1 : mwC [some (.d (.int (k : Nat))), some (.d (.str (tx [97 + k % 26])))] = .ok true := by
      have : (26 : Int) ≤ (k : Int) := by omega
      simp [this]
    have d1 : gDiv (.int (k : Nat)) (.int 26) = some (.int ((k / 26 : Nat) : Int)) := by
      rw [gDiv_small (by decide) (by decide)]
      rfl
    have m2 : gMod (.int ((k / 26 : Nat) : Int)) (.int 26) = some (.int (((k / 26 : Nat) : Int) % 26)) := gMod_int (by decide)
    have lt : k / 26 < 26 := by omega
    have a2 := abcI (k := k / 26)
    rw [Nat.mod_eq_of_lt lt] at a2
    have ad := gAdd_tx (a := [97 + k / 26]) (b := [97 + k % 26]) (by simp)
    have b1 : mwB [some (.d (.int (k : Nat))), some (.d (.str (tx [97 + k % 26])))] = .nx [some (.d (.int ((k / 26 : Nat) : Int))), some (.d (.str (tx [97 + k / 26, 97 + k % 26])))] := by
      generalize ((k / 26 : Nat) : Int) = K at *
      simp [d1, m2, a2, ad]
    have c2 : mwC [some (.d (.int ((k / 26 : Nat) : Int))), some (.d (.str (tx [97 + k / 26, 97 + k % 26])))] = .ok false := by
      have : ¬ (26 : Int) ≤ ((k / 26 : Nat) : Int) := by omega
      generalize ((k / 26 : Nat) : Int) = K at *
      simp [this]
    refine fin_step (env1 := [some (.d (.int ((k / 26 : Nat) : Int))), some (.d (.str (tx [97 + k / 26, 97 + k % 26])))]) ?_ ?_
    · rw [whileN, c1, R.st_ok, if_pos rfl, b1]
      show whileN mwC mwB (N + 1) _ = _
      rw [whileN, c2]
      rfl
    · have e : mw k = [97 + k / 26, 97 + k % 26] := by unfold mw; rw [if_neg c]
      rw [e]
      rfl
abbrev bLawMode : Ev → SR := (sSeq (sSet 1 (eM (eC (.str "abcdefghijklmnopqrstuvwxyz")) Ow.d))
    (sSeq (sIf (eB (eBin gLt (eVar 0) (eC (.int 26))) asB)
    (sRet (eM (eBin gIx (eVar 1) (eVar 0)) Ow.d))
    sSkip)
    (sRet (eBinO gAdd (eBin gIx (eVar 1) (eBin gDiv (eVar 0) (eC (.int 26)))) (eBin gIx (eVar 1) (eBin gMod (eVar 0) (eC (.int 26))))))))
theorem lawMode_fin {k : Nat} (h : k < 676) : finR (bLawMode (envOf 1 [.int (k : Nat)])) = .ok (.d (.str (tx (mw k)))) := by
  have he : envOf 1 [(.int (k : Nat) : D)] = [some (.d (.int (k : Nat))), none] := rfl
  rw [he]
  unfold mw
  by_cases c : k < 26
  · rw [if_pos c]
    have c1 : ((k : Int) < 26) := by omega
    have a2 := abcI (k := k)
    rw [Nat.mod_eq_of_lt c] at a2
    rw [show ((k : Int) % 26) = (k : Int) by omega] at a2
    simp [c1, a2]
  · rw [if_neg c]
    have c1 : ¬ ((k : Int) < 26) := by omega
    have d1 : gDiv (.int (k : Nat)) (.int 26) = some (.int ((k / 26 : Nat) : Int)) := by
      rw [gDiv_small (by decide) (by decide)]
      rfl
    have m1 : gMod (.int (k : Nat)) (.int 26) = some (.int ((k : Int) % 26)) := gMod_int (by decide)
    have lt : k / 26 < 26 := by omega
    have a2 := abcI (k := k / 26)
    rw [Nat.mod_eq_of_lt lt, show (((k / 26 : Nat) : Int) % 26) = ((k / 26 : Nat) : Int) by omega] at a2
    have a1 := abcI (k := k)
    have ad := gAdd_tx (a := [97 + k / 26]) (b := [97 + k % 26]) (by simp)
    generalize ((k / 26 : Nat) : Int) = K at *
    simp [c1, d1, m1, a1, a2, ad]
def mrkT (kp : Bool) (ad : Int) : List Nat := (ekW kp).flatten ++ (adW ad false).flatten
abbrev bShowMark : Ev → SR := (sSeq (sSet 2 (eM (eIf (eB (eVar 0) asB) (eC (.str "=")) (eC (.str ""))) Ow.d))
    (sSeq (sIf (eB (eBin gNe (eVar 1) (eC (.int 0))) asB)
    (sAug gAddA 2 (eM (eCa gStr (aCons (eVar 1) aNil)) viewD))
    sSkip)
    (sRet (eM (eVar 2) Ow.d))))
theorem pow60 : (10 : Nat) ^ 60 < 2 ^ 1000 := by decide +kernel
theorem showMark_fin (kp : Bool) {ad : Int} (h : ad.natAbs < 10 ^ 60) : finR (bShowMark (envOf 1 [.bool kp, .int ad])) = .ok (.d (.str (tx (mrkT kp ad)))) := by
  have he : envOf 1 [(.bool kp : D), .int ad] = [some (.d (.bool kp)), some (.d (.int ad)), none] := rfl
  rw [he]
  have st := gStr_ik (k := ad) (Nat.lt_trans h pow60)
  refine fin_step (env1 := [some (.d (.bool kp)), some (.d (.int ad)), some (.d (.str (tx (ekW kp).flatten)))]) ?_ ?_
  · cases kp
    · simp [empty_is, ekW]
    · simp [same_is, ekW]
  refine fin_step (env1 := [some (.d (.bool kp)), some (.d (.int ad)), some (.d (.str (tx (mrkT kp ad))))]) ?_ rfl
  unfold mrkT adW
  have hl := ekW_len kp
  generalize (ekW kp).flatten = E at *
  by_cases c : ad = 0
  · subst c
    simp
  · rw [if_neg (by simp [c])]
    have il := ik_len h
    have ad2 := addT (a := E) (b := ik ad) (by omega)
    have ne : (!(ad == 0)) = true := by simp [c]
    simp [ne, c, st, ad2]
abbrev bLawMark : Ev → SR := (sRet (eBinO gAdd (eBin gMulZ (eC (.str "=")) (eM (eCa gInt (aCons (eVar 0) aNil)) viewD)) (eBin gMulZ (eM (eCa gStr (aCons (eVar 1) aNil)) viewD) (eM (eCa gInt (aCons (eBin gNe (eVar 1) (eC (.int 0))) aNil)) viewD))))
theorem lawMark_fin (kp : Bool) {ad : Int} (h : ad.natAbs < 10 ^ 60) : finR (bLawMark (envOf 0 [.bool kp, .int ad])) = .ok (.d (.str (tx (mrkT kp ad)))) := by
  have he : envOf 0 [(.bool kp : D), .int ad] = [some (.d (.bool kp)), some (.d (.int ad))] := rfl
  rw [he]
  have st := gStr_ik (k := ad) (Nat.lt_trans h pow60)
  have il := ik_len h
  have z0 : ∀ w : List Nat, repS (tx w) 0 = tx [] := fun w => rfl
  have z1 : ∀ w : List Nat, repS (tx w) 1 = tx w := fun w => by
    unfold repS tx
    simp
  have m1 : gMulZ (.str "=") (.int (if kp then 1 else 0)) = some (.str (tx (ekW kp).flatten)) := by
    rw [same_is]
    cases kp
    · have := gMulZ_str (z := tx [61]) (n := 0) (by omega) (by rw [Nat.mul_zero]; exact Nat.zero_le _)
      rw [z0] at this
      exact this
    · have := gMulZ_str (z := tx [61]) (n := 1) (by omega) (by rw [tx_len, sizeLine_eq]; decide)
      rw [z1] at this
      exact this
  have m2 : gMulZ (.str (tx (ik ad))) (.int (if (!(ad == 0)) then 1 else 0)) = some (.str (tx (adW ad false).flatten)) := by
    by_cases c : ad = 0
    · have := gMulZ_str (z := tx (ik ad)) (n := 0) (by omega) (by rw [Nat.mul_zero]; exact Nat.zero_le _)
      rw [z0] at this
      have e0 : adW ad false = [] := by unfold adW; rw [if_pos ⟨c, rfl⟩]
      rw [e0]
      subst c
      exact this
    · have := gMulZ_str (z := tx (ik ad)) (n := 1) (by omega) (by rw [tx_len, sizeLine_eq]; omega)
      rw [z1] at this
      have e1 : adW ad false = [ik ad] := by unfold adW; rw [if_neg (fun z => c z.1)]
      have nb : (!(ad == 0)) = true := by simp [c]
      rw [e1, nb]
      simpa using this
  have gi1 : gInt [.bool kp] = some (.d (.int (if kp then 1 else 0))) := rfl
  have gi2 : gInt [.bool (!(ad == 0))] = some (.d (.int (if (!(ad == 0)) then 1 else 0))) := rfl
  have l1 := ekW_len kp
  have l2 := adW_len h false
  have ad2 := gAdd_tx (a := (ekW kp).flatten) (b := (adW ad false).flatten) (by omega)
  have ne : gNe (.int ad) (.int 0) = some (.bool (!(ad == 0))) := rfl
  unfold mrkT
  generalize (ekW kp).flatten = E at *
  generalize (adW ad false).flatten = A at *
  generalize (!(ad == 0)) = B at *
  generalize (if kp = true then (1 : Int) else 0) = I1 at *
  generalize (if B = true then (1 : Int) else 0) = I2 at *
  simp only [sRet, eBinO_eq, eBin_eq, eC, eM_eq, eCa_eq, aCons_eq, eVar, aNil]
  simp [gi1, gi2, st, m1, m2, ad2, ne]
end Mir
end
set_option Elab.async false
set_option linter.all false
set_option maxRecDepth 100000
set_option maxHeartbeats 4000000
noncomputable section
namespace Mir
open PySem PySem.Spec L2
abbrev SMd := List Nat × List (List Nat × List Str × NT)
def lineT (k : Nat) (kd rn : List Nat) (T : NT) : List Nat := (((mw k ++ [32]) ++ kd) ++ [32]) ++ rn ++ [32, 58, 32] ++ txT T
def linesAt (k : Nat) (p : SMd) : List (List Nat) := p.2.map fun q => lineT k p.1 q.1 q.2.2
def linesUp : Nat → List SMd → List (List Nat)
  | _, [] => []
  | k, p :: ps => linesAt k p ++ linesUp (k + 1) ps
def rowsS (p : SMd) : List Rw := p.2.map fun q => ⟨tx q.1, q.2.1⟩
def rulesS (ix : List Nat → Int) (p : SMd) : List D := p.2.map fun q => encM (ntM ix q.2.2)
def mdS (ix : List Nat → Int) (p : SMd) : D := .tuple [.str (tx p.1), .list (rulesS ix p)]
def tw (w : List Nat) : Ow := .d (.str (tx w))
abbrev shwB (f24 : List D → R Ow) : Ev → SR := (sApp 1 (eBinO gAdd (eB (eBinO gAdd (eB (eBinO gAdd (eVar 4) (eBin gIx (eVar 5) (eC (.int 0)))) shD) (eC (.str " : "))) shD) (eB (eB (aCons (eVar 6) aNil) f24) shD)))
abbrev shwO (f9 f22 f24 : List D → R Ow) : Ev → SR := (sSeq (sSet 4 (eM (eM (eBinO gAdd (eB (eBinO gAdd (eB (eBinO gAdd (eB (eB (aCons (eVar 2) aNil) f22) shD) (eC (.str " "))) shD) (eBin gIx (eVar 3) (eC (.int 0)))) shD) (eC (.str " "))) viewD) Ow.d))
    (sFor (eB (aCons (eM (eB (aCons (eBin gIx (eVar 0) (eC (.int 0))) (aCons (eBin gIx (eVar 3) (eC (.int 0))) aNil)) f9) viewD) (aCons (eBin gIx (eVar 3) (eC (.int 1))) aNil)) zpArg) (gtTup 2 (gtCons (gtName 5) (gtCons (gtName 6) gtNil)))
    (shwB f24)))
abbrev bShowTn (f9 f22 f24 : List D → R Ow) : Ev → SR := (sSeq (sSet 1 (eLst (aCons (eM (eB (aCons (eBin gIx (eVar 0) (eC (.int 1))) aNil) f24) viewD) aNil)))
    (sSeq (sFor (eB (aCons (eBin gIx (eVar 0) (eC (.int 2))) aNil) enArg) (gtTup 2 (gtCons (gtName 2) (gtCons (gtName 3) gtNil)))
    (shwO f9 f22 f24))
    (sRet (eM (eJoin (eC (.str "; ")) (eB (eVarO 1) shD)) Ow.d))))
structure SmOk (f9 f22 f24 : List D → R Ow) (WD : D) (ix : List Nat → Int) (k : Nat) (p : SMd) : Prop where
  kw : k < 676
  f9 : ∃ o, f9 [WD, .str (tx p.1)] = .ok o ∧ viewD o = .list ((rowsS p).map encRw)
  f22 : f22 [.int (k : Nat)] = .ok (.d (.str (tx (mw k))))
  f24 : ∀ q ∈ p.2, f24 [encM (ntM ix q.2.2)] = .ok (.d (.str (tx (txT q.2.2))))
  kd : p.1.length ≤ 8
  rn : ∀ q ∈ p.2, q.1.length ≤ 8 ∧ (txT q.2.2).length ≤ 9000
  few : p.2.length ≤ 100
theorem zipD_map1 {α : Type} (f g : α → D) : ∀ xs : List α, zipD (xs.map f) (xs.map g) = xs.map fun x => .tuple [f x, g x]
  | [] => rfl
  | x :: xs => by rw [List.map_cons, List.map_cons, zipD_cons, zipD_map1 f g xs]; rfl
theorem colon3_is : (Str.ofString " : ") = tx [32, 58, 32] := by rw [tx_of (Str.ofString " : ")]; congr 1
theorem st_in {f24 : List D → R Ow} {ix : List Nat → Int} {q : List Nat × List Str × NT} (h : f24 [encM (ntM ix q.2.2)] = .ok (.d (.str (tx (txT q.2.2))))) (hl : q.1.length ≤ 8 ∧ (txT q.2.2).length ≤ 9000) {H : List Nat} (hh : H.length ≤ 100) (x0 x2 x3 : Option Ow) (os : List Ow) (ho : os.length ≤ 100000) :
    shwB f24 [x0, some (.l os), x2, x3, some (.d (.str (tx H))), some (.d (encRw ⟨tx q.1, q.2.1⟩)), some (.d (encM (ntM ix q.2.2)))] = .nx [x0, some (.l (os ++ [tw (H ++ q.1 ++ [32, 58, 32] ++ txT q.2.2)])), x2, x3, some (.d (.str (tx H))), some (.d (encRw ⟨tx q.1, q.2.1⟩)), some (.d (encM (ntM ix q.2.2)))] := by
  have i0 : gIx (encRw ⟨tx q.1, q.2.1⟩) (.int 0) = some (.str (tx q.1)) := rfl
  obtain ⟨A1, hA1⟩ : ∃ A, A = H ++ q.1 := ⟨_, rfl⟩
  obtain ⟨A2, hA2⟩ : ∃ A, A = A1 ++ [32, 58, 32] := ⟨_, rfl⟩
  obtain ⟨A3, hA3⟩ : ∃ A, A = A2 ++ txT q.2.2 := ⟨_, rfl⟩
  have l1 : A1.length ≤ 108 := by rw [hA1, List.length_append]; omega
  have l2 : A2.length ≤ 111 := by rw [hA2, List.length_append]; simp; omega
  have a1 := gAdd_tx (a := H) (b := q.1) (by omega)
  have a2 := gAdd_tx (a := A1) (b := [32, 58, 32]) (by simp; omega)
  have a3 := gAdd_tx (a := A2) (b := txT q.2.2) (by omega)
  rw [← hA1] at a1 ⊢
  rw [← hA2] at a2 ⊢
  rw [← hA3] at a3 ⊢
  have ho : os.length < 16777216 := by omega
  unfold tw
  generalize encRw ⟨tx q.1, q.2.1⟩ = RD at *
  generalize encM (ntM ix q.2.2) = TD at *
  generalize txT q.2.2 = T at *
  generalize q.1 = N at *
  simp [i0, a1, colon3_is, a2, h, a3, ho, sizeLine_eq]
theorem st_out {f9 f22 f24 : List D → R Ow} {WD S M : D} {ix : List Nat → Int} {k : Nat} {p : SMd} (o : SmOk f9 f22 f24 WD ix k p) (x4 x5 x6 : Option Ow) (done : List (List Nat)) (hd : done.length ≤ 50000) :
    ∃ y4 y5 y6, shwO f9 f22 f24 [some (.d (.tuple [WD, S, M])), some (.l (done.map tw)), some (.d (.int (k : Nat))), some (.d (mdS ix p)), x4, x5, x6] = .nx [some (.d (.tuple [WD, S, M])), some (.l ((done ++ linesAt k p).map tw)), some (.d (.int (k : Nat))), some (.d (mdS ix p)), y4, y5, y6] := by
  obtain ⟨kw, ⟨o9, h91, h92⟩, h22, h24, kd, rn, few⟩ := o
  have mwl : (mw k).length ≤ 8 := (mw_nm kw).2.2
  obtain ⟨H, hH⟩ : ∃ H, H = ((mw k ++ [32]) ++ p.1) ++ [32] := ⟨_, rfl⟩
  have Hl : H.length ≤ 100 := by rw [hH]; simp; omega
  obtain ⟨TD, hTD⟩ : ∃ d : D, d = .tuple [WD, S, M] := ⟨_, rfl⟩
  have s1 : (sSet 4 (eM (eM (eBinO gAdd (eB (eBinO gAdd (eB (eBinO gAdd (eB (eB (aCons (eVar 2) aNil) f22) shD) (eC (.str " "))) shD) (eBin gIx (eVar 3) (eC (.int 0)))) shD) (eC (.str " "))) viewD) Ow.d)) [some (.d TD), some (.l (done.map tw)), some (.d (.int (k : Nat))), some (.d (mdS ix p)), x4, x5, x6] = .nx [some (.d TD), some (.l (done.map tw)), some (.d (.int (k : Nat))), some (.d (mdS ix p)), some (.d (.str (tx H))), x5, x6] := by
    have i0 : gIx (mdS ix p) (.int 0) = some (.str (tx p.1)) := rfl
    obtain ⟨A1, hA1⟩ : ∃ A, A = mw k ++ [32] := ⟨_, rfl⟩
    obtain ⟨A2, hA2⟩ : ∃ A, A = A1 ++ p.1 := ⟨_, rfl⟩
    have l1 : A1.length ≤ 9 := by rw [hA1, List.length_append]; simp; omega
    have l2 : A2.length ≤ 17 := by rw [hA2, List.length_append]; omega
    have a1 := gAdd_tx (a := mw k) (b := [32]) (by simp; omega)
    have a2 := gAdd_tx (a := A1) (b := p.1) (by omega)
    have a3 := gAdd_tx (a := A2) (b := [32]) (by simp; omega)
    rw [← hA1] at a1 hH
    rw [← hA2] at a2 hH
    rw [← hH] at a3
    generalize mdS ix p = PD at *
    generalize done.map tw = os
    generalize mw k = MW at *
    generalize p.1 = N at *
    simp [h22, sp_is, a1, i0, a2, a3]
  have it : (eB (aCons (eM (eB (aCons (eBin gIx (eVar 0) (eC (.int 0))) (aCons (eBin gIx (eVar 3) (eC (.int 0))) aNil)) f9) viewD) (aCons (eBin gIx (eVar 3) (eC (.int 1))) aNil)) zpArg) [some (.d TD), some (.l (done.map tw)), some (.d (.int (k : Nat))), some (.d (mdS ix p)), some (.d (.str (tx H))), x5, x6] = .ok (p.2.map fun q => .tuple [encRw ⟨tx q.1, q.2.1⟩, encM (ntM ix q.2.2)]) := by
    have i0 : gIx (mdS ix p) (.int 0) = some (.str (tx p.1)) := rfl
    have i1 : gIx (mdS ix p) (.int 1) = some (.list (rulesS ix p)) := rfl
    have j0 : gIx TD (.int 0) = some WD := by rw [hTD]; rfl
    have z : zpArg [.list ((rowsS p).map encRw), .list (rulesS ix p)] = .ok (p.2.map fun q => .tuple [encRw ⟨tx q.1, q.2.1⟩, encM (ntM ix q.2.2)]) := by
      show R.ok (zipD ((rowsS p).map encRw) (rulesS ix p)) = _
      unfold rowsS rulesS
      rw [List.map_map, zipD_map1]
      rfl
    generalize mdS ix p = PD at *
    generalize done.map tw = os
    simp [j0, i0, i1, h91, h92, z]
  obtain ⟨env', lp, y5, y6, rfl⟩ := forL_map (g := gtTup 2 (gtCons (gtName 5) (gtCons (gtName 6) gtNil))) (f := shwB f24) (fun q : List Nat × List Str × NT => PyData.tuple [encRw ⟨tx q.1, q.2.1⟩, encM (ntM ix q.2.2)]) p.2 (fun i env => ∃ y5 y6, env = [some (.d TD), some (.l ((done ++ (linesAt k p).take i).map tw)), some (.d (.int (k : Nat))), some (.d (mdS ix p)), some (.d (.str (tx H))), y5, y6]) (fun i q env hq hI => by
    obtain ⟨y5, y6, rfl⟩ := hI
    have hm := List.mem_of_getElem? hq
    have hi : i < p.2.length := (List.getElem?_eq_some_iff.mp hq).1
    have st := st_in (h24 q hm) (rn q hm) Hl (some (.d TD)) (some (.d (.int (k : Nat)))) (some (.d (mdS ix p))) ((done ++ (linesAt k p).take i).map tw) (by simp; omega)
    refine ⟨_, rfl, _, .inl st, some (.d (encRw ⟨tx q.1, q.2.1⟩)), some (.d (encM (ntM ix q.2.2))), ?_⟩
    have gi : (linesAt k p)[i]? = some (H ++ q.1 ++ [32, 58, 32] ++ txT q.2.2) := by
      unfold linesAt
      rw [List.getElem?_map, hq, hH]
      rfl
    rw [List.take_succ, gi, ← List.append_assoc, List.map_append (l₁ := done ++ (linesAt k p).take i)]
    rfl) [some (.d TD), some (.l (done.map tw)), some (.d (.int (k : Nat))), some (.d (mdS ix p)), some (.d (.str (tx H))), x5, x6] ⟨x5, x6, by simp⟩
  have lt : (linesAt k p).take p.2.length = linesAt k p := List.take_of_length_le (by unfold linesAt; rw [List.length_map]; exact Nat.le_refl _)
  rw [lt] at lp
  refine ⟨some (.d (.str (tx H))), y5, y6, ?_⟩
  rw [← hTD]
  show (sSeq _ _) _ = _
  rw [sSeq_eq, s1]
  simp only [SR.andThen]
  unfold sFor
  rw [it, R.st_ok]
  exact lp
end Mir
end
set_option Elab.async false
set_option linter.all false
set_option maxRecDepth 100000
set_option maxHeartbeats 4000000
noncomputable section
namespace Mir
open PySem PySem.Spec L2
theorem linesUp_snoc : ∀ (ps : List SMd) (k : Nat) (p : SMd), linesUp k (ps ++ [p]) = linesUp k ps ++ linesAt (k + ps.length) p
  | [], k, p => by rw [List.nil_append, linesUp, linesUp, linesUp]; simp
  | q :: ps, k, p => by
    rw [List.cons_append, linesUp, linesUp, linesUp_snoc ps (k + 1) p, List.append_assoc, List.length_cons]
    rw [show k + 1 + ps.length = k + (ps.length + 1) by omega]
theorem linesUp_len : ∀ (ps : List SMd) (k : Nat), (∀ p ∈ ps, p.2.length ≤ 100) → (linesUp k ps).length ≤ 100 * ps.length
  | [], k, _ => by rw [linesUp]; simp
  | p :: ps, k, h => by
    rw [linesUp, List.length_append, List.length_cons]
    have := linesUp_len ps (k + 1) fun q hq => h q (List.mem_cons_of_mem _ hq)
    have := h p List.mem_cons_self
    unfold linesAt
    rw [List.length_map]
    omega
/-- the text of a turning -/
def tnT (st : NT) (ms : List SMd) : List Nat := glue [59, 32] (txT st :: linesUp 0 ms)
theorem showTn_fin {f9 f22 f24 : List D → R Ow} {WD : D} {ix : List Nat → Int} (st : NT) (ms : List SMd) (hm : ms.length ≤ 400) (hst : f24 [encM (ntM ix st)] = .ok (.d (.str (tx (txT st))))) (h : ∀ k p, ms[k]? = some p → SmOk f9 f22 f24 WD ix k p) (B : Nat) (hB : B ≤ 9900) (hl : ∀ w ∈ txT st :: linesUp 0 ms, w.length ≤ B) (hn : (linesUp 0 ms).length < 1000) :
    finR (bShowTn f9 f22 f24 (envOf 6 [.tuple [WD, encM (ntM ix st), .list (ms.map (mdS ix))]])) = .ok (.d (.str (tx (tnT st ms)))) := by
  obtain ⟨TD, hTD⟩ : ∃ d : D, d = .tuple [WD, encM (ntM ix st), .list (ms.map (mdS ix))] := ⟨_, rfl⟩
  have he : envOf 6 [TD] = [some (.d TD), none, none, none, none, none, none] := rfl
  rw [← hTD, he]
  have i1 : gIx TD (.int 1) = some (encM (ntM ix st)) := by rw [hTD]; rfl
  have i2 : gIx TD (.int 2) = some (.list (ms.map (mdS ix))) := by rw [hTD]; rfl
  refine fin_step (env1 := [some (.d TD), some (.l ([txT st].map tw)), none, none, none, none, none]) ?_ ?_
  · unfold tw
    simp [i1, hst, sizeLine_eq]
  obtain ⟨env', lp, y2, y3, y4, y5, y6, rfl⟩ := forL_ind (g := gtTup 2 (gtCons (gtName 2) (gtCons (gtName 3) gtNil))) (f := shwO f9 f22 f24) (enumD 0 (ms.map (mdS ix))) (fun i env => ∃ y2 y3 y4 y5 y6, env = [some (.d TD), some (.l ((txT st :: linesUp 0 (ms.take i)).map tw)), y2, y3, y4, y5, y6]) (fun i d env hd hI => by
    obtain ⟨y2, y3, y4, y5, y6, rfl⟩ := hI
    obtain ⟨e, he, rfl⟩ := enumD_at 0 i _ d hd
    rw [List.getElem?_map] at he
    cases hp : ms[i]? with
    | none => rw [hp] at he; cases he
    | some p =>
      rw [hp] at he
      have he : mdS ix p = e := by simpa using he
      subst he
      rw [Nat.zero_add]
      have ll := linesUp_len (ms.take i) 0 fun q hq => by
        obtain ⟨j, hj⟩ := List.mem_iff_getElem?.mp (List.mem_of_mem_take hq)
        exact (h j q hj).few
      have tl : (ms.take i).length ≤ 400 := by rw [List.length_take]; omega
      obtain ⟨z4, z5, z6, so⟩ := st_out (S := encM (ntM ix st)) (M := .list (ms.map (mdS ix))) (h i p hp) y4 y5 y6 (txT st :: linesUp 0 (ms.take i)) (by rw [List.length_cons]; omega)
      rw [← hTD] at so
      refine ⟨_, rfl, _, .inl so, some (.d (.int (i : Nat))), some (.d (mdS ix p)), z4, z5, z6, ?_⟩
      have il : (ms.take i).length = i := by rw [List.length_take]; have := (List.getElem?_eq_some_iff.mp hp).1; omega
      rw [List.take_succ, hp]
      have e : linesUp 0 (ms.take i ++ (some p).toList) = linesUp 0 (ms.take i) ++ linesAt i p := by
        show linesUp 0 (ms.take i ++ [p]) = _
        rw [linesUp_snoc, il, Nat.zero_add]
      rw [e]
      rfl) [some (.d TD), some (.l ([txT st].map tw)), none, none, none, none, none] ⟨none, none, none, none, none, by rw [List.take_zero, linesUp]⟩
  rw [enumD_len, List.length_map, List.take_length] at lp
  refine fin_step (env1 := [some (.d TD), some (.l ((txT st :: linesUp 0 ms).map tw)), y2, y3, y4, y5, y6]) ?_ ?_
  · unfold sFor
    have it : (eB (aCons (eBin gIx (eVar 0) (eC (.int 2))) aNil) enArg) [some (.d TD), some (.l ([txT st].map tw)), none, none, none, none, none] = .ok (enumD 0 (ms.map (mdS ix))) := by
      generalize [txT st].map tw = os
      simp [i2]
    rw [it, R.st_ok]
    exact lp
  · have jn := (gJoinL [59, 32] (by decide) (txT st :: linesUp 0 ms) B (by rw [List.length_cons]; omega) hl (by omega)).1
    have sh := unDs_of (fun w : List Nat => PyData.str (tx w)) (txT st :: linesUp 0 ms)
    have ej : eJoin (eC (.str "; ")) (eB (eVarO 1) shD) [some (.d TD), some (.l ((txT st :: linesUp 0 ms).map tw)), y2, y3, y4, y5, y6] = R.of (some (.str (tx (tnT st ms)))) := by
      unfold tnT
      rw [← jn]
      refine eJoin_eq (a := tx [59, 32]) (by rw [← semis_is]; rfl) ?_
      unfold tw
      generalize (txT st :: linesUp 0 ms).map (fun w => Ow.d (PyData.str (tx w))) = os at *
      simp [sh]
    generalize (txT st :: linesUp 0 ms).map tw = os at *
    simp [ej]
end Mir
end
set_option Elab.async false
set_option linter.all false
set_option maxRecDepth 100000
set_option maxHeartbeats 4000000
noncomputable section
namespace Mir
open PySem PySem.Spec L2
structure MnP where
  L : Nat
  first : Nat
  add : Int
  num : Nat → Int
  aft : Nat → Nat
  l1 : 1 ≤ L
  l2 : L ≤ 200
  hf : first < L
  ha : add.natAbs < 10 ^ 60
  hn : ∀ k, 0 ≤ num k ∧ num k < 10 ^ 60
  haft : ∀ k, aft k < L
namespace MnP
variable (P : MnP)
def kp (k : Nat) : Bool := decide (P.num k % 2 = 0)
def ad (k : Nat) : Int := P.num k - 10 ^ 30
def leafN (k : Nat) : NT := .put [101] (P.kp k) (P.ad k) false []
def callN (k : Nat) : NT := .call (mw k) 0
def fN (k : Nat) : NT := .put [102] (!P.kp k) (k : Nat) false [callN (P.aft k), P.leafN k]
def stN : NT := .put [98] false P.add false [callN P.first]
def md (k : Nat) : SMd := ([107], [([110], [], P.leafN k), ([115], [tx [107]], P.fN k)])
def mds : List SMd := (List.range P.L).map P.md
def ns : List Str := (List.range P.L).map fun k => tx (mw k)
def ix : List Nat → Int := nix P.ns
def wood : Wood := [(tx [107], [⟨tx [110], []⟩, ⟨tx [115], [tx [107]]⟩])]
theorem ns_get {k : Nat} (h : k < P.L) : P.ns[k]? = some (tx (mw k)) := by
  unfold ns
  rw [List.getElem?_map, List.getElem?_range h]
  rfl
theorem ns_len : P.ns.length = P.L := by unfold ns; rw [List.length_map, List.length_range]
theorem ns_nd : P.ns.Nodup := by
  have h2 := P.l2
  unfold ns
  rw [List.Nodup, List.pairwise_map]
  exact List.Pairwise.imp_of_mem (fun {a b} ha hb hne e => hne (mw_inj (by have := List.mem_range.mp ha; omega) (by have := List.mem_range.mp hb; omega) (tx_inj e))) List.nodup_range
theorem ix_mw {k : Nat} (h : k < P.L) : P.ix (mw k) = (k : Nat) := by
  unfold ix nix
  have hk : k < P.ns.length := by rw [P.ns_len]; exact h
  have e : tx (mw k) = P.ns[k] := by
    have := P.ns_get h
    rw [List.getElem?_eq_getElem hk] at this
    exact (Option.some.inj this).symm
  rw [e, P.ns_nd.idxOf_getElem k hk]
theorem ad_small (k : Nat) : (P.ad k).natAbs < 10 ^ 60 := by
  have := P.hn k
  unfold ad
  omega
theorem k_small {k : Nat} (h : k < 1000) : ((k : Nat) : Int).natAbs < 10 ^ 60 := by
  rw [Int.natAbs_natCast]
  omega
theorem nm_one {c : Nat} (h : isL c = true) : NmW [c] := ⟨by simp, fun x hx => by rw [List.mem_singleton.mp hx]; exact h, by simp⟩
theorem leaf_ok (k : Nat) : okNT (P.leafN k) := by
  unfold leafN
  rw [okNT, okNTs]
  exact ⟨nm_one (by decide), P.ad_small k, by simp, trivial⟩
theorem call_ok {k : Nat} (h : k < 676) : okNT (callN k) := by
  unfold callN
  rw [okNT]
  exact ⟨mw_nm h, by decide⟩
theorem f_ok {k : Nat} (h : k < 1000) : okNT (P.fN k) := by
  have := P.haft k
  have := P.l2
  unfold fN
  rw [okNT, okNTs, okNTs, okNTs]
  exact ⟨nm_one (by decide), k_small h, by simp, call_ok (by omega), P.leaf_ok k, trivial⟩
theorem st_ok : okNT P.stN := by
  have := P.hf
  have := P.l2
  unfold stN
  rw [okNT, okNTs, okNTs]
  exact ⟨nm_one (by decide), P.ha, by simp, call_ok (by omega), trivial⟩
theorem leaf_lev (k : Nat) : levNT (P.leafN k) = 1 ∧ sizeNT (P.leafN k) = 1 := by unfold leafN; rw [levNT, levNTs, sizeNT, sizeNTs]; exact ⟨rfl, rfl⟩
theorem call_lev (k : Nat) : levNT (callN k) = 1 ∧ sizeNT (callN k) = 1 := by unfold callN; rw [levNT, sizeNT]; exact ⟨rfl, rfl⟩
theorem f_lev (k : Nat) : levNT (P.fN k) = 2 ∧ sizeNT (P.fN k) = 3 := by
  unfold fN
  rw [levNT, levNTs, levNTs, levNTs, sizeNT, sizeNTs, sizeNTs, sizeNTs, (P.leaf_lev k).1, (P.leaf_lev k).2, (call_lev _).1, (call_lev _).2]
  exact ⟨rfl, rfl⟩
theorem st_lev : levNT P.stN = 2 ∧ sizeNT P.stN = 2 := by
  unfold stN
  rw [levNT, levNTs, levNTs, sizeNT, sizeNTs, sizeNTs, (call_lev _).1, (call_lev _).2]
  exact ⟨rfl, rfl⟩
theorem noz (k : Nat) : noZ (P.leafN k) ∧ noZ (P.fN k) ∧ noZ P.stN := by
  unfold fN stN leafN callN
  simp [noZ, noZs]
theorem names_leaf (k : Nat) : callsNT (P.leafN k) = [] := by unfold leafN; rw [callsNT, callsNTs]
theorem names_f (k : Nat) : callsNT (P.fN k) = [mw (P.aft k)] := by
  have := P.names_leaf k
  unfold fN callN
  rw [callsNT, callsNTs, callsNTs, callsNTs, this, callsNT]
  rfl
theorem names_st : callsNT P.stN = [mw P.first] := by
  unfold stN callN
  rw [callsNT, callsNTs, callsNTs, callsNT]
  rfl
theorem leaf_len (k : Nat) : (txT (P.leafN k)).length ≤ 80 := by
  have := txT_len _ (P.leaf_ok k)
  rw [(P.leaf_lev k).2] at this
  omega
theorem f_len {k : Nat} (h : k < 1000) : (txT (P.fN k)).length ≤ 240 := by
  have := txT_len _ (P.f_ok h)
  rw [(P.f_lev k).2] at this
  omega
theorem st_len : (txT P.stN).length ≤ 160 := by
  have := txT_len _ P.st_ok
  rw [P.st_lev.2] at this
  omega
/-- the turning itself -/
def tn : Trn := ⟨wood, ntM P.ix P.stN, (List.range P.L).map fun k => (tx [107], [ntM P.ix (P.leafN k), ntM P.ix (P.fN k)])⟩
theorem enc_tn : encTn P.tn = .tuple [encWd wood, encM (ntM P.ix P.stN), .list (P.mds.map (mdS P.ix))] := by
  unfold encTn tn mds
  simp only [List.map_map]
  rfl
theorem mds_get {k : Nat} {p : SMd} (h : P.mds[k]? = some p) : k < P.L ∧ p = P.md k := by
  unfold mds at h
  rw [List.getElem?_map] at h
  by_cases c : k < P.L
  · rw [List.getElem?_range c] at h
    exact ⟨c, (Option.some.inj h).symm⟩
  · rw [List.getElem?_eq_none (by rw [List.length_range]; omega)] at h
    cases h
end MnP
end Mir
end
set_option Elab.async false
set_option linter.all false
set_option maxRecDepth 100000
set_option maxHeartbeats 4000000
noncomputable section
namespace Mir
open PySem PySem.Spec L2
abbrev mnStep (f27 f28 : List D → R Ow) : Ev → SR := (sSeq (sSet 10 (eM (eBin gEq (eBin gMod (eVar 9) (eC (.int 2))) (eC (.int 0))) Ow.d))
    (sSeq (sSet 11 (eM (eBin gMod (eM (eBinO gAdd (eVar 8) (eC (.int 1))) viewD) (eVar 1)) Ow.d))
    (sSeq (sIf (eB (eBin gEq (eBin gMod (eVar 9) (eC (.int 3))) (eC (.int 1))) asB)
    (sSet 11 (eM (eBin gMod (eBin gDiv (eVar 9) (eC (.int 3))) (eVar 1)) Ow.d))
    sSkip)
    (sSeq (sSet 12 (eM (eTup (aCons (eC (.str "put")) (aCons (eC (.str "e")) (aCons (eVar 10) (aCons (eBin gSub (eVar 9) (eBin gPow (eC (.int 10)) (eC (.int 30)))) (aCons (eTup aNil) aNil)))))) Ow.d))
    (sSeq (sApp 6 (eM (eTup (aCons (eC (.str "k")) (aCons (eM (eLst (aCons (eVar 12) (aCons (eTup (aCons (eC (.str "put")) (aCons (eC (.str "f")) (aCons (eNot (eVar 10)) (aCons (eVar 8) (aCons (eTup (aCons (eTup (aCons (eC (.str "call")) (aCons (eVar 11) (aCons (eC (.int 0)) aNil)))) (aCons (eVar 12) aNil))) aNil)))))) aNil))) viewD) aNil))) Ow.d))
    (sSeq (sSet 13 (eM (eM (eBinO gAdd (eC (.str "e")) (eB (eB (aCons (eVar 10) (aCons (eBin gSub (eVar 9) (eBin gPow (eC (.int 10)) (eC (.int 30)))) aNil)) f28) shD)) viewD) Ow.d))
    (sSeq (sSet 7 (eM (eM (eBinO gAdd (eB (eBinO gAdd (eB (eBinO gAdd (eB (eBinO gAdd (eVar 7) (eC (.str "; "))) shD) (eB (eB (aCons (eVar 8) aNil) f27) shD)) shD) (eC (.str " k n : "))) shD) (eVar 13)) viewD) Ow.d))
    (sSeq (sSet 7 (eM (eM (eBinO gAdd (eB (eBinO gAdd (eB (eBinO gAdd (eB (eBinO gAdd (eVar 7) (eC (.str "; "))) shD) (eB (eB (aCons (eVar 8) aNil) f27) shD)) shD) (eC (.str " k s : f"))) shD) (eB (eB (aCons (eNot (eVar 10)) (aCons (eVar 8) aNil)) f28) shD)) viewD) Ow.d))
    (sSet 7 (eM (eM (eBinO gAdd (eB (eBinO gAdd (eB (eBinO gAdd (eB (eBinO gAdd (eB (eBinO gAdd (eVar 7) (eC (.str "(*"))) shD) (eB (eB (aCons (eVar 11) aNil) f27) shD)) shD) (eC (.str "0 "))) shD) (eVar 13)) shD) (eC (.str ")"))) viewD) Ow.d))))))))))
theorem kw_is : (Str.ofString "k") = tx [107] := by rw [tx_of (Str.ofString "k")]; congr 1
theorem ew_is : (Str.ofString "e") = tx [101] := by rw [tx_of (Str.ofString "e")]; congr 1
theorem fw_is : (Str.ofString "f") = tx [102] := by rw [tx_of (Str.ofString "f")]; congr 1
theorem bw_is : (Str.ofString "b") = tx [98] := by rw [tx_of (Str.ofString "b")]; congr 1
theorem nw_is : (Str.ofString "n") = tx [110] := by rw [tx_of (Str.ofString "n")]; congr 1
theorem sw_is : (Str.ofString "s") = tx [115] := by rw [tx_of (Str.ofString "s")]; congr 1
theorem kn_is : (Str.ofString " k n : ") = tx [32, 107, 32, 110, 32, 58, 32] := by rw [tx_of (Str.ofString " k n : ")]; congr 1
theorem ks_is : (Str.ofString " k s : f") = tx [32, 107, 32, 115, 32, 58, 32, 102] := by rw [tx_of (Str.ofString " k s : f")]; congr 1
theorem ops_is : (Str.ofString "(*") = tx [40, 42] := by rw [tx_of (Str.ofString "(*")]; congr 1
theorem nus_is : (Str.ofString "0 ") = tx [48, 32] := by rw [tx_of (Str.ofString "0 ")]; congr 1
theorem nuc_is : (Str.ofString "0)") = tx [48, 41] := by rw [tx_of (Str.ofString "0)")]; congr 1
theorem smi_is : (Str.ofString "; ") = tx [59, 32] := by rw [tx_of (Str.ofString "; ")]; congr 1
namespace MnP
variable (P : MnP)
def leafD (k : Nat) : D := .tuple [.str "put", .str (tx [101]), .bool (P.kp k), .int (P.ad k), .tuple []]
def fD (k : Nat) : D := .tuple [.str "put", .str (tx [102]), .bool (!P.kp k), .int (k : Nat), .tuple [.tuple [.str "call", .int (P.aft k : Nat), .int 0], P.leafD k]]
theorem leafD_is (k : Nat) : encM (ntM P.ix (P.leafN k)) = P.leafD k := by
  unfold leafN leafD
  rw [ntM_put, encM_put]
  rfl
theorem fD_is (k : Nat) : encM (ntM P.ix (P.fN k)) = P.fD k := by
  have h := P.leafD_is k
  unfold fN fD callN
  rw [ntM_put, encM_put, List.map_map, List.map_cons, List.map_cons, List.map_nil]
  show PyData.tuple [.str "put", .str (tx [102]), .bool (!P.kp k), .int (k : Nat), .tuple [encM (ntM P.ix (.call (mw (P.aft k)) 0)), encM (ntM P.ix (P.leafN k))]] = _
  rw [h, ntM_call, P.ix_mw (P.haft k), encM_call]
def startD : D := .tuple [.str "put", .str (tx [98]), .bool false, .int P.add, .tuple [.tuple [.str "call", .int (P.first : Nat), .int 0]]]
theorem startD_is : encM (ntM P.ix P.stN) = P.startD := by
  unfold stN startD callN
  rw [ntM_put, encM_put, List.map_map, List.map_cons, List.map_nil]
  show PyData.tuple [.str "put", .str (tx [98]), .bool false, .int P.add, .tuple [encM (ntM P.ix (.call (mw P.first) 0))]] = _
  rw [ntM_call, P.ix_mw P.hf, encM_call]
theorem mdS_is (k : Nat) : mdS P.ix (P.md k) = .tuple [.str (tx [107]), .list [P.leafD k, P.fD k]] := by
  rw [← P.leafD_is, ← P.fD_is]
  rfl
theorem txt_leaf (k : Nat) : txT (P.leafN k) = [101] ++ mrkT (P.kp k) (P.ad k) := by
  unfold leafN mrkT
  rw [txT, txTs]
  simp [brT]
theorem txt_f (k : Nat) : txT (P.fN k) = [102] ++ mrkT (!P.kp k) (k : Nat) ++ [40, 42] ++ mw (P.aft k) ++ [48, 32] ++ txT (P.leafN k) ++ [41] := by
  have i0 : ik 0 = [48] := numL_zero
  unfold fN mrkT callN
  rw [txT, txTs, txTs, txTs, txT, i0]
  simp [brT, glue]
theorem txt_st : txT P.stN = [98] ++ mrkT false P.add ++ [40, 42] ++ mw P.first ++ [48, 41] := by
  have i0 : ik 0 = [48] := numL_zero
  unfold stN mrkT callN
  rw [txT, txTs, txTs, txT, i0]
  simp [brT, glue]
def lnA (k : Nat) : List Nat := lineT k [107] [110] (P.leafN k)
def lnB (k : Nat) : List Nat := lineT k [107] [115] (P.fN k)
theorem lines_md (k : Nat) : linesAt k (P.md k) = [P.lnA k, P.lnB k] := rfl
end MnP
namespace MnP
variable (P : MnP)
theorem mn_step {f27 f28 : List D → R Ow} (h27 : ∀ k : Nat, k < 676 → f27 [.int (k : Nat)] = .ok (.d (.str (tx (mw k))))) (h28 : ∀ (kp : Bool) (ad : Int), ad.natAbs < 10 ^ 60 → f28 [.bool kp, .int ad] = .ok (.d (.str (tx (mrkT kp ad)))))
    {k : Nat} (hk : k < P.L) (hA : ((P.aft k : Nat) : Int) = if P.num k % 3 = 1 then P.num k / 3 % (P.L : Int) else ((k : Int) + 1) % (P.L : Int)) (x0 x2 x3 x4 x5 x10 x11 x12 x13 x14 x15 : Option Ow) (os : List Ow) (ho : os.length ≤ 1000) (T : List Nat) (hT : T.length ≤ 1000000) :
    mnStep f27 f28 [x0, some (.d (.int (P.L : Nat))), x2, x3, x4, x5, some (.l os), some (.d (.str (tx T))), some (.d (.int (k : Nat))), some (.d (.int (P.num k))), x10, x11, x12, x13, x14, x15] = .nx [x0, some (.d (.int (P.L : Nat))), x2, x3, x4, x5, some (.l (os ++ [.d (mdS P.ix (P.md k))])), some (.d (.str (tx (T ++ ([59, 32] ++ P.lnA k) ++ ([59, 32] ++ P.lnB k))))), some (.d (.int (k : Nat))), some (.d (.int (P.num k))), some (.d (.bool (P.kp k))), some (.d (.int (P.aft k : Nat))), some (.d (P.leafD k)), some (.d (.str (tx (txT (P.leafN k))))), x14, x15] := by
  have L2 := P.l2
  have aL := P.haft k
  obtain ⟨N, hN⟩ : ∃ N, N = P.num k := ⟨_, rfl⟩
  rw [← hN] at hA ⊢
  have m2 : gMod (.int N) (.int 2) = some (.int (N % 2)) := gMod_int (by decide)
  have m3 : gMod (.int N) (.int 3) = some (.int (N % 3)) := gMod_int (by decide)
  have d3 : gDiv (.int N) (.int 3) = some (.int (N / 3)) := gDiv_small (by decide) (by decide)
  have mL : ∀ i : Int, gMod (.int i) (.int (P.L : Nat)) = some (.int (i % (P.L : Int))) := fun i => gMod_int (by have := P.l1; omega)
  have p30 : gPow (.int 10) (.int 30) = some (.int (10 ^ 30)) := gPow10 30 (by decide)
  have kpe : gEq (.int (N % 2)) (.int 0) = some (.bool (P.kp k)) := by
    rw [gEq_int]
    unfold kp
    rw [← hN]
    rfl
  have ade : N - 10 ^ 30 = P.ad k := by unfold ad; rw [hN]
  obtain ⟨E, hE⟩ : ∃ E : Int, E = 10 ^ 30 := ⟨_, rfl⟩
  rw [← hE] at p30 ade
  clear hE
  refine seq_nx (env1 := [x0, some (.d (.int (P.L : Nat))), x2, x3, x4, x5, some (.l os), some (.d (.str (tx T))), some (.d (.int (k : Nat))), some (.d (.int N)), some (.d (.bool (P.kp k))), x11, x12, x13, x14, x15]) (by simp [m2, kpe]) ?_
  refine seq_nx (env1 := [x0, some (.d (.int (P.L : Nat))), x2, x3, x4, x5, some (.l os), some (.d (.str (tx T))), some (.d (.int (k : Nat))), some (.d (.int N)), some (.d (.bool (P.kp k))), some (.d (.int (((k : Int) + 1) % (P.L : Int)))), x12, x13, x14, x15]) (by simp [mL]) ?_
  refine seq_nx (env1 := [x0, some (.d (.int (P.L : Nat))), x2, x3, x4, x5, some (.l os), some (.d (.str (tx T))), some (.d (.int (k : Nat))), some (.d (.int N)), some (.d (.bool (P.kp k))), some (.d (.int (P.aft k : Nat))), x12, x13, x14, x15]) ?_ ?_
  · rw [hA]
    by_cases c : N % 3 = 1
    · simp [m3, c, d3, mL]
    · simp [m3, c]
  refine seq_nx (env1 := [x0, some (.d (.int (P.L : Nat))), x2, x3, x4, x5, some (.l os), some (.d (.str (tx T))), some (.d (.int (k : Nat))), some (.d (.int N)), some (.d (.bool (P.kp k))), some (.d (.int (P.aft k : Nat))), some (.d (P.leafD k)), x13, x14, x15]) (by unfold leafD; simp [p30, ade, ew_is, sizeLine_eq]) ?_
  refine seq_nx (env1 := [x0, some (.d (.int (P.L : Nat))), x2, x3, x4, x5, some (.l (os ++ [.d (mdS P.ix (P.md k))])), some (.d (.str (tx T))), some (.d (.int (k : Nat))), some (.d (.int N)), some (.d (.bool (P.kp k))), some (.d (.int (P.aft k : Nat))), some (.d (P.leafD k)), x13, x14, x15]) ?_ ?_
  · rw [P.mdS_is]
    unfold fD
    generalize P.leafD k = LD
    have ho : os.length < 16777216 := by omega
    simp [fw_is, kw_is, sizeLine_eq, ho]
  obtain ⟨S, hS⟩ : ∃ S, S = txT (P.leafN k) := ⟨_, rfl⟩
  have sl := P.leaf_len k
  have tl := P.txt_leaf k
  rw [← hS] at sl tl ⊢
  have k1 := h28 (P.kp k) (P.ad k) (P.ad_small k)
  have k2 := h28 (!P.kp k) (k : Nat) (k_small (by omega))
  have w1 := h27 k (by omega)
  have w2 := h27 (P.aft k) (by omega)
  have wl1 := (mw_nm (k := k) (by omega)).2.2
  have wl2 := (mw_nm (k := P.aft k) (by omega)).2.2
  obtain ⟨M2, hM2⟩ : ∃ M, M = mrkT (!P.kp k) (k : Nat) := ⟨_, rfl⟩
  have ml2 : M2.length ≤ 62 := by
    rw [hM2]; unfold mrkT
    have := ekW_len (!P.kp k)
    have := adW_len (ad := (k : Nat)) (k_small (by omega)) false
    rw [List.length_append]; omega
  obtain ⟨M1, hM1⟩ : ∃ M, M = mrkT (P.kp k) (P.ad k) := ⟨_, rfl⟩
  rw [← hM1] at k1 tl
  rw [← hM2] at k2
  have la : P.lnA k = mw k ++ [32, 107, 32, 110, 32, 58, 32] ++ S := by unfold lnA lineT; rw [← hS]; simp
  have lb : P.lnB k = mw k ++ [32, 107, 32, 115, 32, 58, 32, 102] ++ M2 ++ [40, 42] ++ mw (P.aft k) ++ [48, 32] ++ S ++ [41] := by
    have := P.txt_f k
    rw [← hS, ← hM2] at this
    unfold lnB lineT
    rw [this]
    simp
  have hml1 : M1.length ≤ 100 := by have := congrArg List.length tl; simp at this; omega
  -- pieces
  obtain ⟨W1, hW1⟩ : ∃ W, W = mw k := ⟨_, rfl⟩
  obtain ⟨W2, hW2⟩ : ∃ W, W = mw (P.aft k) := ⟨_, rfl⟩
  rw [← hW1] at w1 wl1 la lb
  rw [← hW2] at w2 wl2 lb
  have add : ∀ a b : List Nat, a.length ≤ 2000000 → b.length ≤ 1000 → gAdd (.str (tx a)) (.str (tx b)) = some (.d (.str (tx (a ++ b)))) := fun a b h1 h2 => gAdd_tx (by omega)
  obtain ⟨A1, hA1⟩ : ∃ A, A = T ++ [59, 32] := ⟨_, rfl⟩
  obtain ⟨A2, hA2⟩ : ∃ A, A = A1 ++ W1 := ⟨_, rfl⟩
  obtain ⟨A3, hA3⟩ : ∃ A, A = A2 ++ [32, 107, 32, 110, 32, 58, 32] := ⟨_, rfl⟩
  obtain ⟨A4, hA4⟩ : ∃ A, A = A3 ++ S := ⟨_, rfl⟩
  obtain ⟨B1, hB1⟩ : ∃ A, A = A4 ++ [59, 32] := ⟨_, rfl⟩
  obtain ⟨B2, hB2⟩ : ∃ A, A = B1 ++ W1 := ⟨_, rfl⟩
  obtain ⟨B3, hB3⟩ : ∃ A, A = B2 ++ [32, 107, 32, 115, 32, 58, 32, 102] := ⟨_, rfl⟩
  obtain ⟨B4, hB4⟩ : ∃ A, A = B3 ++ M2 := ⟨_, rfl⟩
  obtain ⟨B5, hB5⟩ : ∃ A, A = B4 ++ [40, 42] := ⟨_, rfl⟩
  obtain ⟨B6, hB6⟩ : ∃ A, A = B5 ++ W2 := ⟨_, rfl⟩
  obtain ⟨B7, hB7⟩ : ∃ A, A = B6 ++ [48, 32] := ⟨_, rfl⟩
  obtain ⟨B8, hB8⟩ : ∃ A, A = B7 ++ S := ⟨_, rfl⟩
  obtain ⟨B9, hB9⟩ : ∃ A, A = B8 ++ [41] := ⟨_, rfl⟩
  have lA1 : A1.length ≤ 1000002 := by rw [hA1, List.length_append]; simp; omega
  have lA2 : A2.length ≤ 1000010 := by rw [hA2, List.length_append]; omega
  have lA3 : A3.length ≤ 1000017 := by rw [hA3, List.length_append]; simp; omega
  have lA4 : A4.length ≤ 1000100 := by rw [hA4, List.length_append]; omega
  have lB1 : B1.length ≤ 1000102 := by rw [hB1, List.length_append]; simp; omega
  have lB2 : B2.length ≤ 1000110 := by rw [hB2, List.length_append]; omega
  have lB3 : B3.length ≤ 1000120 := by rw [hB3, List.length_append]; simp; omega
  have lB4 : B4.length ≤ 1000190 := by rw [hB4, List.length_append]; omega
  have lB5 : B5.length ≤ 1000192 := by rw [hB5, List.length_append]; simp; omega
  have lB6 : B6.length ≤ 1000200 := by rw [hB6, List.length_append]; omega
  have lB7 : B7.length ≤ 1000202 := by rw [hB7, List.length_append]; simp; omega
  have lB8 : B8.length ≤ 1000282 := by rw [hB8, List.length_append]; omega
  have a0 := add [101] M1 (by simp) (by omega)
  rw [← tl] at a0
  have a1 := add T [59, 32] (by omega) (by simp)
  have a2 := add A1 W1 (by omega) (by omega)
  have a3 := add A2 [32, 107, 32, 110, 32, 58, 32] (by omega) (by simp)
  have a4 := add A3 S (by omega) (by omega)
  have b1 := add A4 [59, 32] (by omega) (by simp)
  have b2 := add B1 W1 (by omega) (by omega)
  have b3 := add B2 [32, 107, 32, 115, 32, 58, 32, 102] (by omega) (by simp)
  have b4 := add B3 M2 (by omega) (by omega)
  have b5 := add B4 [40, 42] (by omega) (by simp)
  have b6 := add B5 W2 (by omega) (by omega)
  have b7 := add B6 [48, 32] (by omega) (by simp)
  have b8 := add B7 S (by omega) (by omega)
  have b9 := add B8 [41] (by omega) (by simp)
  have fin : T ++ ([59, 32] ++ P.lnA k) ++ ([59, 32] ++ P.lnB k) = B9 := by
    rw [la, lb, hB9, hB8, hB7, hB6, hB5, hB4, hB3, hB2, hB1, hA4, hA3, hA2, hA1]
    simp
  rw [fin]
  rw [← hA1] at a1
  rw [← hA2] at a2
  rw [← hA3] at a3
  rw [← hA4] at a4
  rw [← hB1] at b1
  rw [← hB2] at b2
  rw [← hB3] at b3
  rw [← hB4] at b4
  rw [← hB5] at b5
  rw [← hB6] at b6
  rw [← hB7] at b7
  rw [← hB8] at b8
  rw [← hB9] at b9
  clear hB9 hB8 hB7 hB6 hB5 hB4 hB3 hB2 hB1 hA4 hA3 hA2 hA1 fin la lb tl
  generalize os ++ [Ow.d (mdS P.ix (P.md k))] = os2
  refine seq_nx (env1 := [x0, some (.d (.int (P.L : Nat))), x2, x3, x4, x5, some (.l os2), some (.d (.str (tx T))), some (.d (.int (k : Nat))), some (.d (.int N)), some (.d (.bool (P.kp k))), some (.d (.int (P.aft k : Nat))), some (.d (P.leafD k)), some (.d (.str (tx S))), x14, x15]) ?_ ?_
  · generalize P.leafD k = LD
    simp [p30, ade, k1, ew_is, a0]
  refine seq_nx (env1 := [x0, some (.d (.int (P.L : Nat))), x2, x3, x4, x5, some (.l os2), some (.d (.str (tx A4))), some (.d (.int (k : Nat))), some (.d (.int N)), some (.d (.bool (P.kp k))), some (.d (.int (P.aft k : Nat))), some (.d (P.leafD k)), some (.d (.str (tx S))), x14, x15]) ?_ ?_
  · generalize P.leafD k = LD
    simp [smi_is, a1, w1, a2, kn_is, a3, a4]
  refine seq_nx (env1 := [x0, some (.d (.int (P.L : Nat))), x2, x3, x4, x5, some (.l os2), some (.d (.str (tx B4))), some (.d (.int (k : Nat))), some (.d (.int N)), some (.d (.bool (P.kp k))), some (.d (.int (P.aft k : Nat))), some (.d (P.leafD k)), some (.d (.str (tx S))), x14, x15]) ?_ ?_
  · generalize P.leafD k = LD
    simp [smi_is, b1, w1, b2, ks_is, b3, k2, b4]
  · generalize P.leafD k = LD
    simp [ops_is, b5, w2, b6, nus_is, b7, b8, cls_is, b9]
end MnP
end Mir
end
set_option Elab.async false
set_option linter.all false
set_option maxRecDepth 100000
set_option maxHeartbeats 4000000
noncomputable section
namespace Mir
open PySem PySem.Spec L2
theorem gSum_intsM (xs : List Int) : gSum [.list (xs.map PyData.int)] = some (.d (.int xs.sum)) := by
  have := intsD_ints xs
  unfold gSum
  simp only [this]
  rfl
abbrev bTSize (f : List D → R Ow) : Ev → SR := (sSeq (sIf (eB (eBin gEq (eBin gIx (eVar 0) (eC (.int 0))) (eC (.str "call"))) asB)
    (sRet (eM (eC (.int 1)) Ow.d))
    sSkip)
    (sRet (eBinO gAdd (eC (.int 1)) (eB (eCa gSum (aCons (eB (eLc (eB (eBin gIx (eVar 0) (eC (.int 4))) itD) (gtName 1) cYes (eB (aCons (eVar 1) aNil) f) (List.map (·.2) ([("part", 1)] : List (Str × Nat)))) shD) aNil)) shD))))
theorem sizeNTs_sum : ∀ ps : List NT, ((sizeNTs ps : Nat) : Int) = (ps.map fun p => ((sizeNT p : Nat) : Int)).sum
  | [] => by rw [sizeNTs]; rfl
  | p :: ps => by
    rw [sizeNTs, List.map_cons, List.sum_cons, ← sizeNTs_sum ps]
    omega
theorem tsize_call (f : List D → R Ow) (nm : List Nat) (k : Int) : finR (bTSize f (envOf 1 [encNT (.call nm k)])) = .ok (.d (.int (sizeNT (.call nm k) : Nat))) := by
  rw [encNT_call, sizeNT]
  have he : envOf 1 [(.tuple [.str "call", .str (tx nm), .int k] : D)] = [some (.d (.tuple [.str "call", .str (tx nm), .int k])), none] := rfl
  rw [he]
  have ec : gEq (.str "call") (.str "call") = some (.bool true) := by rw [gEq_str]; rfl
  simp [ec]
theorem tsize_put (f : List D → R Ow) (nm : List Nat) (kp : Bool) (ad : Int) (z : Bool) (ps : List NT) (hl : ps.length ≤ 1000) (h : ∀ p ∈ ps, f [encNT p] = .ok (.d (.int (sizeNT p : Nat)))) : finR (bTSize f (envOf 1 [encNT (.put nm kp ad z ps)])) = .ok (.d (.int (sizeNT (.put nm kp ad z ps) : Nat))) := by
  rw [encNT_put, sizeNT]
  have he : envOf 1 [(.tuple [.str "put", .str (tx nm), .bool kp, .int ad, .tuple (ps.map encNT)] : D)] = [some (.d (.tuple [.str "put", .str (tx nm), .bool kp, .int ad, .tuple (ps.map encNT)])), none] := rfl
  rw [he]
  have ec : gEq (.str "put") (.str "call") = some (.bool false) := by rw [gEq_str]; rfl
  have lc : eLc (eB (eBin gIx (eVar 0) (eC (.int 4))) itD) (gtName 1) cYes (eB (aCons (eVar 1) aNil) f) [1] [some (.d (.tuple [.str "put", .str (tx nm), .bool kp, .int ad, .tuple (ps.map encNT)])), none] = .ok (.l (ps.map fun p => .d (.int (sizeNT p : Nat)))) := by
    refine eLc_of (ds := ps.map encNT) rfl (by rw [List.length_map, sizeLine_eq]; omega) (lcR_map encNT (fun p => Ow.d (.int (sizeNT p : Nat))) ps fun p hp => ⟨[some (.d (.tuple [.str "put", .str (tx nm), .bool kp, .int ad, .tuple (ps.map encNT)])), some (.d (encNT p))], rfl, rfl, ?_⟩)
    exact h p hp
  have sh := unDs_of (fun p => PyData.int ((sizeNT p : Nat) : Int)) ps
  have sm := gSum_intsM (ps.map fun p => ((sizeNT p : Nat) : Int))
  rw [← sizeNTs_sum, List.map_map] at sm
  have sm : gSum [.list (ps.map fun p => PyData.int ((sizeNT p : Nat) : Int))] = some (.d (.int (sizeNTs ps : Nat))) := sm
  generalize (ps.map fun p => Ow.d (PyData.int ((sizeNT p : Nat) : Int))) = os at *
  generalize (ps.map fun p => PyData.int ((sizeNT p : Nat) : Int)) = ds at *
  generalize (ps.map encNT) = es at *
  simp [ec, lc, sh, sm]
def lineW (k : Nat) (kd rn : List Nat) (T : NT) : List (List Nat) := mw k :: kd :: rn :: [58] :: wT T
def lineS (k : Nat) (kd rn : List Nat) (T : NT) : List (Nat × List Nat) := (0, [59]) :: (1, mw k) :: (1, kd) :: (1, rn) :: (1, [58]) :: sgT 1 T
theorem lineS_w (k : Nat) (kd rn : List Nat) (T : NT) : (lineS k kd rn T).map (·.2) = [59] :: lineW k kd rn T := by
  unfold lineS lineW
  simp only [List.map_cons, sgT_w]
def linesS : Nat → List SMd → List (Nat × List Nat)
  | _, [] => []
  | k, p :: ps => (p.2.map fun q => lineS k p.1 q.1 q.2.2).flatten ++ linesS (k + 1) ps
def linesW : Nat → List SMd → List (List (List Nat))
  | _, [] => []
  | k, p :: ps => (p.2.map fun q => lineW k p.1 q.1 q.2.2) ++ linesW (k + 1) ps
theorem linesS_w : ∀ (k : Nat) (ps : List SMd), (linesS k ps).map (·.2) = ((linesW k ps).map fun w => [59] :: w).flatten
  | _, [] => by rw [linesS, linesW]; rfl
  | k, p :: ps => by
    rw [linesS, linesW, List.map_append, List.map_append, List.flatten_append, linesS_w (k + 1) ps]
    congr 1
    induction p.2 with
    | nil => rfl
    | cons q qs ih =>
      rw [List.map_cons, List.flatten_cons, List.map_append, lineS_w, ih]
      rfl
mutual
theorem wT_nosemi : ∀ T : NT, okNT T → [59] ∉ wT T
  | .call nm k, h => by
    rw [okNT] at h
    rw [wT]
    intro z
    rcases List.mem_cons.mp z with e | z
    · cases e
    · rcases List.mem_cons.mp z with e | z
      · exact nm_ne_sig h.1 (by decide) e.symm
      · exact ik_ne_sig (by decide) (List.mem_singleton.mp z).symm
  | .put nm kp ad z ps, h => by
    rw [okNT] at h
    have ih := wTs_nosemi ps h.2.2.2
    rw [wT]
    intro hz
    rcases List.mem_cons.mp hz with e | hz
    · exact nm_ne_sig h.1 (by decide) e.symm
    · rcases List.mem_append.mp hz with hz | hz
      · unfold ekW at hz
        split at hz
        · have := List.mem_singleton.mp hz
          cases this
        · cases hz
      · rcases List.mem_append.mp hz with hz | hz
        · unfold adW at hz
          split at hz
          · cases hz
          · exact ik_ne_sig (by decide) (List.mem_singleton.mp hz).symm
        · cases hw : wTs ps with
          | nil => rw [hw] at hz; cases hz
          | cons w ws =>
            rw [brwT_some (by rw [hw]; simp)] at hz
            rcases List.mem_cons.mp hz with e | hz
            · cases e
            · rcases List.mem_append.mp hz with hz | hz
              · exact ih hz
              · have := List.mem_singleton.mp hz
                cases this
theorem wTs_nosemi : ∀ ps : List NT, okNTs ps → [59] ∉ wTs ps
  | [], _ => by rw [wTs]; simp
  | p :: ps, h => by
    rw [okNTs] at h
    rw [wTs]
    intro z
    rcases List.mem_append.mp z with z | z
    · exact wT_nosemi p h.1 z
    · exact wTs_nosemi ps h.2 z
end
theorem line_nosemi {k : Nat} (hk : k < 676) {kd rn : List Nat} (h1 : NmW kd) (h2 : NmW rn) {T : NT} (h : okNT T) : [59] ∉ lineW k kd rn T := by
  unfold lineW
  intro z
  rcases List.mem_cons.mp z with e | z
  · exact nm_ne_sig (mw_nm hk) (by decide) e.symm
  · rcases List.mem_cons.mp z with e | z
    · exact nm_ne_sig h1 (by decide) e.symm
    · rcases List.mem_cons.mp z with e | z
      · exact nm_ne_sig h2 (by decide) e.symm
      · rcases List.mem_cons.mp z with e | z
        · cases e
        · exact wT_nosemi T h z
end Mir
end
set_option Elab.async false
set_option linter.all false
set_option maxRecDepth 100000
set_option maxHeartbeats 4000000
noncomputable section
namespace Mir
open PySem PySem.Spec L2
mutual
theorem okM_nt (ix : List Nat → Int) : ∀ T : NT, okNT T → okM (ntM ix T)
  | .call nm k, _ => by rw [ntM, okM]; trivial
  | .put nm kp ad z ps, h => by
    rw [okNT] at h
    rw [ntM, okM]
    exact ⟨h.1.ok, by rw [ntMs_map, List.length_map]; exact h.2.2.1, okMs_nt ix ps h.2.2.2⟩
theorem okMs_nt (ix : List Nat → Int) : ∀ ps : List NT, okNTs ps → okMs (ntMs ix ps)
  | [], _ => by rw [ntMs, okMs]; trivial
  | p :: ps, h => by
    rw [okNTs] at h
    rw [ntMs, okMs]
    exact ⟨okM_nt ix p h.1, okMs_nt ix ps h.2⟩
end
mutual
theorem levM_nt (ix : List Nat → Int) : ∀ T : NT, levM (ntM ix T) = levNT T
  | .call nm k => by rw [ntM, levM, levNT]
  | .put nm kp ad z ps => by rw [ntM, levM, levNT, levMs_nt ix ps]
theorem levMs_nt (ix : List Nat → Int) : ∀ ps : List NT, levMs (ntMs ix ps) = levNTs ps
  | [] => by rw [ntMs, levMs, levNTs]
  | p :: ps => by rw [ntMs, levMs, levNTs, levM_nt ix p, levMs_nt ix ps]
end
mutual
theorem sizeM_nt (ix : List Nat → Int) : ∀ T : NT, sizeM (ntM ix T) = sizeNT T
  | .call nm k => by rw [ntM, sizeM, sizeNT]
  | .put nm kp ad z ps => by rw [ntM, sizeM, sizeNT, sizeMs_nt ix ps]
theorem sizeMs_nt (ix : List Nat → Int) : ∀ ps : List NT, sizeMs (ntMs ix ps) = sizeNTs ps
  | [] => by rw [ntMs, sizeMs, sizeNTs]
  | p :: ps => by rw [ntMs, sizeMs, sizeNTs, sizeM_nt ix p, sizeMs_nt ix ps]
end
mutual
theorem wT_small : ∀ T : NT, (wT T).length ≤ 6 * sizeNT T
  | .call nm k => by rw [wT, sizeNT]; simp
  | .put nm kp ad z ps => by
    rw [wT, sizeNT]
    have h1 : (ekW kp).length ≤ 1 := by cases kp <;> simp [ekW]
    have h2 : (adW ad z).length ≤ 1 := by unfold adW; split <;> simp
    have h3 := wTs_small ps
    have h4 : (brw (wTs ps)).length ≤ 2 + (wTs ps).length := by
      cases wTs ps with
      | nil => simp [brw]
      | cons w ws => simp [brw]; omega
    simp only [List.length_cons, List.length_append]
    omega
theorem wTs_small : ∀ ps : List NT, (wTs ps).length ≤ 6 * sizeNTs ps
  | [] => by rw [wTs]; simp
  | p :: ps => by
    rw [wTs, sizeNTs, List.length_append]
    have := wT_small p
    have := wTs_small ps
    omega
end
theorem sgT_small (T : NT) (g : Nat) : (sgT g T).length ≤ 6 * sizeNT T := by
  have h := congrArg List.length (sgT_w g T)
  rw [List.length_map] at h
  rw [h]
  exact wT_small T
abbrev Qd := Nat × List Nat × List Nat × NT
def quads : Nat → List SMd → List Qd
  | _, [] => []
  | k, p :: ps => (p.2.map fun q => (k, p.1, q.1, q.2.2)) ++ quads (k + 1) ps
def qdW (q : Qd) : List (List Nat) := lineW q.1 q.2.1 q.2.2.1 q.2.2.2
def qdD (q : Qd) : D := .tuple [.str (tx (mw q.1)), .str (tx q.2.1), .str (tx q.2.2.1), encNT q.2.2.2]
theorem linesW_q : ∀ (k : Nat) (ps : List SMd), linesW k ps = (quads k ps).map qdW
  | _, [] => by rw [linesW, quads]; rfl
  | k, p :: ps => by
    rw [linesW, quads, List.map_append, linesW_q (k + 1) ps, List.map_map]
    rfl
def tbUp : Nat → List SMd → List TbE
  | _, [] => []
  | k, p :: ps => (tx (mw k), tx p.1, p.2.map fun q => (tx q.1, encNT q.2.2)) :: tbUp (k + 1) ps
theorem rusD_q : ∀ (k : Nat) (ps : List SMd), rusD (tbUp k ps) = (quads k ps).map qdD
  | _, [] => by rw [tbUp, quads]; rfl
  | k, p :: ps => by
    have ih := rusD_q (k + 1) ps
    unfold rusD at ih ⊢
    rw [tbUp, quads, List.map_cons, List.flatten_cons, ih, List.map_append, List.map_map, List.map_map]
    rfl
theorem quads_mem {q : Qd} : ∀ {k : Nat} {ps : List SMd}, q ∈ quads k ps → ∃ i p, ps[i]? = some p ∧ q.1 = k + i ∧ q.2.1 = p.1 ∧ ∃ x ∈ p.2, q.2.2.1 = x.1 ∧ q.2.2.2 = x.2.2
  | _, [], h => by rw [quads] at h; cases h
  | k, p :: ps, h => by
    rw [quads] at h
    rcases List.mem_append.mp h with h | h
    · obtain ⟨x, hx, rfl⟩ := List.mem_map.mp h
      exact ⟨0, p, rfl, rfl, rfl, x, hx, rfl, rfl⟩
    · obtain ⟨i, p', h1, h2, h3, h4⟩ := quads_mem h
      exact ⟨i + 1, p', by simpa using h1, by omega, h3, h4⟩
theorem quads_len {c : Nat} : ∀ (k : Nat) (ps : List SMd), (∀ p ∈ ps, p.2.length = c) → (quads k ps).length = c * ps.length
  | _, [], _ => by rw [quads]; rfl
  | k, p :: ps, h => by
    rw [quads, List.length_append, List.length_map, quads_len (k + 1) ps fun q hq => h q (List.mem_cons_of_mem _ hq), h p List.mem_cons_self, List.length_cons, Nat.mul_add]
    omega
theorem quads_sum {c : Nat} : ∀ (k : Nat) (ps : List SMd), (∀ p ∈ ps, (p.2.map fun q => sizeNT q.2.2).sum = c) → ((quads k ps).map fun q => sizeNT q.2.2.2).sum = c * ps.length
  | _, [], _ => by rw [quads]; rfl
  | k, p :: ps, h => by
    rw [quads, List.map_append, List.sum_append, quads_sum (k + 1) ps fun q hq => h q (List.mem_cons_of_mem _ hq), List.map_map, List.length_cons, Nat.mul_add]
    have := h p List.mem_cons_self
    have e : (p.2.map ((fun q : Qd => sizeNT q.2.2.2) ∘ fun q => (k, p.1, q.1, q.2.2))).sum = c := this
    rw [e]
    omega
theorem tbUp_get : ∀ (k : Nat) (ps : List SMd) (i : Nat), (tbUp k ps)[i]? = (ps[i]?).map fun p => (tx (mw (k + i)), tx p.1, p.2.map fun q => (tx q.1, encNT q.2.2))
  | _, [], i => by rw [tbUp]; simp
  | k, p :: ps, 0 => by rw [tbUp]; rfl
  | k, p :: ps, i + 1 => by
    rw [tbUp, List.getElem?_cons_succ, tbUp_get (k + 1) ps i, List.getElem?_cons_succ, show k + 1 + i = k + (i + 1) by omega]
theorem tbUp_len : ∀ (k : Nat) (ps : List SMd), (tbUp k ps).length = ps.length
  | _, [] => by rw [tbUp]; rfl
  | k, p :: ps => by rw [tbUp, List.length_cons, tbUp_len (k + 1) ps]; rfl
namespace MnP
variable (P : MnP)
theorem mds_len : P.mds.length = P.L := by unfold mds; rw [List.length_map, List.length_range]
theorem mds_at {k : Nat} (h : k < P.L) : P.mds[k]? = some (P.md k) := by
  unfold mds
  rw [List.getElem?_map, List.getElem?_range h]
  rfl
theorem mds_mem {p : SMd} (h : p ∈ P.mds) : ∃ k, k < P.L ∧ p = P.md k := by
  obtain ⟨i, hi⟩ := List.mem_iff_getElem?.mp h
  exact ⟨i, P.mds_get hi⟩
theorem md_rows {k : Nat} (h : k < P.L) : NmW (P.md k).1 ∧ ∀ q ∈ (P.md k).2, NmW q.1 ∧ okNT q.2.2 := by
  have := P.l2
  refine ⟨nm_one (by decide), fun q hq => ?_⟩
  have hq : q ∈ [([110], [], P.leafN k), ([115], [tx [107]], P.fN k)] := hq
  rcases List.mem_cons.mp hq with rfl | hq
  · exact ⟨nm_one (by decide), P.leaf_ok k⟩
  · rw [List.mem_singleton.mp hq]
    exact ⟨nm_one (by decide), P.f_ok (by omega)⟩
def tb : List TbE := tbUp 0 P.mds
theorem tb_get {k : Nat} {e : TbE} (h : P.tb[k]? = some e) : k < P.L ∧ e = (tx (mw k), tx [107], [(tx [110], encNT (P.leafN k)), (tx [115], encNT (P.fN k))]) := by
  unfold tb at h
  rw [tbUp_get, Nat.zero_add] at h
  by_cases c : k < P.L
  · rw [P.mds_at c] at h
    exact ⟨c, (Option.some.inj h).symm⟩
  · rw [List.getElem?_eq_none (by rw [P.mds_len]; omega)] at h
    cases h
theorem tb_len : P.tb.length = P.L := by unfold tb; rw [tbUp_len, P.mds_len]
theorem tb_names : P.tb.map (·.1) = P.ns := by
  refine List.ext_getElem? fun i => ?_
  rw [List.getElem?_map]
  by_cases c : i < P.L
  · rw [P.ns_get c]
    unfold tb
    rw [tbUp_get, Nat.zero_add, P.mds_at c]
    rfl
  · rw [List.getElem?_eq_none (by rw [P.tb_len]; omega), List.getElem?_eq_none (by rw [P.ns_len]; omega)]
    rfl
theorem ns_ok : ∀ z ∈ P.ns, PyData.strOk z = true := fun z hz => by
  have := P.l2
  unfold ns at hz
  obtain ⟨k, hk, rfl⟩ := List.mem_map.mp hz
  exact (mw_nm (by have := List.mem_range.mp hk; omega)).ok
theorem ns_mem {k : Nat} (h : k < P.L) : tx (mw k) ∈ P.ns := List.mem_of_getElem? (P.ns_get h)
theorem mo_eq : moD P.tn.modes = .list (P.mds.map (mdS P.ix)) := by
  unfold moD tn mds
  simp only [List.map_map]
  rfl
theorem st_nt : ntM P.ix P.stN = .put (tx [98]) false P.add [.call (P.first : Nat) 0] := by
  unfold stN callN
  rw [ntM_put, List.map_cons, List.map_nil, ntM_call, P.ix_mw P.hf]
theorem leaf_nt (k : Nat) : ntM P.ix (P.leafN k) = .put (tx [101]) (P.kp k) (P.ad k) [] := by
  unfold leafN
  rw [ntM_put, List.map_nil]
theorem f_nt (k : Nat) : ntM P.ix (P.fN k) = .put (tx [102]) (!P.kp k) (k : Nat) [.call (P.aft k : Nat) 0, .put (tx [101]) (P.kp k) (P.ad k) []] := by
  have h := P.leaf_nt k
  unfold fN callN
  rw [ntM_put, List.map_cons, List.map_cons, List.map_nil, h, ntM_call, P.ix_mw (P.haft k)]
theorem sound : soundB wood (tx [107]) P.tn.start P.tn.modes = true := by
  have kds : kdsOf P.tn.modes = List.replicate P.L (tx [107]) := by
    unfold kdsOf tn
    rw [List.map_map]
    refine List.ext_getElem? fun i => ?_
    rw [List.getElem?_map, List.getElem?_replicate]
    split
    · rename_i c
      rw [List.getElem?_range c]
      rfl
    · rw [List.getElem?_eq_none (by rw [List.length_range]; omega)]
      rfl
  have cf : ∀ k, k < P.L → callFit (List.replicate P.L (tx [107])) [tx [107]] ((k : Nat), 0) = true := fun k hk => by
    unfold callFit
    simp [hk]
  unfold soundB
  rw [kds]
  have k0 : keepsM P.tn.start = false := by
    show keepsM (ntM P.ix P.stN) = false
    rw [P.st_nt, keepsM, keepsMs, keepsM, keepsMs]
    rfl
  have f0 : fitB (List.replicate P.L (tx [107])) [tx [107]] P.tn.start = true := by
    show fitB _ _ (ntM P.ix P.stN) = true
    unfold fitB
    rw [P.st_nt, callsM, callsMs, callsM, callsMs]
    simp [cf P.first P.hf]
  have m0 : P.tn.modes.all (modeOk wood (List.replicate P.L (tx [107]))) = true := by
    rw [List.all_eq_true]
    intro p hp
    obtain ⟨k, hk, rfl⟩ := List.mem_map.mp hp
    unfold modeOk
    have rw1 : rowsOf wood (tx [107]) = [⟨tx [110], []⟩, ⟨tx [115], [tx [107]]⟩] := by
      show (bif (tx [107] == tx [107]) then _ else _) = _
      rw [beq_self_eq_true]
      rfl
    have a0 : (wood.any fun q => q.1 == tx [107]) = true := by
      show ((tx [107] == tx [107]) || _) = true
      rw [beq_self_eq_true]
      rfl
    show ((wood.any fun q => q.1 == tx [107]) && (([ntM P.ix (P.leafN k), ntM P.ix (P.fN k)].length == (rowsOf wood (tx [107])).length) && (((rowsOf wood (tx [107])).zip [ntM P.ix (P.leafN k), ntM P.ix (P.fN k)]).all fun q => fitB (List.replicate P.L (tx [107])) q.1.br q.2))) = true
    rw [a0, rw1, P.leaf_nt, P.f_nt]
    have fl : fitB (List.replicate P.L (tx [107])) [] (.put (tx [101]) (P.kp k) (P.ad k) []) = true := by
      unfold fitB
      rw [callsM, callsMs]
      rfl
    have ff : fitB (List.replicate P.L (tx [107])) [tx [107]] (.put (tx [102]) (!P.kp k) (k : Nat) [.call (P.aft k : Nat) 0, .put (tx [101]) (P.kp k) (P.ad k) []]) = true := by
      unfold fitB
      rw [callsM, callsMs, callsMs, callsMs, callsM, callsM, callsMs]
      simp [cf (P.aft k) (P.haft k)]
    simp [fl, ff]
  rw [k0, f0, m0]
  rfl
end MnP
end Mir
end
set_option Elab.async false
set_option linter.all false
set_option maxRecDepth 100000
set_option maxHeartbeats 4000000
noncomputable section
namespace Mir
open PySem PySem.Spec L2
def lots0 (cs : List Int) : Int := 1 + scCell cs 0 % 200
def lotsI (cs : List Int) : Int := if scCell cs 0 / 200 % 2 = 0 then 1 + lots0 cs % 20 else lots0 cs
def numI (cs : List Int) (k : Nat) : Int := if 0 < cs.length then cs.getD ((3 + k) % cs.length) 0 % 10 ^ 60 else ((k % 1000 : Nat) : Int)
theorem lots_ok (cs : List Int) : 1 ≤ lotsI cs ∧ lotsI cs ≤ 200 := by
  unfold lotsI lots0
  split <;> omega
theorem num_ok (cs : List Int) (k : Nat) : 0 ≤ numI cs k ∧ numI cs k < 10 ^ 60 := by
  unfold numI
  split
  · have h : (0 : Int) < 10 ^ 60 := by decide
    exact ⟨Int.emod_nonneg _ (by omega), Int.emod_lt_of_pos _ h⟩
  · omega
def aftI (cs : List Int) (k : Nat) : Int := if numI cs k % 3 = 1 then numI cs k / 3 % lotsI cs else ((k : Int) + 1) % lotsI cs
theorem aft_ok (cs : List Int) (k : Nat) : 0 ≤ aftI cs k ∧ aftI cs k < lotsI cs := by
  have h := (lots_ok cs).1
  unfold aftI
  split
  · exact ⟨Int.emod_nonneg _ (by omega), Int.emod_lt_of_pos _ (by omega)⟩
  · exact ⟨Int.emod_nonneg _ (by omega), Int.emod_lt_of_pos _ (by omega)⟩
def lawMn (cs : List Int) : MnP where
  L := (lotsI cs).toNat
  first := (scCell cs 1 % lotsI cs).toNat
  add := scCell cs 2 % 10 ^ 60 - 10 ^ 59
  num := numI cs
  aft := fun k => (aftI cs k).toNat
  l1 := by have := lots_ok cs; omega
  l2 := by have := lots_ok cs; omega
  hf := by
    have h := (lots_ok cs).1
    have a := Int.emod_nonneg (scCell cs 1) (b := lotsI cs) (by omega)
    have b := Int.emod_lt_of_pos (scCell cs 1) (b := lotsI cs) (by omega)
    omega
  ha := by
    have h : (0 : Int) < 10 ^ 60 := by decide
    have a := Int.emod_nonneg (scCell cs 2) (b := 10 ^ 60) (by omega)
    have b := Int.emod_lt_of_pos (scCell cs 2) h
    omega
  hn := num_ok cs
  haft := fun k => by have := aft_ok cs k; omega
theorem lawMn_L (cs : List Int) : (((lawMn cs).L : Nat) : Int) = lotsI cs := by
  show (((lotsI cs).toNat : Nat) : Int) = _
  have := lots_ok cs
  omega
theorem lawMn_first (cs : List Int) : (((lawMn cs).first : Nat) : Int) = scCell cs 1 % lotsI cs := by
  show (((scCell cs 1 % lotsI cs).toNat : Nat) : Int) = _
  have h := (lots_ok cs).1
  have a := Int.emod_nonneg (scCell cs 1) (b := lotsI cs) (by omega)
  omega
theorem lawMn_aft (cs : List Int) (k : Nat) : (((lawMn cs).aft k : Nat) : Int) = if (lawMn cs).num k % 3 = 1 then (lawMn cs).num k / 3 % ((lawMn cs).L : Int) else ((k : Int) + 1) % ((lawMn cs).L : Int) := by
  show (((aftI cs k).toNat : Nat) : Int) = if numI cs k % 3 = 1 then numI cs k / 3 % (((lawMn cs).L : Nat) : Int) else ((k : Int) + 1) % (((lawMn cs).L : Nat) : Int)
  rw [lawMn_L]
  have := aft_ok cs k
  show (((aftI cs k).toNat : Nat) : Int) = aftI cs k
  omega
/-- the number of a mode, as the script tells it -/
theorem num_at (cs : List Int) {k : Nat} (hk : k < 1000) (x1 x2 x3 x4 x5 x6 x7 x9 x10 x11 x12 x13 x14 x15 : Option Ow) :
    (sSet 9 (eM (eIf (eB (eBin gGt (eM (eCa gLen (aCons (eVar 0) aNil)) viewD) (eC (.int 0))) asB) (eBin gMod (eBin gIx (eVar 0) (eBin gMod (eM (eBinO gAdd (eC (.int 3)) (eVar 8)) viewD) (eM (eCa gLen (aCons (eVar 0) aNil)) viewD))) (eBin gPow (eC (.int 10)) (eC (.int 60)))) (eVar 8)) Ow.d)) [some (.d (scD cs)), x1, x2, x3, x4, x5, x6, x7, some (.d (.int (k : Nat))), x9, x10, x11, x12, x13, x14, x15] = .nx [some (.d (scD cs)), x1, x2, x3, x4, x5, x6, x7, some (.d (.int (k : Nat))), some (.d (.int (numI cs k))), x10, x11, x12, x13, x14, x15] := by
  have hl := sc_len cs
  have p60 : gPow (.int 10) (.int 60) = some (.int (10 ^ 60)) := gPow10 60 (by decide)
  unfold numI
  by_cases c : 0 < cs.length
  · rw [if_pos c]
    have hlt : (3 + k) % cs.length < cs.length := Nat.mod_lt _ c
    have ix := sc_ix (List.getElem?_eq_getElem hlt)
    have gd : cs.getD ((3 + k) % cs.length) 0 = cs[(3 + k) % cs.length] := by
      rw [List.getD_eq_getElem?_getD, List.getElem?_eq_getElem hlt]
      rfl
    rw [gd]
    have m1 : gMod (.int (3 + (k : Int))) (.int (cs.length : Nat)) = some (.int (((3 + k) % cs.length : Nat) : Int)) := by
      rw [gMod_int (by omega)]
      rfl
    generalize cs[(3 + k) % cs.length] = z at *
    have m2 : ∀ E : Int, 0 < E → gMod (.int z) (.int E) = some (.int (z % E)) := fun E h => gMod_int h
    have m2 := m2 (10 ^ 60) (by decide)
    obtain ⟨E, hE⟩ : ∃ E : Int, E = 10 ^ 60 := ⟨_, rfl⟩
    rw [← hE] at p60 m2 ⊢
    have c' : (0 : Int) < ((cs.length : Nat) : Int) := by omega
    obtain ⟨J, hJ⟩ : ∃ J : Int, J = (((3 + k) % cs.length : Nat) : Int) := ⟨_, rfl⟩
    rw [← hJ] at ix m1
    clear hJ
    generalize ((cs.length : Nat) : Int) = LL at *
    generalize scD cs = S at *
    simp [hl, c', m1, ix, p60, m2]
  · rw [if_neg c]
    have c0 : cs.length = 0 := by omega
    have hl : gLen [scD cs] = some (.d (.int 0)) := by rw [hl, c0]; rfl
    rw [Nat.mod_eq_of_lt hk]
    generalize scD cs = S at *
    simp [hl]
theorem nice_mn (P : MnP) : Nice (encTn P.tn) := by
  have h2 := P.l2
  rw [P.enc_tn]
  have sok : ∀ c, isL c = true → PyData.strOk (tx [c]) = true := fun c hc => (MnP.nm_one hc).ok
  have s107 := sok 107 (by decide)
  have s110 := sok 110 (by decide)
  have s115 := sok 115 (by decide)
  have hw : encWd MnP.wood = .list [.tuple [.str (tx [107]), .list [.tuple [.str (tx [110]), .tuple []], .tuple [.str (tx [115]), .tuple [.str (tx [107])]]]]] := rfl
  have w1 : (encWd MnP.wood).canLay0 = true ∧ (encWd MnP.wood).depth ≤ 10 := by
    rw [hw]
    constructor
    · simp [PyData.canLay0, PyData.canLayAll0, s107, s110, s115]
    · simp [PyData.depth, PyData.depthAll]
  have tm : ∀ T : NT, okNT T → levNT T ≤ 2 → (encM (ntM P.ix T)).canLay0 = true ∧ (encM (ntM P.ix T)).depth ≤ 4 := fun T h h3 => by
    refine ⟨can_encM _ (okM_nt _ T h), ?_⟩
    have := depth_encM (ntM P.ix T)
    rw [levM_nt] at this
    omega
  have t0 := tm P.stN P.st_ok (by rw [P.st_lev.1]; omega)
  have m1 : ∀ d ∈ P.mds.map (mdS P.ix), d.canLay0 = true ∧ d.depth ≤ 10 := fun d hd => by
    obtain ⟨p, hp, rfl⟩ := List.mem_map.mp hd
    obtain ⟨k, hk, rfl⟩ := P.mds_mem hp
    have a := tm (P.leafN k) (P.leaf_ok k) (by rw [(P.leaf_lev k).1]; omega)
    have b := tm (P.fN k) (P.f_ok (by omega)) (by rw [(P.f_lev k).1]; omega)
    show (PyData.tuple [.str (tx [107]), .list [encM (ntM P.ix (P.leafN k)), encM (ntM P.ix (P.fN k))]]).canLay0 = true ∧ (PyData.tuple [.str (tx [107]), .list [encM (ntM P.ix (P.leafN k)), encM (ntM P.ix (P.fN k))]]).depth ≤ 10
    constructor
    · simp [PyData.canLay0, PyData.canLayAll0, s107, a.1, b.1]
    · simp only [PyData.depth, PyData.depthAll]
      omega
  have m2 : (PyData.list (P.mds.map (mdS P.ix))).canLay0 = true ∧ (PyData.list (P.mds.map (mdS P.ix))).depth ≤ 12 := by
    constructor
    · rw [PyData.canLay0]; exact canAll_of _ fun d hd => (m1 d hd).1
    · rw [PyData.depth]
      have := depthAll_of (n := 10) (P.mds.map (mdS P.ix)) fun d hd => (m1 d hd).2
      omega
  refine ⟨?_, ?_⟩
  · rw [PyData.canLay0, PyData.canLayAll0, PyData.canLayAll0, PyData.canLayAll0, PyData.canLayAll0, w1.1, t0.1, m2.1]
    rfl
  · rw [PyData.depth, PyData.depthAll, PyData.depthAll, PyData.depthAll, PyData.depthAll]
    omega
/-- the law's text with so many modes -/
def upT (P : MnP) (k : Nat) : List Nat := txT P.stN ++ ((linesUp 0 (P.mds.take k)).map fun w => [59, 32] ++ w).flatten
theorem upT_zero (P : MnP) : upT P 0 = txT P.stN := by
  unfold upT
  rw [List.take_zero, linesUp]
  simp
theorem take_mds (P : MnP) {k : Nat} (h : k < P.L) : P.mds.take (k + 1) = P.mds.take k ++ [P.md k] := by
  rw [List.take_succ, P.mds_at h]
  rfl
theorem upT_succ (P : MnP) {k : Nat} (h : k < P.L) : upT P (k + 1) = upT P k ++ ([59, 32] ++ P.lnA k) ++ ([59, 32] ++ P.lnB k) := by
  unfold upT
  have tl : (P.mds.take k).length = k := by rw [List.length_take, P.mds_len]; omega
  rw [take_mds P h, linesUp_snoc, tl, Nat.zero_add, P.lines_md]
  simp
theorem upT_all (P : MnP) : upT P P.L = tnT P.stN P.mds := by
  unfold upT tnT
  rw [List.take_of_length_le (by rw [P.mds_len]; omega)]
  rfl
theorem upT_len (P : MnP) : ∀ k, k ≤ P.L → (upT P k).length ≤ 160 + 1000 * k
  | 0, _ => by rw [upT_zero]; have := P.st_len; omega
  | k + 1, h => by
    have h2 := P.l2
    rw [upT_succ P (by omega)]
    have := upT_len P k (by omega)
    have ml := (mw_nm (k := k) (by omega)).2.2
    have a := P.leaf_len k
    have b := P.f_len (k := k) (by omega)
    unfold MnP.lnA MnP.lnB lineT
    simp only [List.length_append, List.length_cons, List.length_nil]
    omega
end Mir
end
set_option Elab.async false
set_option linter.all false
set_option maxRecDepth 100000
set_option maxHeartbeats 4000000
namespace G
open PySem PySem.Spec L2 Mir
def top (i : Nat) : Stmt := PySem.Challenge.pw_turnery_k14_many_modes_shown.main.body.getD i (.Pass ⟨0, 0, 0, 0⟩)
abbrev s_term_size : Stmt := top 5
abbrev s_calls_of : Stmt := top 6
abbrev s_keeps_mark : Stmt := top 7
abbrev s_run_end : Stmt := top 12
abbrev s_word_end : Stmt := top 13
abbrev s_words : Stmt := top 14
abbrev s_is_name : Stmt := top 15
abbrev s_is_number : Stmt := top 16
abbrev s_parted : Stmt := top 17
abbrev s_rows_of : Stmt := top 19
abbrev s_wood_again : Stmt := top 20
abbrev s_calls_fit : Stmt := top 22
abbrev s_is_sound : Stmt := top 23
abbrev s_mark_at : Stmt := top 25
abbrev s_call_at : Stmt := top 26
abbrev s_term_at : Stmt := top 27
abbrev s_term_by : Stmt := top 28
abbrev s_rule_by : Stmt := top 29
abbrev s_numbered : Stmt := top 30
abbrev s_table_by : Stmt := top 31
abbrev s_modes_by : Stmt := top 32
abbrev s_read_turning : Stmt := top 33
abbrev s_mode_word : Stmt := top 34
abbrev s_show_mark : Stmt := top 35
abbrev s_show_term : Stmt := top 36
abbrev s_show_turning : Stmt := top 37
abbrev s__law_cell_at : Stmt := top 39
abbrev s__law_mode : Stmt := top 40
abbrev s__law_mark : Stmt := top 41
abbrev s_law : Stmt := top 42
/-- term_size: 0 term, 1 part -/
noncomputable def b_term_size (m : Nat → List PyData → R Ow) : Ev → SR :=
    (sSeq (sIf (eB (eBin gEq (eBin gIx (eVar 0) (eC (.int 0))) (eC (.str "call"))) asB)
    (sRet (eM (eC (.int 1)) Ow.d))
    sSkip)
    (sRet (eBinO gAdd (eC (.int 1)) (eB (eCa gSum (aCons (eB (eLc (eB (eBin gIx (eVar 0) (eC (.int 4))) itD) (gtName 1) cYes (eB (aCons (eVar 1) aNil) (m 0)) (List.map (·.2) ([("part", 1)] : List (Str × Nat)))) shD) aNil)) shD))))
/-- calls_of: 0 term, 1 found, 2 part -/
noncomputable def b_calls_of (m : Nat → List PyData → R Ow) : Ev → SR :=
    (sSeq (sIf (eB (eBin gEq (eBin gIx (eVar 0) (eC (.int 0))) (eC (.str "call"))) asB)
    (sRet (eLst (aCons (eTup (aCons (eBin gIx (eVar 0) (eC (.int 1))) (aCons (eBin gIx (eVar 0) (eC (.int 2))) aNil))) aNil)))
    sSkip)
    (sSeq (sSet 1 (eLst aNil))
    (sSeq (sFor (eB (eBin gIx (eVar 0) (eC (.int 4))) itD) (gtName 2)
    (sExt 1 (eB (eB (aCons (eVar 2) aNil) (m 1)) shD)))
    (sRetV 1))))
/-- keeps_mark: 0 term, 1 part -/
noncomputable def b_keeps_mark (m : Nat → List PyData → R Ow) : Ev → SR :=
    (sSeq (sIf (eB (eBin gEq (eBin gIx (eVar 0) (eC (.int 0))) (eC (.str "call"))) asB)
    (sRet (eM (eC (.bool false)) Ow.d))
    sSkip)
    (sRet (eM (eOr (eBin gIx (eVar 0) (eC (.int 2))) (eM (eCa gAny (aCons (eB (eLc (eB (eBin gIx (eVar 0) (eC (.int 4))) itD) (gtName 1) cYes (eB (aCons (eVar 1) aNil) (m 2)) (List.map (·.2) ([("part", 1)] : List (Str × Nat)))) shD) aNil)) viewD)) Ow.d)))
/-- run_end: 0 text, 1 start, 2 signs, 3 end -/
noncomputable def b_run_end (m : Nat → List PyData → R Ow) : Ev → SR :=
    (sSeq (sSet 3 (eM (eVar 1) Ow.d))
    (sSeq (whileN (tAndE (eB (eBin gLt (eVar 3) (eM (eCa gLen (aCons (eVar 0) aNil)) viewD)) asB) (eB (eBin gIn (eBin gIx (eVar 0) (eVar 3)) (eVar 2)) asB))
    (sAug gAddA 3 (eC (.int 1))) 1000000)
    (sRet (eM (eVar 3) Ow.d))))
/-- word_end: 0 text, 1 start, 2 end, 3 first -/
noncomputable def b_word_end (m : Nat → List PyData → R Ow) : Ev → SR :=
    (sSeq (sIf (eB (eBin gIn (eBin gIx (eVar 0) (eVar 1)) (eC (.str "();:=|*"))) asB)
    (sRet (eBinO gAdd (eVar 1) (eC (.int 1))))
    sSkip)
    (sSeq (sSet 2 (eM (eM (eB (aCons (eVar 0) (aCons (eVar 1) (aCons (eC (.str "abcdefghijklmnopqrstuvwxyz")) aNil))) (m 3)) viewD) Ow.d))
    (sSeq (sIf (eB (eBin gGt (eVar 2) (eVar 1)) asB)
    (sSeq (sIf (eB (eBin gGt (eBin gSub (eVar 2) (eVar 1)) (eC (.int 8))) asB)
    (sRaise "NoText")
    sSkip)
    (sRet (eM (eVar 2) Ow.d)))
    sSkip)
    (sSeq (sSet 3 (eM (eM (eBinO gAdd (eVar 1) (eB (eCa gInt (aCons (eBin gEq (eBin gIx (eVar 0) (eVar 1)) (eC (.str "-"))) aNil)) shD)) viewD) Ow.d))
    (sSeq (sSet 2 (eM (eM (eB (aCons (eVar 0) (aCons (eVar 3) (aCons (eC (.str "0123456789")) aNil))) (m 3)) viewD) Ow.d))
    (sSeq (sIf (tOrE (eB (eBin gEq (eVar 2) (eVar 3)) asB) (eB (eBin gGt (eBin gSub (eVar 2) (eVar 3)) (eC (.int 60))) asB))
    (sRaise "NoText")
    sSkip)
    (sSeq (sIf (tAndE (eB (eBin gEq (eBin gIx (eVar 0) (eVar 3)) (eC (.str "0"))) asB) (tOrE (eB (eBin gGt (eBin gSub (eVar 2) (eVar 3)) (eC (.int 1))) asB) (eB (eBin gGt (eVar 3) (eVar 1)) asB)))
    (sRaise "NoText")
    sSkip)
    (sRet (eM (eVar 2) Ow.d)))))))))
/-- words: 0 text, 1 found, 2 here, 3 end -/
noncomputable def b_words (m : Nat → List PyData → R Ow) : Ev → SR :=
    (sSeq (sIf (tNotE (eB (eB (eVar 0) (gIsi "str")) asB))
    (sRaise "NoText")
    sSkip)
    (sSeq (sSet 1 (eLst aNil))
    (sSeq (sSet 2 (eM (eC (.int 0)) Ow.d))
    (sSeq (whileN (eB (eBin gLt (eVar 2) (eM (eCa gLen (aCons (eVar 0) aNil)) viewD)) asB)
    (sSeq (sIf (eB (eBin gEq (eBin gIx (eVar 0) (eVar 2)) (eC (.str " "))) asB)
    (sSeq (sAug gAddA 2 (eC (.int 1)))
    sCont)
    sSkip)
    (sSeq (sSet 3 (eM (eM (eB (aCons (eVar 0) (aCons (eVar 2) aNil)) (m 4)) viewD) Ow.d))
    (sSeq (sApp 1 (eSl (eVar 0) (eB (eVar 2) asI) (eB (eVar 3) asI)))
    (sSet 2 (eM (eVar 3) Ow.d))))) 1000000)
    (sRetV 1)))))
/-- is_name: 0 word -/
noncomputable def b_is_name (m : Nat → List PyData → R Ow) : Ev → SR :=
    (sRet (eM (eBin gIn (eBin gIx (eVar 0) (eC (.int 0))) (eC (.str "abcdefghijklmnopqrstuvwxyz"))) Ow.d))
/-- is_number: 0 word -/
noncomputable def b_is_number (m : Nat → List PyData → R Ow) : Ev → SR :=
    (sRet (eM (eBin gIn (eBin gIx (eVar 0) (eB (eC (.int 1)) gNeg)) (eC (.str "0123456789"))) Ow.d))
/-- parted: 0 row, 1 sign, 2 parts, 3 word -/
noncomputable def b_parted (m : Nat → List PyData → R Ow) : Ev → SR :=
    (sSeq (sSet 2 (eLstO (oCons (eLst aNil) oNil)))
    (sSeq (sFor (eB (eVar 0) itD) (gtName 3)
    (sIf (eB (eBin gEq (eVar 3) (eVar 1)) asB)
    (sApp 2 (eLst aNil))
    (sPApp (pIx (pVar 2) (eB (eC (.int 1)) gNeg)) (eM (eVar 3) Ow.d))))
    (sRetV 2)))
/-- rows_of: 0 wood, 1 kind, 2 told, 3 rows -/
noncomputable def b_rows_of (m : Nat → List PyData → R Ow) : Ev → SR :=
    (sSeq (sFor (eB (eVar 0) itD) (gtTup 2 (gtCons (gtName 2) (gtCons (gtName 3) gtNil)))
    (sIf (eB (eBin gEq (eVar 2) (eVar 1)) asB)
    (sRet (eM (eVar 3) Ow.d))
    sSkip))
    (sRet (eLst aNil)))
/-- wood_again: 0 wood, 1 kind, 2 rows -/
noncomputable def b_wood_again (m : Nat → List PyData → R Ow) : Ev → SR :=
    (sRet (eLc (eB (eVar 0) itD) (gtTup 2 (gtCons (gtName 1) (gtCons (gtName 2) gtNil))) cYes (eM (eTup (aCons (eVar 1) (aCons (eM (eCa gList (aCons (eVar 2) aNil)) viewD) aNil))) Ow.d) (List.map (·.2) ([("kind", 1), ("rows", 2)] : List (Str × Nat)))))
/-- calls_fit: 0 term, 1 branches, 2 modes, 3 mode, 4 branch -/
noncomputable def b_calls_fit (m : Nat → List PyData → R Ow) : Ev → SR :=
    (sSeq (sFor (eB (eM (eB (aCons (eVar 0) aNil) (m 1)) viewD) itD) (gtTup 2 (gtCons (gtName 3) (gtCons (gtName 4) gtNil)))
    (sSeq (sIf (tOrE (eB (eBin gLt (eVar 3) (eC (.int 0))) asB) (tOrE (eB (eBin gGe (eVar 3) (eM (eCa gLen (aCons (eVar 2) aNil)) viewD)) asB) (tOrE (eB (eBin gLt (eVar 4) (eC (.int 0))) asB) (eB (eBin gGe (eVar 4) (eM (eCa gLen (aCons (eVar 1) aNil)) viewD)) asB))))
    (sRet (eM (eC (.bool false)) Ow.d))
    sSkip)
    (sIf (eB (eBin gNe (eBin gIx (eBin gIx (eVar 2) (eVar 3)) (eC (.int 0))) (eBin gIx (eVar 1) (eVar 4))) asB)
    (sRet (eM (eC (.bool false)) Ow.d))
    sSkip)))
    (sRet (eM (eC (.bool true)) Ow.d)))
/-- is_sound: 0 wood, 1 start, 2 modes, 3 kinds, 4 kind, 5 rows, 6 rules, 7 row, 8 rule -/
noncomputable def b_is_sound (m : Nat → List PyData → R Ow) : Ev → SR :=
    (sSeq (sIf (tOrE (eB (eM (eB (aCons (eVar 1) aNil) (m 2)) viewD) asB) (tNotE (eB (eM (eB (aCons (eVar 1) (aCons (eTup (aCons (eBin gIx (eBin gIx (eVar 0) (eC (.int 0))) (eC (.int 0))) aNil)) (aCons (eVar 2) aNil))) (m 11)) viewD) asB)))
    (sRet (eM (eC (.bool false)) Ow.d))
    sSkip)
    (sSeq (sSet 3 (eM (eM (eLc (eB (eVar 0) itD) (gtTup 2 (gtCons (gtName 4) (gtCons (gtName 5) gtNil))) cYes (eM (eVar 4) Ow.d) (List.map (·.2) ([("kind", 4), ("rows", 5)] : List (Str × Nat)))) viewD) Ow.d))
    (sSeq (sFor (eB (eVar 2) itD) (gtTup 2 (gtCons (gtName 4) (gtCons (gtName 6) gtNil)))
    (sSeq (sSet 5 (eM (eM (eB (aCons (eVar 0) (aCons (eVar 4) aNil)) (m 9)) viewD) Ow.d))
    (sSeq (sIf (tOrE (eB (eBin gNotIn (eVar 4) (eVar 3)) asB) (eB (eBin gNe (eM (eCa gLen (aCons (eVar 6) aNil)) viewD) (eM (eCa gLen (aCons (eVar 5) aNil)) viewD)) asB))
    (sRet (eM (eC (.bool false)) Ow.d))
    sSkip)
    (sFor (eB (aCons (eVar 5) (aCons (eVar 6) aNil)) zpArg) (gtTup 2 (gtCons (gtName 7) (gtCons (gtName 8) gtNil)))
    (sIf (tNotE (eB (eM (eB (aCons (eVar 8) (aCons (eBin gIx (eVar 7) (eC (.int 1))) (aCons (eVar 2) aNil))) (m 11)) viewD) asB))
    (sRet (eM (eC (.bool false)) Ow.d))
    sSkip)))))
    (sRet (eM (eC (.bool true)) Ow.d)))))
/-- mark_at: 0 row, 1 here, 2 kept -/
noncomputable def b_mark_at (m : Nat → List PyData → R Ow) : Ev → SR :=
    (sSeq (sSet 2 (eM (eAnd (eBin gLt (eVar 1) (eM (eCa gLen (aCons (eVar 0) aNil)) viewD)) (eBin gEq (eBin gIx (eVar 0) (eVar 1)) (eC (.str "=")))) Ow.d))
    (sSeq (sIf (eB (eVar 2) asB)
    (sAug gAddA 1 (eC (.int 1)))
    sSkip)
    (sSeq (sIf (tAndE (eB (eBin gLt (eVar 1) (eM (eCa gLen (aCons (eVar 0) aNil)) viewD)) asB) (eB (eM (eB (aCons (eBin gIx (eVar 0) (eVar 1)) aNil) (m 7)) viewD) asB))
    (sRet (eM (eTup (aCons (eVar 2) (aCons (eM (eCa gInt (aCons (eBin gIx (eVar 0) (eVar 1)) aNil)) viewD) (aCons (eM (eBinO gAdd (eVar 1) (eC (.int 1))) viewD) aNil)))) Ow.d))
    sSkip)
    (sRet (eM (eTup (aCons (eVar 2) (aCons (eC (.int 0)) (aCons (eVar 1) aNil)))) Ow.d)))))
/-- call_at: 0 row, 1 here -/
noncomputable def b_call_at (m : Nat → List PyData → R Ow) : Ev → SR :=
    (sSeq (sIf (tOrE (eB (eBin gGe (eM (eBinO gAdd (eVar 1) (eC (.int 2))) viewD) (eM (eCa gLen (aCons (eVar 0) aNil)) viewD)) asB) (tOrE (tNotE (eB (eM (eB (aCons (eBin gIx (eVar 0) (eM (eBinO gAdd (eVar 1) (eC (.int 1))) viewD)) aNil) (m 6)) viewD) asB)) (tNotE (eB (eM (eB (aCons (eBin gIx (eVar 0) (eM (eBinO gAdd (eVar 1) (eC (.int 2))) viewD)) aNil) (m 7)) viewD) asB))))
    (sRaise "NoText")
    sSkip)
    (sRet (eM (eTup (aCons (eTup (aCons (eC (.str "call")) (aCons (eBin gIx (eVar 0) (eM (eBinO gAdd (eVar 1) (eC (.int 1))) viewD)) (aCons (eM (eCa gInt (aCons (eBin gIx (eVar 0) (eM (eBinO gAdd (eVar 1) (eC (.int 2))) viewD)) aNil)) viewD) aNil)))) (aCons (eM (eBinO gAdd (eVar 1) (eC (.int 3))) viewD) aNil))) Ow.d)))
/-- term_at: 0 row, 1 here, 2 depth, 3 name, 4 kept, 5 add, 6 parts, 7 part -/
noncomputable def b_term_at (m : Nat → List PyData → R Ow) : Ev → SR :=
    (sSeq (sIf (tAndE (eB (eBin gLt (eVar 1) (eM (eCa gLen (aCons (eVar 0) aNil)) viewD)) asB) (eB (eBin gEq (eBin gIx (eVar 0) (eVar 1)) (eC (.str "*"))) asB))
    (sRet (eB (aCons (eVar 0) (aCons (eVar 1) aNil)) (m 14)))
    sSkip)
    (sSeq (sIf (tOrE (eB (eBin gGe (eVar 1) (eM (eCa gLen (aCons (eVar 0) aNil)) viewD)) asB) (tNotE (eB (eM (eB (aCons (eBin gIx (eVar 0) (eVar 1)) aNil) (m 6)) viewD) asB)))
    (sRaise "NoText")
    sSkip)
    (sSeq (sSet 3 (eM (eBin gIx (eVar 0) (eVar 1)) Ow.d))
    (sSeq (sAsg (gtTup 3 (gtCons (gtName 4) (gtCons (gtName 5) (gtCons (gtName 1) gtNil)))) (eM (eB (aCons (eVar 0) (aCons (eM (eBinO gAdd (eVar 1) (eC (.int 1))) viewD) aNil)) (m 13)) viewD))
    (sSeq (sSet 6 (eLst aNil))
    (sSeq (sIf (tAndE (eB (eBin gLt (eVar 1) (eM (eCa gLen (aCons (eVar 0) aNil)) viewD)) asB) (eB (eBin gEq (eBin gIx (eVar 0) (eVar 1)) (eC (.str "("))) asB))
    (sSeq (sIf (eB (eBin gEq (eVar 2) (eC (.int 8))) asB)
    (sRaise "NoText")
    sSkip)
    (sSeq (sAug gAddA 1 (eC (.int 1)))
    (sSeq (whileN (tOrE (eB (eBin gGe (eVar 1) (eM (eCa gLen (aCons (eVar 0) aNil)) viewD)) asB) (eB (eBin gNe (eBin gIx (eVar 0) (eVar 1)) (eC (.str ")"))) asB))
    (sSeq (sAsg (gtTup 2 (gtCons (gtName 7) (gtCons (gtName 1) gtNil))) (eM (eB (aCons (eVar 0) (aCons (eVar 1) (aCons (eM (eBinO gAdd (eVar 2) (eC (.int 1))) viewD) aNil))) (m 15)) viewD))
    (sApp 6 (eM (eVar 7) Ow.d))) 1000000)
    (sSeq (sIf (eB (eBin gEq (eM (eVarO 6) viewD) (eM (eLst aNil) viewD)) asB)
    (sRaise "NoText")
    sSkip)
    (sAug gAddA 1 (eC (.int 1)))))))
    sSkip)
    (sRet (eM (eTup (aCons (eTup (aCons (eC (.str "put")) (aCons (eVar 3) (aCons (eVar 4) (aCons (eVar 5) (aCons (eM (eCa gTuple (aCons (eB (eVarO 6) shD) aNil)) viewD) aNil)))))) (aCons (eVar 1) aNil))) Ow.d))))))))
/-- term_by: 0 row, 1 term, 2 end -/
noncomputable def b_term_by (m : Nat → List PyData → R Ow) : Ev → SR :=
    (sSeq (sAsg (gtTup 2 (gtCons (gtName 1) (gtCons (gtName 2) gtNil))) (eM (eB (aCons (eVar 0) (aCons (eC (.int 0)) (aCons (eC (.int 0)) aNil))) (m 15)) viewD))
    (sSeq (sIf (eB (eBin gNe (eVar 2) (eM (eCa gLen (aCons (eVar 0) aNil)) viewD)) asB)
    (sRaise "NoText")
    sSkip)
    (sRet (eM (eVar 1) Ow.d))))
/-- rule_by: 0 part, 1 word -/
noncomputable def b_rule_by (m : Nat → List PyData → R Ow) : Ev → SR :=
    (sSeq (sIf (tOrE (eB (eBin gLt (eM (eCa gLen (aCons (eVar 0) aNil)) viewD) (eC (.int 5))) asB) (eB (eBin gNe (eBin gIx (eVar 0) (eC (.int 3))) (eC (.str ":"))) asB))
    (sRaise "NoText")
    sSkip)
    (sSeq (sFor (eB (eM (eSl (eVar 0) oNone (eB (eC (.int 3)) asI)) viewD) itD) (gtName 1)
    (sIf (tNotE (eB (eM (eB (aCons (eVar 1) aNil) (m 6)) viewD) asB))
    (sRaise "NoText")
    sSkip))
    (sRet (eM (eTup (aCons (eBin gIx (eVar 0) (eC (.int 0))) (aCons (eBin gIx (eVar 0) (eC (.int 1))) (aCons (eBin gIx (eVar 0) (eC (.int 2))) (aCons (eM (eB (aCons (eM (eSl (eVar 0) (eB (eC (.int 4)) asI) oNone) viewD) aNil) (m 16)) viewD) aNil))))) Ow.d))))
/-- numbered: 0 term, 1 names, 2 part -/
noncomputable def b_numbered (m : Nat → List PyData → R Ow) : Ev → SR :=
    (sSeq (sIf (eB (eBin gEq (eBin gIx (eVar 0) (eC (.int 0))) (eC (.str "call"))) asB)
    (sSeq (sIf (eB (eBin gNotIn (eBin gIx (eVar 0) (eC (.int 1))) (eVar 1)) asB)
    (sRaise "NoTurning")
    sSkip)
    (sRet (eM (eTup (aCons (eC (.str "call")) (aCons (eLsIndex (eVar 1) (eBin gIx (eVar 0) (eC (.int 1)))) (aCons (eBin gIx (eVar 0) (eC (.int 2))) aNil)))) Ow.d)))
    sSkip)
    (sRet (eM (eTup (aCons (eC (.str "put")) (aCons (eBin gIx (eVar 0) (eC (.int 1))) (aCons (eBin gIx (eVar 0) (eC (.int 2))) (aCons (eBin gIx (eVar 0) (eC (.int 3))) (aCons (eM (eCa gTuple (aCons (eB (eLc (eB (eBin gIx (eVar 0) (eC (.int 4))) itD) (gtName 2) cYes (eB (aCons (eVar 2) (aCons (eVar 1) aNil)) (m 18)) (List.map (·.2) ([("part", 2)] : List (Str × Nat)))) shD) aNil)) viewD) aNil)))))) Ow.d)))
/-- table_by: 0 wood, 1 rules, 2 table, 3 mode, 4 kind, 5 name, 6 term, 7 told, 8 branches -/
noncomputable def b_table_by (m : Nat → List PyData → R Ow) : Ev → SR :=
    (sSeq (sSet 2 eDictNewK)
    (sSeq (sFor (eB (eVar 1) itD) (gtTup 4 (gtCons (gtName 3) (gtCons (gtName 4) (gtCons (gtName 5) (gtCons (gtName 6) gtNil)))))
    (sSeq (sFrz 7 (sIf (eB (eBin gNotIn (eVar 5) (eM (eLc (eB (eM (eB (aCons (eVar 0) (aCons (eVar 4) aNil)) (m 9)) viewD) itD) (gtTup 2 (gtCons (gtName 7) (gtCons (gtName 8) gtNil))) cYes (eM (eVar 7) Ow.d) (List.map (·.2) ([("told", 7), ("branches", 8)] : List (Str × Nat)))) viewD)) asB)
    (sRaise "NoTurning")
    sSkip))
    (sBorD 2 7 (eVar 3) (eTupO (oCons (eM (eVar 4) Ow.d) (oCons eDictNew oNil)))
    (sSeq (sIf (tOrE (eB (eBin gNe (ePtD (pIx (pVar 7) (eC (.int 0)))) (eVar 4)) asB) (eB (eInPM false (eVar 5) (pIx (pVar 7) (eC (.int 1)))) asB))
    (sRaise "NoTurning")
    sSkip)
    (sPPutM (pIx (pVar 7) (eC (.int 1))) (eVar 5) (eVar 6))))))
    (sRetV 2)))
/-- modes_by: 0 wood, 1 table, 2 names, 3 modes, 4 kind, 5 terms, 6 rules, 7 name, 8 branches -/
noncomputable def b_modes_by (m : Nat → List PyData → R Ow) : Ev → SR :=
    (sSeq (sSet 2 (eM (eM (eListKD (eVar 1)) viewD) Ow.d))
    (sSeq (sSet 3 (eLst aNil))
    (sSeq (sForVD 1 (gtTup 2 (gtCons (gtName 4) (gtCons (gtName 5) gtNil)))
    (sSeq (sSet 6 (eLst aNil))
    (sSeq (sFor (eB (eM (eB (aCons (eVar 0) (aCons (eVar 4) aNil)) (m 9)) viewD) itD) (gtTup 2 (gtCons (gtName 7) (gtCons (gtName 8) gtNil)))
    (sSeq (sIf (eB (eBin (gInDD true) (eVar 7) (eVar 5)) asB)
    (sRaise "NoTurning")
    sSkip)
    (sApp 6 (eB (aCons (eBin gGetD (eVar 5) (eVar 7)) (aCons (eVar 2) aNil)) (m 18)))))
    (sFrz 6 (sApp 3 (eM (eTup (aCons (eVar 4) (aCons (eVar 6) aNil))) Ow.d))))))
    (sRetV 3))))
/-- read_turning: 0 wood, 1 text, 2 parts, 3 start, 4 rules, 5 part, 6 total, 7 rule, 8 table, 9 modes -/
noncomputable def b_read_turning (m : Nat → List PyData → R Ow) : Ev → SR :=
    (sSeq (sSet 2 (eM (eM (eB (aCons (eM (eB (aCons (eVar 1) aNil) (m 5)) viewD) (aCons (eC (.str ";")) aNil)) (m 8)) viewD) Ow.d))
    (sSeq (sSet 3 (eM (eM (eB (aCons (eBin gIx (eVar 2) (eC (.int 0))) aNil) (m 16)) viewD) Ow.d))
    (sSeq (sSet 4 (eM (eM (eLc (eB (eM (eSl (eVar 2) (eB (eC (.int 1)) asI) oNone) viewD) itD) (gtName 5) cYes (eB (aCons (eVar 5) aNil) (m 17)) (List.map (·.2) ([("part", 5)] : List (Str × Nat)))) viewD) Ow.d))
    (sSeq (sSet 6 (eM (eM (eBinO gAdd (eB (eB (aCons (eVar 3) aNil) (m 0)) shD) (eB (eCa gSum (aCons (eB (eLc (eB (eVar 4) itD) (gtName 7) cYes (eB (aCons (eBin gIx (eVar 7) (eC (.int 3))) aNil) (m 0)) (List.map (·.2) ([("rule", 7)] : List (Str × Nat)))) shD) aNil)) shD)) viewD) Ow.d))
    (sSeq (sIf (tOrE (eB (eBin gGt (eM (eCa gLen (aCons (eVar 4) aNil)) viewD) (eC (.int 40))) asB) (eB (eBin gGt (eVar 6) (eC (.int 120))) asB))
    (sRaise "NoText")
    sSkip)
    (sSeq (sSet 8 (eM (eM (eB (aCons (eVar 0) (aCons (eVar 4) aNil)) (m 19)) viewD) Ow.d))
    (sSeq (sSet 9 (eM (eM (eB (aCons (eVar 0) (aCons (eVar 8) aNil)) (m 20)) viewD) Ow.d))
    (sSeq (sSet 3 (eM (eM (eB (aCons (eVar 3) (aCons (eM (eListKD (eVar 8)) viewD) aNil)) (m 18)) viewD) Ow.d))
    (sSeq (sIf (tNotE (eB (eM (eB (aCons (eVar 0) (aCons (eVar 3) (aCons (eVar 9) aNil))) (m 12)) viewD) asB))
    (sRaise "NoTurning")
    sSkip)
    (sRet (eM (eTup (aCons (eM (eB (aCons (eVar 0) aNil) (m 10)) viewD) (aCons (eVar 3) (aCons (eVar 9) aNil)))) Ow.d)))))))))))
/-- mode_word: 0 number, 1 word -/
noncomputable def b_mode_word (m : Nat → List PyData → R Ow) : Ev → SR :=
    (sSeq (sSet 1 (eM (eBin gIx (eC (.str "abcdefghijklmnopqrstuvwxyz")) (eBin gMod (eVar 0) (eC (.int 26)))) Ow.d))
    (sSeq (whileN (eB (eBin gGe (eVar 0) (eC (.int 26))) asB)
    (sSeq (sSet 0 (eM (eBin gDiv (eVar 0) (eC (.int 26))) Ow.d))
    (sSet 1 (eM (eM (eBinO gAdd (eBin gIx (eC (.str "abcdefghijklmnopqrstuvwxyz")) (eBin gMod (eVar 0) (eC (.int 26)))) (eVar 1)) viewD) Ow.d))) 1000000)
    (sRet (eM (eVar 1) Ow.d))))
/-- show_mark: 0 kept, 1 add, 2 shown -/
noncomputable def b_show_mark (m : Nat → List PyData → R Ow) : Ev → SR :=
    (sSeq (sSet 2 (eM (eIf (eB (eVar 0) asB) (eC (.str "=")) (eC (.str ""))) Ow.d))
    (sSeq (sIf (eB (eBin gNe (eVar 1) (eC (.int 0))) asB)
    (sAug gAddA 2 (eM (eCa gStr (aCons (eVar 1) aNil)) viewD))
    sSkip)
    (sRet (eM (eVar 2) Ow.d))))
/-- show_term: 0 term, 1 shown, 2 part -/
noncomputable def b_show_term (m : Nat → List PyData → R Ow) : Ev → SR :=
    (sSeq (sIf (eB (eBin gEq (eBin gIx (eVar 0) (eC (.int 0))) (eC (.str "call"))) asB)
    (sRet (eBinO gAdd (eB (eBinO gAdd (eC (.str "*")) (eB (eB (aCons (eBin gIx (eVar 0) (eC (.int 1))) aNil) (m 22)) shD)) shD) (eB (eCa gStr (aCons (eBin gIx (eVar 0) (eC (.int 2))) aNil)) shD)))
    sSkip)
    (sSeq (sSet 1 (eM (eM (eBinO gAdd (eBin gIx (eVar 0) (eC (.int 1))) (eB (eB (aCons (eBin gIx (eVar 0) (eC (.int 2))) (aCons (eBin gIx (eVar 0) (eC (.int 3))) aNil)) (m 23)) shD)) viewD) Ow.d))
    (sSeq (sIf (eB (eBin gGt (eM (eCa gLen (aCons (eBin gIx (eVar 0) (eC (.int 4))) aNil)) viewD) (eC (.int 0))) asB)
    (sAug gAddA 1 (eM (eBinO gAdd (eB (eBinO gAdd (eC (.str "(")) (eJoin (eC (.str " ")) (eB (eLc (eB (eBin gIx (eVar 0) (eC (.int 4))) itD) (gtName 2) cYes (eB (aCons (eVar 2) aNil) (m 24)) (List.map (·.2) ([("part", 2)] : List (Str × Nat)))) shD))) shD) (eC (.str ")"))) viewD))
    sSkip)
    (sRet (eM (eVar 1) Ow.d)))))
/-- show_turning: 0 turning, 1 parts, 2 k, 3 mode, 4 head, 5 row, 6 rule -/
noncomputable def b_show_turning (m : Nat → List PyData → R Ow) : Ev → SR :=
    (sSeq (sSet 1 (eLst (aCons (eM (eB (aCons (eBin gIx (eVar 0) (eC (.int 1))) aNil) (m 24)) viewD) aNil)))
    (sSeq (sFor (eB (aCons (eBin gIx (eVar 0) (eC (.int 2))) aNil) enArg) (gtTup 2 (gtCons (gtName 2) (gtCons (gtName 3) gtNil)))
    (sSeq (sSet 4 (eM (eM (eBinO gAdd (eB (eBinO gAdd (eB (eBinO gAdd (eB (eB (aCons (eVar 2) aNil) (m 22)) shD) (eC (.str " "))) shD) (eBin gIx (eVar 3) (eC (.int 0)))) shD) (eC (.str " "))) viewD) Ow.d))
    (sFor (eB (aCons (eM (eB (aCons (eBin gIx (eVar 0) (eC (.int 0))) (aCons (eBin gIx (eVar 3) (eC (.int 0))) aNil)) (m 9)) viewD) (aCons (eBin gIx (eVar 3) (eC (.int 1))) aNil)) zpArg) (gtTup 2 (gtCons (gtName 5) (gtCons (gtName 6) gtNil)))
    (sApp 1 (eBinO gAdd (eB (eBinO gAdd (eB (eBinO gAdd (eVar 4) (eBin gIx (eVar 5) (eC (.int 0)))) shD) (eC (.str " : "))) shD) (eB (eB (aCons (eVar 6) aNil) (m 24)) shD))))))
    (sRet (eM (eJoin (eC (.str "; ")) (eB (eVarO 1) shD)) Ow.d))))
/-- _law_cell_at: 0 _law_script, 1 _law_k -/
noncomputable def b__law_cell_at (m : Nat → List PyData → R Ow) : Ev → SR :=
    (sSeq (sIf (eB (eBin gLt (eVar 1) (eM (eCa gLen (aCons (eVar 0) aNil)) viewD)) asB)
    (sRet (eM (eBin gIx (eVar 0) (eVar 1)) Ow.d))
    sSkip)
    (sRet (eM (eC (.int 0)) Ow.d)))
/-- _law_mode: 0 _law_number, 1 _law_letters -/
noncomputable def b__law_mode (m : Nat → List PyData → R Ow) : Ev → SR :=
    (sSeq (sSet 1 (eM (eC (.str "abcdefghijklmnopqrstuvwxyz")) Ow.d))
    (sSeq (sIf (eB (eBin gLt (eVar 0) (eC (.int 26))) asB)
    (sRet (eM (eBin gIx (eVar 1) (eVar 0)) Ow.d))
    sSkip)
    (sRet (eBinO gAdd (eBin gIx (eVar 1) (eBin gDiv (eVar 0) (eC (.int 26)))) (eBin gIx (eVar 1) (eBin gMod (eVar 0) (eC (.int 26))))))))
/-- _law_mark: 0 _law_kept, 1 _law_add -/
noncomputable def b__law_mark (m : Nat → List PyData → R Ow) : Ev → SR :=
    (sRet (eBinO gAdd (eBin gMulZ (eC (.str "=")) (eM (eCa gInt (aCons (eVar 0) aNil)) viewD)) (eBin gMulZ (eM (eCa gStr (aCons (eVar 1) aNil)) viewD) (eM (eCa gInt (aCons (eBin gNe (eVar 1) (eC (.int 0))) aNil)) viewD))))
/-- law: 0 _law_script, 1 _law_lots, 2 _law_first, 3 _law_add, 4 _law_wood, 5 _law_start, 6 _law_modes, 7 _law_text, 8 _law_k, 9 _law_number, 10 _law_kept, 11 _law_after, 12 _law_leaf, 13 _law_shown, 14 _law_found, 15 _law_again -/
noncomputable def b_law (m : Nat → List PyData → R Ow) : Ev → SR :=
    (sSeq (sSet 1 (eM (eM (eBinO gAdd (eC (.int 1)) (eBin gMod (eM (eB (aCons (eVar 0) (aCons (eC (.int 0)) aNil)) (m 26)) viewD) (eC (.int 200)))) viewD) Ow.d))
    (sSeq (sIf (eB (eBin gEq (eBin gMod (eBin gDiv (eM (eB (aCons (eVar 0) (aCons (eC (.int 0)) aNil)) (m 26)) viewD) (eC (.int 200))) (eC (.int 2))) (eC (.int 0))) asB)
    (sSet 1 (eM (eM (eBinO gAdd (eC (.int 1)) (eBin gMod (eVar 1) (eC (.int 20)))) viewD) Ow.d))
    sSkip)
    (sSeq (sSet 2 (eM (eBin gMod (eM (eB (aCons (eVar 0) (aCons (eC (.int 1)) aNil)) (m 26)) viewD) (eVar 1)) Ow.d))
    (sSeq (sSet 3 (eM (eBin gSub (eBin gMod (eM (eB (aCons (eVar 0) (aCons (eC (.int 2)) aNil)) (m 26)) viewD) (eBin gPow (eC (.int 10)) (eC (.int 60)))) (eBin gPow (eC (.int 10)) (eC (.int 59)))) Ow.d))
    (sSeq (sSet 4 (eM (eM (eLst (aCons (eTup (aCons (eC (.str "k")) (aCons (eM (eLst (aCons (eTup (aCons (eC (.str "n")) (aCons (eTup aNil) aNil))) (aCons (eTup (aCons (eC (.str "s")) (aCons (eTup (aCons (eC (.str "k")) aNil)) aNil))) aNil))) viewD) aNil))) aNil)) viewD) Ow.d))
    (sSeq (sSet 5 (eM (eTup (aCons (eC (.str "put")) (aCons (eC (.str "b")) (aCons (eC (.bool false)) (aCons (eVar 3) (aCons (eTup (aCons (eTup (aCons (eC (.str "call")) (aCons (eVar 2) (aCons (eC (.int 0)) aNil)))) aNil)) aNil)))))) Ow.d))
    (sSeq (sSet 6 (eLst aNil))
    (sSeq (sSet 7 (eM (eM (eBinO gAdd (eB (eBinO gAdd (eB (eBinO gAdd (eB (eBinO gAdd (eC (.str "b")) (eB (eB (aCons (eC (.bool false)) (aCons (eVar 3) aNil)) (m 28)) shD)) shD) (eC (.str "(*"))) shD) (eB (eB (aCons (eVar 2) aNil) (m 27)) shD)) shD) (eC (.str "0)"))) viewD) Ow.d))
    (sSeq (sFor (eB (aCons (eVar 1) aNil) rg1) (gtName 8)
    (sSeq (sSet 9 (eM (eIf (eB (eBin gGt (eM (eCa gLen (aCons (eVar 0) aNil)) viewD) (eC (.int 0))) asB) (eBin gMod (eBin gIx (eVar 0) (eBin gMod (eM (eBinO gAdd (eC (.int 3)) (eVar 8)) viewD) (eM (eCa gLen (aCons (eVar 0) aNil)) viewD))) (eBin gPow (eC (.int 10)) (eC (.int 60)))) (eVar 8)) Ow.d))
    (sSeq (sSet 10 (eM (eBin gEq (eBin gMod (eVar 9) (eC (.int 2))) (eC (.int 0))) Ow.d))
    (sSeq (sSet 11 (eM (eBin gMod (eM (eBinO gAdd (eVar 8) (eC (.int 1))) viewD) (eVar 1)) Ow.d))
    (sSeq (sIf (eB (eBin gEq (eBin gMod (eVar 9) (eC (.int 3))) (eC (.int 1))) asB)
    (sSet 11 (eM (eBin gMod (eBin gDiv (eVar 9) (eC (.int 3))) (eVar 1)) Ow.d))
    sSkip)
    (sSeq (sSet 12 (eM (eTup (aCons (eC (.str "put")) (aCons (eC (.str "e")) (aCons (eVar 10) (aCons (eBin gSub (eVar 9) (eBin gPow (eC (.int 10)) (eC (.int 30)))) (aCons (eTup aNil) aNil)))))) Ow.d))
    (sSeq (sApp 6 (eM (eTup (aCons (eC (.str "k")) (aCons (eM (eLst (aCons (eVar 12) (aCons (eTup (aCons (eC (.str "put")) (aCons (eC (.str "f")) (aCons (eNot (eVar 10)) (aCons (eVar 8) (aCons (eTup (aCons (eTup (aCons (eC (.str "call")) (aCons (eVar 11) (aCons (eC (.int 0)) aNil)))) (aCons (eVar 12) aNil))) aNil)))))) aNil))) viewD) aNil))) Ow.d))
    (sSeq (sSet 13 (eM (eM (eBinO gAdd (eC (.str "e")) (eB (eB (aCons (eVar 10) (aCons (eBin gSub (eVar 9) (eBin gPow (eC (.int 10)) (eC (.int 30)))) aNil)) (m 28)) shD)) viewD) Ow.d))
    (sSeq (sSet 7 (eM (eM (eBinO gAdd (eB (eBinO gAdd (eB (eBinO gAdd (eB (eBinO gAdd (eVar 7) (eC (.str "; "))) shD) (eB (eB (aCons (eVar 8) aNil) (m 27)) shD)) shD) (eC (.str " k n : "))) shD) (eVar 13)) viewD) Ow.d))
    (sSeq (sSet 7 (eM (eM (eBinO gAdd (eB (eBinO gAdd (eB (eBinO gAdd (eB (eBinO gAdd (eVar 7) (eC (.str "; "))) shD) (eB (eB (aCons (eVar 8) aNil) (m 27)) shD)) shD) (eC (.str " k s : f"))) shD) (eB (eB (aCons (eNot (eVar 10)) (aCons (eVar 8) aNil)) (m 28)) shD)) viewD) Ow.d))
    (sSet 7 (eM (eM (eBinO gAdd (eB (eBinO gAdd (eB (eBinO gAdd (eB (eBinO gAdd (eB (eBinO gAdd (eVar 7) (eC (.str "(*"))) shD) (eB (eB (aCons (eVar 11) aNil) (m 27)) shD)) shD) (eC (.str "0 "))) shD) (eVar 13)) shD) (eC (.str ")"))) viewD) Ow.d))))))))))))
    (sSeq (sFrz 6 (sSet 14 (eM (eM (eB (aCons (eTup (aCons (eVar 4) (aCons (eVar 5) (aCons (eVar 6) aNil)))) aNil) (m 25)) viewD) Ow.d)))
    (sSeq (sIf (tOrE (tNotE (eB (eB (eVar 14) (gIsi "str")) asB)) (eB (eBin gNe (eVar 14) (eVar 7)) asB))
    (sRet (eM (eC (.bool false)) Ow.d))
    sSkip)
    (sSeq (sIf (tOrE (eB (eBin gGt (eVar 1) (eC (.int 20))) asB) (eB (eBin gGt (eM (eCa gLen (aCons (eVar 7) aNil)) viewD) (eC (.int 4000))) asB))
    (sRet (eM (eC (.bool true)) Ow.d))
    sSkip)
    (sSeq (sSet 15 (eM (eM (eB (aCons (eVar 4) (aCons (eVar 14) aNil)) (m 21)) viewD) Ow.d))
    (sFrz 6 (sRet (eM (eAnd (eBin gEq (eVar 15) (eTup (aCons (eVar 4) (aCons (eVar 5) (aCons (eVar 6) aNil))))) (eBin gEq (eM (eB (aCons (eVar 15) aNil) (m 25)) viewD) (eVar 7))) Ow.d))))))))))))))))
noncomputable def mir : Nat → Nat → List PyData → R Ow
  | 0, _ => fun _ => .no
  | n + 1, i => match i with
    | 0 => runB 1 (b_term_size (mir n))
    | 1 => runB 2 (b_calls_of (mir n))
    | 2 => runB 1 (b_keeps_mark (mir n))
    | 3 => runB 1 (b_run_end (mir n))
    | 4 => runB 2 (b_word_end (mir n))
    | 5 => runB 3 (b_words (mir n))
    | 6 => runB 0 (b_is_name (mir n))
    | 7 => runB 0 (b_is_number (mir n))
    | 8 => runB 2 (b_parted (mir n))
    | 9 => runB 2 (b_rows_of (mir n))
    | 10 => runB 2 (b_wood_again (mir n))
    | 11 => runB 2 (b_calls_fit (mir n))
    | 12 => runB 6 (b_is_sound (mir n))
    | 13 => runB 1 (b_mark_at (mir n))
    | 14 => runB 0 (b_call_at (mir n))
    | 15 => runB 5 (b_term_at (mir n))
    | 16 => runB 2 (b_term_by (mir n))
    | 17 => runB 1 (b_rule_by (mir n))
    | 18 => runB 1 (b_numbered (mir n))
    | 19 => runB 7 (b_table_by (mir n))
    | 20 => runB 7 (b_modes_by (mir n))
    | 21 => runB 8 (b_read_turning (mir n))
    | 22 => runB 1 (b_mode_word (mir n))
    | 23 => runB 1 (b_show_mark (mir n))
    | 24 => runB 2 (b_show_term (mir n))
    | 25 => runB 6 (b_show_turning (mir n))
    | 26 => runB 0 (b__law_cell_at (mir n))
    | 27 => runB 1 (b__law_mode (mir n))
    | 28 => runB 0 (b__law_mark (mir n))
    | 29 => runB 15 (b_law (mir n))
    | _ => fun _ => .no
theorem mir_term_size (n : Nat) (ds : List PyData) : mir (n + 1) 0 ds = runB 1 (b_term_size (mir n)) ds := rfl
theorem mir_calls_of (n : Nat) (ds : List PyData) : mir (n + 1) 1 ds = runB 2 (b_calls_of (mir n)) ds := rfl
theorem mir_keeps_mark (n : Nat) (ds : List PyData) : mir (n + 1) 2 ds = runB 1 (b_keeps_mark (mir n)) ds := rfl
theorem mir_run_end (n : Nat) (ds : List PyData) : mir (n + 1) 3 ds = runB 1 (b_run_end (mir n)) ds := rfl
theorem mir_word_end (n : Nat) (ds : List PyData) : mir (n + 1) 4 ds = runB 2 (b_word_end (mir n)) ds := rfl
theorem mir_words (n : Nat) (ds : List PyData) : mir (n + 1) 5 ds = runB 3 (b_words (mir n)) ds := rfl
theorem mir_is_name (n : Nat) (ds : List PyData) : mir (n + 1) 6 ds = runB 0 (b_is_name (mir n)) ds := rfl
theorem mir_is_number (n : Nat) (ds : List PyData) : mir (n + 1) 7 ds = runB 0 (b_is_number (mir n)) ds := rfl
theorem mir_parted (n : Nat) (ds : List PyData) : mir (n + 1) 8 ds = runB 2 (b_parted (mir n)) ds := rfl
theorem mir_rows_of (n : Nat) (ds : List PyData) : mir (n + 1) 9 ds = runB 2 (b_rows_of (mir n)) ds := rfl
theorem mir_wood_again (n : Nat) (ds : List PyData) : mir (n + 1) 10 ds = runB 2 (b_wood_again (mir n)) ds := rfl
theorem mir_calls_fit (n : Nat) (ds : List PyData) : mir (n + 1) 11 ds = runB 2 (b_calls_fit (mir n)) ds := rfl
theorem mir_is_sound (n : Nat) (ds : List PyData) : mir (n + 1) 12 ds = runB 6 (b_is_sound (mir n)) ds := rfl
theorem mir_mark_at (n : Nat) (ds : List PyData) : mir (n + 1) 13 ds = runB 1 (b_mark_at (mir n)) ds := rfl
theorem mir_call_at (n : Nat) (ds : List PyData) : mir (n + 1) 14 ds = runB 0 (b_call_at (mir n)) ds := rfl
theorem mir_term_at (n : Nat) (ds : List PyData) : mir (n + 1) 15 ds = runB 5 (b_term_at (mir n)) ds := rfl
theorem mir_term_by (n : Nat) (ds : List PyData) : mir (n + 1) 16 ds = runB 2 (b_term_by (mir n)) ds := rfl
theorem mir_rule_by (n : Nat) (ds : List PyData) : mir (n + 1) 17 ds = runB 1 (b_rule_by (mir n)) ds := rfl
theorem mir_numbered (n : Nat) (ds : List PyData) : mir (n + 1) 18 ds = runB 1 (b_numbered (mir n)) ds := rfl
theorem mir_table_by (n : Nat) (ds : List PyData) : mir (n + 1) 19 ds = runB 7 (b_table_by (mir n)) ds := rfl
theorem mir_modes_by (n : Nat) (ds : List PyData) : mir (n + 1) 20 ds = runB 7 (b_modes_by (mir n)) ds := rfl
theorem mir_read_turning (n : Nat) (ds : List PyData) : mir (n + 1) 21 ds = runB 8 (b_read_turning (mir n)) ds := rfl
theorem mir_mode_word (n : Nat) (ds : List PyData) : mir (n + 1) 22 ds = runB 1 (b_mode_word (mir n)) ds := rfl
theorem mir_show_mark (n : Nat) (ds : List PyData) : mir (n + 1) 23 ds = runB 1 (b_show_mark (mir n)) ds := rfl
theorem mir_show_term (n : Nat) (ds : List PyData) : mir (n + 1) 24 ds = runB 2 (b_show_term (mir n)) ds := rfl
theorem mir_show_turning (n : Nat) (ds : List PyData) : mir (n + 1) 25 ds = runB 6 (b_show_turning (mir n)) ds := rfl
theorem mir__law_cell_at (n : Nat) (ds : List PyData) : mir (n + 1) 26 ds = runB 0 (b__law_cell_at (mir n)) ds := rfl
theorem mir__law_mode (n : Nat) (ds : List PyData) : mir (n + 1) 27 ds = runB 1 (b__law_mode (mir n)) ds := rfl
theorem mir__law_mark (n : Nat) (ds : List PyData) : mir (n + 1) 28 ds = runB 0 (b__law_mark (mir n)) ds := rfl
theorem mir_law (n : Nat) (ds : List PyData) : mir (n + 1) 29 ds = runB 15 (b_law (mir n)) ds := rfl
theorem run_term_size (m : Nat → List PyData → R Ow) (ds : List PyData) : runB 1 (b_term_size m) ds = finR (((sSeq (sIf (eB (eBin gEq (eBin gIx (eVar 0) (eC (.int 0))) (eC (.str "call"))) asB)
    (sRet (eM (eC (.int 1)) Ow.d))
    sSkip)
    (sRet (eBinO gAdd (eC (.int 1)) (eB (eCa gSum (aCons (eB (eLc (eB (eBin gIx (eVar 0) (eC (.int 4))) itD) (gtName 1) cYes (eB (aCons (eVar 1) aNil) (m 0)) (List.map (·.2) ([("part", 1)] : List (Str × Nat)))) shD) aNil)) shD))))) (envOf 1 ds)) := runB_fin _ _ _
theorem run_calls_of (m : Nat → List PyData → R Ow) (ds : List PyData) : runB 2 (b_calls_of m) ds = finR (((sSeq (sIf (eB (eBin gEq (eBin gIx (eVar 0) (eC (.int 0))) (eC (.str "call"))) asB)
    (sRet (eLst (aCons (eTup (aCons (eBin gIx (eVar 0) (eC (.int 1))) (aCons (eBin gIx (eVar 0) (eC (.int 2))) aNil))) aNil)))
    sSkip)
    (sSeq (sSet 1 (eLst aNil))
    (sSeq (sFor (eB (eBin gIx (eVar 0) (eC (.int 4))) itD) (gtName 2)
    (sExt 1 (eB (eB (aCons (eVar 2) aNil) (m 1)) shD)))
    (sRetV 1))))) (envOf 2 ds)) := runB_fin _ _ _
theorem run_keeps_mark (m : Nat → List PyData → R Ow) (ds : List PyData) : runB 1 (b_keeps_mark m) ds = finR (((sSeq (sIf (eB (eBin gEq (eBin gIx (eVar 0) (eC (.int 0))) (eC (.str "call"))) asB)
    (sRet (eM (eC (.bool false)) Ow.d))
    sSkip)
    (sRet (eM (eOr (eBin gIx (eVar 0) (eC (.int 2))) (eM (eCa gAny (aCons (eB (eLc (eB (eBin gIx (eVar 0) (eC (.int 4))) itD) (gtName 1) cYes (eB (aCons (eVar 1) aNil) (m 2)) (List.map (·.2) ([("part", 1)] : List (Str × Nat)))) shD) aNil)) viewD)) Ow.d)))) (envOf 1 ds)) := runB_fin _ _ _
theorem run_run_end (m : Nat → List PyData → R Ow) (ds : List PyData) : runB 1 (b_run_end m) ds = finR (((sSeq (sSet 3 (eM (eVar 1) Ow.d))
    (sSeq (whileN (tAndE (eB (eBin gLt (eVar 3) (eM (eCa gLen (aCons (eVar 0) aNil)) viewD)) asB) (eB (eBin gIn (eBin gIx (eVar 0) (eVar 3)) (eVar 2)) asB))
    (sAug gAddA 3 (eC (.int 1))) 1000000)
    (sRet (eM (eVar 3) Ow.d))))) (envOf 1 ds)) := runB_fin _ _ _
theorem run_word_end (m : Nat → List PyData → R Ow) (ds : List PyData) : runB 2 (b_word_end m) ds = finR (((sSeq (sIf (eB (eBin gIn (eBin gIx (eVar 0) (eVar 1)) (eC (.str "();:=|*"))) asB)
    (sRet (eBinO gAdd (eVar 1) (eC (.int 1))))
    sSkip)
    (sSeq (sSet 2 (eM (eM (eB (aCons (eVar 0) (aCons (eVar 1) (aCons (eC (.str "abcdefghijklmnopqrstuvwxyz")) aNil))) (m 3)) viewD) Ow.d))
    (sSeq (sIf (eB (eBin gGt (eVar 2) (eVar 1)) asB)
    (sSeq (sIf (eB (eBin gGt (eBin gSub (eVar 2) (eVar 1)) (eC (.int 8))) asB)
    (sRaise "NoText")
    sSkip)
    (sRet (eM (eVar 2) Ow.d)))
    sSkip)
    (sSeq (sSet 3 (eM (eM (eBinO gAdd (eVar 1) (eB (eCa gInt (aCons (eBin gEq (eBin gIx (eVar 0) (eVar 1)) (eC (.str "-"))) aNil)) shD)) viewD) Ow.d))
    (sSeq (sSet 2 (eM (eM (eB (aCons (eVar 0) (aCons (eVar 3) (aCons (eC (.str "0123456789")) aNil))) (m 3)) viewD) Ow.d))
    (sSeq (sIf (tOrE (eB (eBin gEq (eVar 2) (eVar 3)) asB) (eB (eBin gGt (eBin gSub (eVar 2) (eVar 3)) (eC (.int 60))) asB))
    (sRaise "NoText")
    sSkip)
    (sSeq (sIf (tAndE (eB (eBin gEq (eBin gIx (eVar 0) (eVar 3)) (eC (.str "0"))) asB) (tOrE (eB (eBin gGt (eBin gSub (eVar 2) (eVar 3)) (eC (.int 1))) asB) (eB (eBin gGt (eVar 3) (eVar 1)) asB)))
    (sRaise "NoText")
    sSkip)
    (sRet (eM (eVar 2) Ow.d)))))))))) (envOf 2 ds)) := runB_fin _ _ _
theorem run_words (m : Nat → List PyData → R Ow) (ds : List PyData) : runB 3 (b_words m) ds = finR (((sSeq (sIf (tNotE (eB (eB (eVar 0) (gIsi "str")) asB))
    (sRaise "NoText")
    sSkip)
    (sSeq (sSet 1 (eLst aNil))
    (sSeq (sSet 2 (eM (eC (.int 0)) Ow.d))
    (sSeq (whileN (eB (eBin gLt (eVar 2) (eM (eCa gLen (aCons (eVar 0) aNil)) viewD)) asB)
    (sSeq (sIf (eB (eBin gEq (eBin gIx (eVar 0) (eVar 2)) (eC (.str " "))) asB)
    (sSeq (sAug gAddA 2 (eC (.int 1)))
    sCont)
    sSkip)
    (sSeq (sSet 3 (eM (eM (eB (aCons (eVar 0) (aCons (eVar 2) aNil)) (m 4)) viewD) Ow.d))
    (sSeq (sApp 1 (eSl (eVar 0) (eB (eVar 2) asI) (eB (eVar 3) asI)))
    (sSet 2 (eM (eVar 3) Ow.d))))) 1000000)
    (sRetV 1)))))) (envOf 3 ds)) := runB_fin _ _ _
theorem run_is_name (m : Nat → List PyData → R Ow) (ds : List PyData) : runB 0 (b_is_name m) ds = finR (((sRet (eM (eBin gIn (eBin gIx (eVar 0) (eC (.int 0))) (eC (.str "abcdefghijklmnopqrstuvwxyz"))) Ow.d))) (envOf 0 ds)) := runB_fin _ _ _
theorem run_is_number (m : Nat → List PyData → R Ow) (ds : List PyData) : runB 0 (b_is_number m) ds = finR (((sRet (eM (eBin gIn (eBin gIx (eVar 0) (eB (eC (.int 1)) gNeg)) (eC (.str "0123456789"))) Ow.d))) (envOf 0 ds)) := runB_fin _ _ _
theorem run_parted (m : Nat → List PyData → R Ow) (ds : List PyData) : runB 2 (b_parted m) ds = finR (((sSeq (sSet 2 (eLstO (oCons (eLst aNil) oNil)))
    (sSeq (sFor (eB (eVar 0) itD) (gtName 3)
    (sIf (eB (eBin gEq (eVar 3) (eVar 1)) asB)
    (sApp 2 (eLst aNil))
    (sPApp (pIx (pVar 2) (eB (eC (.int 1)) gNeg)) (eM (eVar 3) Ow.d))))
    (sRetV 2)))) (envOf 2 ds)) := runB_fin _ _ _
theorem run_rows_of (m : Nat → List PyData → R Ow) (ds : List PyData) : runB 2 (b_rows_of m) ds = finR (((sSeq (sFor (eB (eVar 0) itD) (gtTup 2 (gtCons (gtName 2) (gtCons (gtName 3) gtNil)))
    (sIf (eB (eBin gEq (eVar 2) (eVar 1)) asB)
    (sRet (eM (eVar 3) Ow.d))
    sSkip))
    (sRet (eLst aNil)))) (envOf 2 ds)) := runB_fin _ _ _
theorem run_wood_again (m : Nat → List PyData → R Ow) (ds : List PyData) : runB 2 (b_wood_again m) ds = finR (((sRet (eLc (eB (eVar 0) itD) (gtTup 2 (gtCons (gtName 1) (gtCons (gtName 2) gtNil))) cYes (eM (eTup (aCons (eVar 1) (aCons (eM (eCa gList (aCons (eVar 2) aNil)) viewD) aNil))) Ow.d) (List.map (·.2) ([("kind", 1), ("rows", 2)] : List (Str × Nat)))))) (envOf 2 ds)) := runB_fin _ _ _
theorem run_calls_fit (m : Nat → List PyData → R Ow) (ds : List PyData) : runB 2 (b_calls_fit m) ds = finR (((sSeq (sFor (eB (eM (eB (aCons (eVar 0) aNil) (m 1)) viewD) itD) (gtTup 2 (gtCons (gtName 3) (gtCons (gtName 4) gtNil)))
    (sSeq (sIf (tOrE (eB (eBin gLt (eVar 3) (eC (.int 0))) asB) (tOrE (eB (eBin gGe (eVar 3) (eM (eCa gLen (aCons (eVar 2) aNil)) viewD)) asB) (tOrE (eB (eBin gLt (eVar 4) (eC (.int 0))) asB) (eB (eBin gGe (eVar 4) (eM (eCa gLen (aCons (eVar 1) aNil)) viewD)) asB))))
    (sRet (eM (eC (.bool false)) Ow.d))
    sSkip)
    (sIf (eB (eBin gNe (eBin gIx (eBin gIx (eVar 2) (eVar 3)) (eC (.int 0))) (eBin gIx (eVar 1) (eVar 4))) asB)
    (sRet (eM (eC (.bool false)) Ow.d))
    sSkip)))
    (sRet (eM (eC (.bool true)) Ow.d)))) (envOf 2 ds)) := runB_fin _ _ _
theorem run_is_sound (m : Nat → List PyData → R Ow) (ds : List PyData) : runB 6 (b_is_sound m) ds = finR (((sSeq (sIf (tOrE (eB (eM (eB (aCons (eVar 1) aNil) (m 2)) viewD) asB) (tNotE (eB (eM (eB (aCons (eVar 1) (aCons (eTup (aCons (eBin gIx (eBin gIx (eVar 0) (eC (.int 0))) (eC (.int 0))) aNil)) (aCons (eVar 2) aNil))) (m 11)) viewD) asB)))
    (sRet (eM (eC (.bool false)) Ow.d))
    sSkip)
    (sSeq (sSet 3 (eM (eM (eLc (eB (eVar 0) itD) (gtTup 2 (gtCons (gtName 4) (gtCons (gtName 5) gtNil))) cYes (eM (eVar 4) Ow.d) (List.map (·.2) ([("kind", 4), ("rows", 5)] : List (Str × Nat)))) viewD) Ow.d))
    (sSeq (sFor (eB (eVar 2) itD) (gtTup 2 (gtCons (gtName 4) (gtCons (gtName 6) gtNil)))
    (sSeq (sSet 5 (eM (eM (eB (aCons (eVar 0) (aCons (eVar 4) aNil)) (m 9)) viewD) Ow.d))
    (sSeq (sIf (tOrE (eB (eBin gNotIn (eVar 4) (eVar 3)) asB) (eB (eBin gNe (eM (eCa gLen (aCons (eVar 6) aNil)) viewD) (eM (eCa gLen (aCons (eVar 5) aNil)) viewD)) asB))
    (sRet (eM (eC (.bool false)) Ow.d))
    sSkip)
    (sFor (eB (aCons (eVar 5) (aCons (eVar 6) aNil)) zpArg) (gtTup 2 (gtCons (gtName 7) (gtCons (gtName 8) gtNil)))
    (sIf (tNotE (eB (eM (eB (aCons (eVar 8) (aCons (eBin gIx (eVar 7) (eC (.int 1))) (aCons (eVar 2) aNil))) (m 11)) viewD) asB))
    (sRet (eM (eC (.bool false)) Ow.d))
    sSkip)))))
    (sRet (eM (eC (.bool true)) Ow.d)))))) (envOf 6 ds)) := runB_fin _ _ _
theorem run_mark_at (m : Nat → List PyData → R Ow) (ds : List PyData) : runB 1 (b_mark_at m) ds = finR (((sSeq (sSet 2 (eM (eAnd (eBin gLt (eVar 1) (eM (eCa gLen (aCons (eVar 0) aNil)) viewD)) (eBin gEq (eBin gIx (eVar 0) (eVar 1)) (eC (.str "=")))) Ow.d))
    (sSeq (sIf (eB (eVar 2) asB)
    (sAug gAddA 1 (eC (.int 1)))
    sSkip)
    (sSeq (sIf (tAndE (eB (eBin gLt (eVar 1) (eM (eCa gLen (aCons (eVar 0) aNil)) viewD)) asB) (eB (eM (eB (aCons (eBin gIx (eVar 0) (eVar 1)) aNil) (m 7)) viewD) asB))
    (sRet (eM (eTup (aCons (eVar 2) (aCons (eM (eCa gInt (aCons (eBin gIx (eVar 0) (eVar 1)) aNil)) viewD) (aCons (eM (eBinO gAdd (eVar 1) (eC (.int 1))) viewD) aNil)))) Ow.d))
    sSkip)
    (sRet (eM (eTup (aCons (eVar 2) (aCons (eC (.int 0)) (aCons (eVar 1) aNil)))) Ow.d)))))) (envOf 1 ds)) := runB_fin _ _ _
theorem run_call_at (m : Nat → List PyData → R Ow) (ds : List PyData) : runB 0 (b_call_at m) ds = finR (((sSeq (sIf (tOrE (eB (eBin gGe (eM (eBinO gAdd (eVar 1) (eC (.int 2))) viewD) (eM (eCa gLen (aCons (eVar 0) aNil)) viewD)) asB) (tOrE (tNotE (eB (eM (eB (aCons (eBin gIx (eVar 0) (eM (eBinO gAdd (eVar 1) (eC (.int 1))) viewD)) aNil) (m 6)) viewD) asB)) (tNotE (eB (eM (eB (aCons (eBin gIx (eVar 0) (eM (eBinO gAdd (eVar 1) (eC (.int 2))) viewD)) aNil) (m 7)) viewD) asB))))
    (sRaise "NoText")
    sSkip)
    (sRet (eM (eTup (aCons (eTup (aCons (eC (.str "call")) (aCons (eBin gIx (eVar 0) (eM (eBinO gAdd (eVar 1) (eC (.int 1))) viewD)) (aCons (eM (eCa gInt (aCons (eBin gIx (eVar 0) (eM (eBinO gAdd (eVar 1) (eC (.int 2))) viewD)) aNil)) viewD) aNil)))) (aCons (eM (eBinO gAdd (eVar 1) (eC (.int 3))) viewD) aNil))) Ow.d)))) (envOf 0 ds)) := runB_fin _ _ _
theorem run_term_at (m : Nat → List PyData → R Ow) (ds : List PyData) : runB 5 (b_term_at m) ds = finR (((sSeq (sIf (tAndE (eB (eBin gLt (eVar 1) (eM (eCa gLen (aCons (eVar 0) aNil)) viewD)) asB) (eB (eBin gEq (eBin gIx (eVar 0) (eVar 1)) (eC (.str "*"))) asB))
    (sRet (eB (aCons (eVar 0) (aCons (eVar 1) aNil)) (m 14)))
    sSkip)
    (sSeq (sIf (tOrE (eB (eBin gGe (eVar 1) (eM (eCa gLen (aCons (eVar 0) aNil)) viewD)) asB) (tNotE (eB (eM (eB (aCons (eBin gIx (eVar 0) (eVar 1)) aNil) (m 6)) viewD) asB)))
    (sRaise "NoText")
    sSkip)
    (sSeq (sSet 3 (eM (eBin gIx (eVar 0) (eVar 1)) Ow.d))
    (sSeq (sAsg (gtTup 3 (gtCons (gtName 4) (gtCons (gtName 5) (gtCons (gtName 1) gtNil)))) (eM (eB (aCons (eVar 0) (aCons (eM (eBinO gAdd (eVar 1) (eC (.int 1))) viewD) aNil)) (m 13)) viewD))
    (sSeq (sSet 6 (eLst aNil))
    (sSeq (sIf (tAndE (eB (eBin gLt (eVar 1) (eM (eCa gLen (aCons (eVar 0) aNil)) viewD)) asB) (eB (eBin gEq (eBin gIx (eVar 0) (eVar 1)) (eC (.str "("))) asB))
    (sSeq (sIf (eB (eBin gEq (eVar 2) (eC (.int 8))) asB)
    (sRaise "NoText")
    sSkip)
    (sSeq (sAug gAddA 1 (eC (.int 1)))
    (sSeq (whileN (tOrE (eB (eBin gGe (eVar 1) (eM (eCa gLen (aCons (eVar 0) aNil)) viewD)) asB) (eB (eBin gNe (eBin gIx (eVar 0) (eVar 1)) (eC (.str ")"))) asB))
    (sSeq (sAsg (gtTup 2 (gtCons (gtName 7) (gtCons (gtName 1) gtNil))) (eM (eB (aCons (eVar 0) (aCons (eVar 1) (aCons (eM (eBinO gAdd (eVar 2) (eC (.int 1))) viewD) aNil))) (m 15)) viewD))
    (sApp 6 (eM (eVar 7) Ow.d))) 1000000)
    (sSeq (sIf (eB (eBin gEq (eM (eVarO 6) viewD) (eM (eLst aNil) viewD)) asB)
    (sRaise "NoText")
    sSkip)
    (sAug gAddA 1 (eC (.int 1)))))))
    sSkip)
    (sRet (eM (eTup (aCons (eTup (aCons (eC (.str "put")) (aCons (eVar 3) (aCons (eVar 4) (aCons (eVar 5) (aCons (eM (eCa gTuple (aCons (eB (eVarO 6) shD) aNil)) viewD) aNil)))))) (aCons (eVar 1) aNil))) Ow.d))))))))) (envOf 5 ds)) := runB_fin _ _ _
theorem run_term_by (m : Nat → List PyData → R Ow) (ds : List PyData) : runB 2 (b_term_by m) ds = finR (((sSeq (sAsg (gtTup 2 (gtCons (gtName 1) (gtCons (gtName 2) gtNil))) (eM (eB (aCons (eVar 0) (aCons (eC (.int 0)) (aCons (eC (.int 0)) aNil))) (m 15)) viewD))
    (sSeq (sIf (eB (eBin gNe (eVar 2) (eM (eCa gLen (aCons (eVar 0) aNil)) viewD)) asB)
    (sRaise "NoText")
    sSkip)
    (sRet (eM (eVar 1) Ow.d))))) (envOf 2 ds)) := runB_fin _ _ _
theorem run_rule_by (m : Nat → List PyData → R Ow) (ds : List PyData) : runB 1 (b_rule_by m) ds = finR (((sSeq (sIf (tOrE (eB (eBin gLt (eM (eCa gLen (aCons (eVar 0) aNil)) viewD) (eC (.int 5))) asB) (eB (eBin gNe (eBin gIx (eVar 0) (eC (.int 3))) (eC (.str ":"))) asB))
    (sRaise "NoText")
    sSkip)
    (sSeq (sFor (eB (eM (eSl (eVar 0) oNone (eB (eC (.int 3)) asI)) viewD) itD) (gtName 1)
    (sIf (tNotE (eB (eM (eB (aCons (eVar 1) aNil) (m 6)) viewD) asB))
    (sRaise "NoText")
    sSkip))
    (sRet (eM (eTup (aCons (eBin gIx (eVar 0) (eC (.int 0))) (aCons (eBin gIx (eVar 0) (eC (.int 1))) (aCons (eBin gIx (eVar 0) (eC (.int 2))) (aCons (eM (eB (aCons (eM (eSl (eVar 0) (eB (eC (.int 4)) asI) oNone) viewD) aNil) (m 16)) viewD) aNil))))) Ow.d))))) (envOf 1 ds)) := runB_fin _ _ _
theorem run_numbered (m : Nat → List PyData → R Ow) (ds : List PyData) : runB 1 (b_numbered m) ds = finR (((sSeq (sIf (eB (eBin gEq (eBin gIx (eVar 0) (eC (.int 0))) (eC (.str "call"))) asB)
    (sSeq (sIf (eB (eBin gNotIn (eBin gIx (eVar 0) (eC (.int 1))) (eVar 1)) asB)
    (sRaise "NoTurning")
    sSkip)
    (sRet (eM (eTup (aCons (eC (.str "call")) (aCons (eLsIndex (eVar 1) (eBin gIx (eVar 0) (eC (.int 1)))) (aCons (eBin gIx (eVar 0) (eC (.int 2))) aNil)))) Ow.d)))
    sSkip)
    (sRet (eM (eTup (aCons (eC (.str "put")) (aCons (eBin gIx (eVar 0) (eC (.int 1))) (aCons (eBin gIx (eVar 0) (eC (.int 2))) (aCons (eBin gIx (eVar 0) (eC (.int 3))) (aCons (eM (eCa gTuple (aCons (eB (eLc (eB (eBin gIx (eVar 0) (eC (.int 4))) itD) (gtName 2) cYes (eB (aCons (eVar 2) (aCons (eVar 1) aNil)) (m 18)) (List.map (·.2) ([("part", 2)] : List (Str × Nat)))) shD) aNil)) viewD) aNil)))))) Ow.d)))) (envOf 1 ds)) := runB_fin _ _ _
theorem run_table_by (m : Nat → List PyData → R Ow) (ds : List PyData) : runB 7 (b_table_by m) ds = finR (((sSeq (sSet 2 eDictNewK)
    (sSeq (sFor (eB (eVar 1) itD) (gtTup 4 (gtCons (gtName 3) (gtCons (gtName 4) (gtCons (gtName 5) (gtCons (gtName 6) gtNil)))))
    (sSeq (sFrz 7 (sIf (eB (eBin gNotIn (eVar 5) (eM (eLc (eB (eM (eB (aCons (eVar 0) (aCons (eVar 4) aNil)) (m 9)) viewD) itD) (gtTup 2 (gtCons (gtName 7) (gtCons (gtName 8) gtNil))) cYes (eM (eVar 7) Ow.d) (List.map (·.2) ([("told", 7), ("branches", 8)] : List (Str × Nat)))) viewD)) asB)
    (sRaise "NoTurning")
    sSkip))
    (sBorD 2 7 (eVar 3) (eTupO (oCons (eM (eVar 4) Ow.d) (oCons eDictNew oNil)))
    (sSeq (sIf (tOrE (eB (eBin gNe (ePtD (pIx (pVar 7) (eC (.int 0)))) (eVar 4)) asB) (eB (eInPM false (eVar 5) (pIx (pVar 7) (eC (.int 1)))) asB))
    (sRaise "NoTurning")
    sSkip)
    (sPPutM (pIx (pVar 7) (eC (.int 1))) (eVar 5) (eVar 6))))))
    (sRetV 2)))) (envOf 7 ds)) := runB_fin _ _ _
theorem run_modes_by (m : Nat → List PyData → R Ow) (ds : List PyData) : runB 7 (b_modes_by m) ds = finR (((sSeq (sSet 2 (eM (eM (eListKD (eVar 1)) viewD) Ow.d))
    (sSeq (sSet 3 (eLst aNil))
    (sSeq (sForVD 1 (gtTup 2 (gtCons (gtName 4) (gtCons (gtName 5) gtNil)))
    (sSeq (sSet 6 (eLst aNil))
    (sSeq (sFor (eB (eM (eB (aCons (eVar 0) (aCons (eVar 4) aNil)) (m 9)) viewD) itD) (gtTup 2 (gtCons (gtName 7) (gtCons (gtName 8) gtNil)))
    (sSeq (sIf (eB (eBin (gInDD true) (eVar 7) (eVar 5)) asB)
    (sRaise "NoTurning")
    sSkip)
    (sApp 6 (eB (aCons (eBin gGetD (eVar 5) (eVar 7)) (aCons (eVar 2) aNil)) (m 18)))))
    (sFrz 6 (sApp 3 (eM (eTup (aCons (eVar 4) (aCons (eVar 6) aNil))) Ow.d))))))
    (sRetV 3))))) (envOf 7 ds)) := runB_fin _ _ _
theorem run_read_turning (m : Nat → List PyData → R Ow) (ds : List PyData) : runB 8 (b_read_turning m) ds = finR (((sSeq (sSet 2 (eM (eM (eB (aCons (eM (eB (aCons (eVar 1) aNil) (m 5)) viewD) (aCons (eC (.str ";")) aNil)) (m 8)) viewD) Ow.d))
    (sSeq (sSet 3 (eM (eM (eB (aCons (eBin gIx (eVar 2) (eC (.int 0))) aNil) (m 16)) viewD) Ow.d))
    (sSeq (sSet 4 (eM (eM (eLc (eB (eM (eSl (eVar 2) (eB (eC (.int 1)) asI) oNone) viewD) itD) (gtName 5) cYes (eB (aCons (eVar 5) aNil) (m 17)) (List.map (·.2) ([("part", 5)] : List (Str × Nat)))) viewD) Ow.d))
    (sSeq (sSet 6 (eM (eM (eBinO gAdd (eB (eB (aCons (eVar 3) aNil) (m 0)) shD) (eB (eCa gSum (aCons (eB (eLc (eB (eVar 4) itD) (gtName 7) cYes (eB (aCons (eBin gIx (eVar 7) (eC (.int 3))) aNil) (m 0)) (List.map (·.2) ([("rule", 7)] : List (Str × Nat)))) shD) aNil)) shD)) viewD) Ow.d))
    (sSeq (sIf (tOrE (eB (eBin gGt (eM (eCa gLen (aCons (eVar 4) aNil)) viewD) (eC (.int 40))) asB) (eB (eBin gGt (eVar 6) (eC (.int 120))) asB))
    (sRaise "NoText")
    sSkip)
    (sSeq (sSet 8 (eM (eM (eB (aCons (eVar 0) (aCons (eVar 4) aNil)) (m 19)) viewD) Ow.d))
    (sSeq (sSet 9 (eM (eM (eB (aCons (eVar 0) (aCons (eVar 8) aNil)) (m 20)) viewD) Ow.d))
    (sSeq (sSet 3 (eM (eM (eB (aCons (eVar 3) (aCons (eM (eListKD (eVar 8)) viewD) aNil)) (m 18)) viewD) Ow.d))
    (sSeq (sIf (tNotE (eB (eM (eB (aCons (eVar 0) (aCons (eVar 3) (aCons (eVar 9) aNil))) (m 12)) viewD) asB))
    (sRaise "NoTurning")
    sSkip)
    (sRet (eM (eTup (aCons (eM (eB (aCons (eVar 0) aNil) (m 10)) viewD) (aCons (eVar 3) (aCons (eVar 9) aNil)))) Ow.d)))))))))))) (envOf 8 ds)) := runB_fin _ _ _
theorem run_mode_word (m : Nat → List PyData → R Ow) (ds : List PyData) : runB 1 (b_mode_word m) ds = finR (((sSeq (sSet 1 (eM (eBin gIx (eC (.str "abcdefghijklmnopqrstuvwxyz")) (eBin gMod (eVar 0) (eC (.int 26)))) Ow.d))
    (sSeq (whileN (eB (eBin gGe (eVar 0) (eC (.int 26))) asB)
    (sSeq (sSet 0 (eM (eBin gDiv (eVar 0) (eC (.int 26))) Ow.d))
    (sSet 1 (eM (eM (eBinO gAdd (eBin gIx (eC (.str "abcdefghijklmnopqrstuvwxyz")) (eBin gMod (eVar 0) (eC (.int 26)))) (eVar 1)) viewD) Ow.d))) 1000000)
    (sRet (eM (eVar 1) Ow.d))))) (envOf 1 ds)) := runB_fin _ _ _
theorem run_show_mark (m : Nat → List PyData → R Ow) (ds : List PyData) : runB 1 (b_show_mark m) ds = finR (((sSeq (sSet 2 (eM (eIf (eB (eVar 0) asB) (eC (.str "=")) (eC (.str ""))) Ow.d))
    (sSeq (sIf (eB (eBin gNe (eVar 1) (eC (.int 0))) asB)
    (sAug gAddA 2 (eM (eCa gStr (aCons (eVar 1) aNil)) viewD))
    sSkip)
    (sRet (eM (eVar 2) Ow.d))))) (envOf 1 ds)) := runB_fin _ _ _
theorem run_show_term (m : Nat → List PyData → R Ow) (ds : List PyData) : runB 2 (b_show_term m) ds = finR (((sSeq (sIf (eB (eBin gEq (eBin gIx (eVar 0) (eC (.int 0))) (eC (.str "call"))) asB)
    (sRet (eBinO gAdd (eB (eBinO gAdd (eC (.str "*")) (eB (eB (aCons (eBin gIx (eVar 0) (eC (.int 1))) aNil) (m 22)) shD)) shD) (eB (eCa gStr (aCons (eBin gIx (eVar 0) (eC (.int 2))) aNil)) shD)))
    sSkip)
    (sSeq (sSet 1 (eM (eM (eBinO gAdd (eBin gIx (eVar 0) (eC (.int 1))) (eB (eB (aCons (eBin gIx (eVar 0) (eC (.int 2))) (aCons (eBin gIx (eVar 0) (eC (.int 3))) aNil)) (m 23)) shD)) viewD) Ow.d))
    (sSeq (sIf (eB (eBin gGt (eM (eCa gLen (aCons (eBin gIx (eVar 0) (eC (.int 4))) aNil)) viewD) (eC (.int 0))) asB)
    (sAug gAddA 1 (eM (eBinO gAdd (eB (eBinO gAdd (eC (.str "(")) (eJoin (eC (.str " ")) (eB (eLc (eB (eBin gIx (eVar 0) (eC (.int 4))) itD) (gtName 2) cYes (eB (aCons (eVar 2) aNil) (m 24)) (List.map (·.2) ([("part", 2)] : List (Str × Nat)))) shD))) shD) (eC (.str ")"))) viewD))
    sSkip)
    (sRet (eM (eVar 1) Ow.d)))))) (envOf 2 ds)) := runB_fin _ _ _
theorem run_show_turning (m : Nat → List PyData → R Ow) (ds : List PyData) : runB 6 (b_show_turning m) ds = finR (((sSeq (sSet 1 (eLst (aCons (eM (eB (aCons (eBin gIx (eVar 0) (eC (.int 1))) aNil) (m 24)) viewD) aNil)))
    (sSeq (sFor (eB (aCons (eBin gIx (eVar 0) (eC (.int 2))) aNil) enArg) (gtTup 2 (gtCons (gtName 2) (gtCons (gtName 3) gtNil)))
    (sSeq (sSet 4 (eM (eM (eBinO gAdd (eB (eBinO gAdd (eB (eBinO gAdd (eB (eB (aCons (eVar 2) aNil) (m 22)) shD) (eC (.str " "))) shD) (eBin gIx (eVar 3) (eC (.int 0)))) shD) (eC (.str " "))) viewD) Ow.d))
    (sFor (eB (aCons (eM (eB (aCons (eBin gIx (eVar 0) (eC (.int 0))) (aCons (eBin gIx (eVar 3) (eC (.int 0))) aNil)) (m 9)) viewD) (aCons (eBin gIx (eVar 3) (eC (.int 1))) aNil)) zpArg) (gtTup 2 (gtCons (gtName 5) (gtCons (gtName 6) gtNil)))
    (sApp 1 (eBinO gAdd (eB (eBinO gAdd (eB (eBinO gAdd (eVar 4) (eBin gIx (eVar 5) (eC (.int 0)))) shD) (eC (.str " : "))) shD) (eB (eB (aCons (eVar 6) aNil) (m 24)) shD))))))
    (sRet (eM (eJoin (eC (.str "; ")) (eB (eVarO 1) shD)) Ow.d))))) (envOf 6 ds)) := runB_fin _ _ _
theorem run__law_cell_at (m : Nat → List PyData → R Ow) (ds : List PyData) : runB 0 (b__law_cell_at m) ds = finR (((sSeq (sIf (eB (eBin gLt (eVar 1) (eM (eCa gLen (aCons (eVar 0) aNil)) viewD)) asB)
    (sRet (eM (eBin gIx (eVar 0) (eVar 1)) Ow.d))
    sSkip)
    (sRet (eM (eC (.int 0)) Ow.d)))) (envOf 0 ds)) := runB_fin _ _ _
theorem run__law_mode (m : Nat → List PyData → R Ow) (ds : List PyData) : runB 1 (b__law_mode m) ds = finR (((sSeq (sSet 1 (eM (eC (.str "abcdefghijklmnopqrstuvwxyz")) Ow.d))
    (sSeq (sIf (eB (eBin gLt (eVar 0) (eC (.int 26))) asB)
    (sRet (eM (eBin gIx (eVar 1) (eVar 0)) Ow.d))
    sSkip)
    (sRet (eBinO gAdd (eBin gIx (eVar 1) (eBin gDiv (eVar 0) (eC (.int 26)))) (eBin gIx (eVar 1) (eBin gMod (eVar 0) (eC (.int 26))))))))) (envOf 1 ds)) := runB_fin _ _ _
theorem run__law_mark (m : Nat → List PyData → R Ow) (ds : List PyData) : runB 0 (b__law_mark m) ds = finR (((sRet (eBinO gAdd (eBin gMulZ (eC (.str "=")) (eM (eCa gInt (aCons (eVar 0) aNil)) viewD)) (eBin gMulZ (eM (eCa gStr (aCons (eVar 1) aNil)) viewD) (eM (eCa gInt (aCons (eBin gNe (eVar 1) (eC (.int 0))) aNil)) viewD))))) (envOf 0 ds)) := runB_fin _ _ _
theorem run_law (m : Nat → List PyData → R Ow) (ds : List PyData) : runB 15 (b_law m) ds = finR (((sSeq (sSet 1 (eM (eM (eBinO gAdd (eC (.int 1)) (eBin gMod (eM (eB (aCons (eVar 0) (aCons (eC (.int 0)) aNil)) (m 26)) viewD) (eC (.int 200)))) viewD) Ow.d))
    (sSeq (sIf (eB (eBin gEq (eBin gMod (eBin gDiv (eM (eB (aCons (eVar 0) (aCons (eC (.int 0)) aNil)) (m 26)) viewD) (eC (.int 200))) (eC (.int 2))) (eC (.int 0))) asB)
    (sSet 1 (eM (eM (eBinO gAdd (eC (.int 1)) (eBin gMod (eVar 1) (eC (.int 20)))) viewD) Ow.d))
    sSkip)
    (sSeq (sSet 2 (eM (eBin gMod (eM (eB (aCons (eVar 0) (aCons (eC (.int 1)) aNil)) (m 26)) viewD) (eVar 1)) Ow.d))
    (sSeq (sSet 3 (eM (eBin gSub (eBin gMod (eM (eB (aCons (eVar 0) (aCons (eC (.int 2)) aNil)) (m 26)) viewD) (eBin gPow (eC (.int 10)) (eC (.int 60)))) (eBin gPow (eC (.int 10)) (eC (.int 59)))) Ow.d))
    (sSeq (sSet 4 (eM (eM (eLst (aCons (eTup (aCons (eC (.str "k")) (aCons (eM (eLst (aCons (eTup (aCons (eC (.str "n")) (aCons (eTup aNil) aNil))) (aCons (eTup (aCons (eC (.str "s")) (aCons (eTup (aCons (eC (.str "k")) aNil)) aNil))) aNil))) viewD) aNil))) aNil)) viewD) Ow.d))
    (sSeq (sSet 5 (eM (eTup (aCons (eC (.str "put")) (aCons (eC (.str "b")) (aCons (eC (.bool false)) (aCons (eVar 3) (aCons (eTup (aCons (eTup (aCons (eC (.str "call")) (aCons (eVar 2) (aCons (eC (.int 0)) aNil)))) aNil)) aNil)))))) Ow.d))
    (sSeq (sSet 6 (eLst aNil))
    (sSeq (sSet 7 (eM (eM (eBinO gAdd (eB (eBinO gAdd (eB (eBinO gAdd (eB (eBinO gAdd (eC (.str "b")) (eB (eB (aCons (eC (.bool false)) (aCons (eVar 3) aNil)) (m 28)) shD)) shD) (eC (.str "(*"))) shD) (eB (eB (aCons (eVar 2) aNil) (m 27)) shD)) shD) (eC (.str "0)"))) viewD) Ow.d))
    (sSeq (sFor (eB (aCons (eVar 1) aNil) rg1) (gtName 8)
    (sSeq (sSet 9 (eM (eIf (eB (eBin gGt (eM (eCa gLen (aCons (eVar 0) aNil)) viewD) (eC (.int 0))) asB) (eBin gMod (eBin gIx (eVar 0) (eBin gMod (eM (eBinO gAdd (eC (.int 3)) (eVar 8)) viewD) (eM (eCa gLen (aCons (eVar 0) aNil)) viewD))) (eBin gPow (eC (.int 10)) (eC (.int 60)))) (eVar 8)) Ow.d))
    (sSeq (sSet 10 (eM (eBin gEq (eBin gMod (eVar 9) (eC (.int 2))) (eC (.int 0))) Ow.d))
    (sSeq (sSet 11 (eM (eBin gMod (eM (eBinO gAdd (eVar 8) (eC (.int 1))) viewD) (eVar 1)) Ow.d))
    (sSeq (sIf (eB (eBin gEq (eBin gMod (eVar 9) (eC (.int 3))) (eC (.int 1))) asB)
    (sSet 11 (eM (eBin gMod (eBin gDiv (eVar 9) (eC (.int 3))) (eVar 1)) Ow.d))
    sSkip)
    (sSeq (sSet 12 (eM (eTup (aCons (eC (.str "put")) (aCons (eC (.str "e")) (aCons (eVar 10) (aCons (eBin gSub (eVar 9) (eBin gPow (eC (.int 10)) (eC (.int 30)))) (aCons (eTup aNil) aNil)))))) Ow.d))
    (sSeq (sApp 6 (eM (eTup (aCons (eC (.str "k")) (aCons (eM (eLst (aCons (eVar 12) (aCons (eTup (aCons (eC (.str "put")) (aCons (eC (.str "f")) (aCons (eNot (eVar 10)) (aCons (eVar 8) (aCons (eTup (aCons (eTup (aCons (eC (.str "call")) (aCons (eVar 11) (aCons (eC (.int 0)) aNil)))) (aCons (eVar 12) aNil))) aNil)))))) aNil))) viewD) aNil))) Ow.d))
    (sSeq (sSet 13 (eM (eM (eBinO gAdd (eC (.str "e")) (eB (eB (aCons (eVar 10) (aCons (eBin gSub (eVar 9) (eBin gPow (eC (.int 10)) (eC (.int 30)))) aNil)) (m 28)) shD)) viewD) Ow.d))
    (sSeq (sSet 7 (eM (eM (eBinO gAdd (eB (eBinO gAdd (eB (eBinO gAdd (eB (eBinO gAdd (eVar 7) (eC (.str "; "))) shD) (eB (eB (aCons (eVar 8) aNil) (m 27)) shD)) shD) (eC (.str " k n : "))) shD) (eVar 13)) viewD) Ow.d))
    (sSeq (sSet 7 (eM (eM (eBinO gAdd (eB (eBinO gAdd (eB (eBinO gAdd (eB (eBinO gAdd (eVar 7) (eC (.str "; "))) shD) (eB (eB (aCons (eVar 8) aNil) (m 27)) shD)) shD) (eC (.str " k s : f"))) shD) (eB (eB (aCons (eNot (eVar 10)) (aCons (eVar 8) aNil)) (m 28)) shD)) viewD) Ow.d))
    (sSet 7 (eM (eM (eBinO gAdd (eB (eBinO gAdd (eB (eBinO gAdd (eB (eBinO gAdd (eB (eBinO gAdd (eVar 7) (eC (.str "(*"))) shD) (eB (eB (aCons (eVar 11) aNil) (m 27)) shD)) shD) (eC (.str "0 "))) shD) (eVar 13)) shD) (eC (.str ")"))) viewD) Ow.d))))))))))))
    (sSeq (sFrz 6 (sSet 14 (eM (eM (eB (aCons (eTup (aCons (eVar 4) (aCons (eVar 5) (aCons (eVar 6) aNil)))) aNil) (m 25)) viewD) Ow.d)))
    (sSeq (sIf (tOrE (tNotE (eB (eB (eVar 14) (gIsi "str")) asB)) (eB (eBin gNe (eVar 14) (eVar 7)) asB))
    (sRet (eM (eC (.bool false)) Ow.d))
    sSkip)
    (sSeq (sIf (tOrE (eB (eBin gGt (eVar 1) (eC (.int 20))) asB) (eB (eBin gGt (eM (eCa gLen (aCons (eVar 7) aNil)) viewD) (eC (.int 4000))) asB))
    (sRet (eM (eC (.bool true)) Ow.d))
    sSkip)
    (sSeq (sSet 15 (eM (eM (eB (aCons (eVar 4) (aCons (eVar 14) aNil)) (m 21)) viewD) Ow.d))
    (sFrz 6 (sRet (eM (eAnd (eBin gEq (eVar 15) (eTup (aCons (eVar 4) (aCons (eVar 5) (aCons (eVar 6) aNil))))) (eBin gEq (eM (eB (aCons (eVar 15) aNil) (m 25)) viewD) (eVar 7))) Ow.d))))))))))))))))) (envOf 15 ds)) := runB_fin _ _ _
abbrev N_term_size : List Str := ["term", "part"]
theorem sc_term_size : FnScope N_term_size ["term"] (defScope s_term_size) := ⟨rfl, rfl, rfl, by decide +kernel, rfl, by decide +kernel, by decide +kernel⟩
abbrev N_calls_of : List Str := ["term", "found", "part"]
theorem sc_calls_of : FnScope N_calls_of ["term"] (defScope s_calls_of) := ⟨rfl, rfl, rfl, by decide +kernel, rfl, by decide +kernel, by decide +kernel⟩
abbrev N_keeps_mark : List Str := ["term", "part"]
theorem sc_keeps_mark : FnScope N_keeps_mark ["term"] (defScope s_keeps_mark) := ⟨rfl, rfl, rfl, by decide +kernel, rfl, by decide +kernel, by decide +kernel⟩
abbrev N_run_end : List Str := ["text", "start", "signs", "end"]
theorem sc_run_end : FnScope N_run_end ["text", "start", "signs"] (defScope s_run_end) := ⟨rfl, rfl, rfl, by decide +kernel, rfl, by decide +kernel, by decide +kernel⟩
abbrev N_word_end : List Str := ["text", "start", "end", "first"]
theorem sc_word_end : FnScope N_word_end ["text", "start"] (defScope s_word_end) := ⟨rfl, rfl, rfl, by decide +kernel, rfl, by decide +kernel, by decide +kernel⟩
abbrev N_words : List Str := ["text", "found", "here", "end"]
theorem sc_words : FnScope N_words ["text"] (defScope s_words) := ⟨rfl, rfl, rfl, by decide +kernel, rfl, by decide +kernel, by decide +kernel⟩
abbrev N_is_name : List Str := ["word"]
theorem sc_is_name : FnScope N_is_name ["word"] (defScope s_is_name) := ⟨rfl, rfl, rfl, by decide +kernel, rfl, by decide +kernel, by decide +kernel⟩
abbrev N_is_number : List Str := ["word"]
theorem sc_is_number : FnScope N_is_number ["word"] (defScope s_is_number) := ⟨rfl, rfl, rfl, by decide +kernel, rfl, by decide +kernel, by decide +kernel⟩
abbrev N_parted : List Str := ["row", "sign", "parts", "word"]
theorem sc_parted : FnScope N_parted ["row", "sign"] (defScope s_parted) := ⟨rfl, rfl, rfl, by decide +kernel, rfl, by decide +kernel, by decide +kernel⟩
abbrev N_rows_of : List Str := ["wood", "kind", "told", "rows"]
theorem sc_rows_of : FnScope N_rows_of ["wood", "kind"] (defScope s_rows_of) := ⟨rfl, rfl, rfl, by decide +kernel, rfl, by decide +kernel, by decide +kernel⟩
abbrev N_wood_again : List Str := ["wood", "kind", "rows"]
theorem sc_wood_again : FnScope N_wood_again ["wood"] (defScope s_wood_again) := ⟨rfl, rfl, rfl, by decide +kernel, rfl, by decide +kernel, by decide +kernel⟩
abbrev N_calls_fit : List Str := ["term", "branches", "modes", "mode", "branch"]
theorem sc_calls_fit : FnScope N_calls_fit ["term", "branches", "modes"] (defScope s_calls_fit) := ⟨rfl, rfl, rfl, by decide +kernel, rfl, by decide +kernel, by decide +kernel⟩
abbrev N_is_sound : List Str := ["wood", "start", "modes", "kinds", "kind", "rows", "rules", "row", "rule"]
theorem sc_is_sound : FnScope N_is_sound ["wood", "start", "modes"] (defScope s_is_sound) := ⟨rfl, rfl, rfl, by decide +kernel, rfl, by decide +kernel, by decide +kernel⟩
abbrev N_mark_at : List Str := ["row", "here", "kept"]
theorem sc_mark_at : FnScope N_mark_at ["row", "here"] (defScope s_mark_at) := ⟨rfl, rfl, rfl, by decide +kernel, rfl, by decide +kernel, by decide +kernel⟩
abbrev N_call_at : List Str := ["row", "here"]
theorem sc_call_at : FnScope N_call_at ["row", "here"] (defScope s_call_at) := ⟨rfl, rfl, rfl, by decide +kernel, rfl, by decide +kernel, by decide +kernel⟩
abbrev N_term_at : List Str := ["row", "here", "depth", "name", "kept", "add", "parts", "part"]
theorem sc_term_at : FnScope N_term_at ["row", "here", "depth"] (defScope s_term_at) := ⟨rfl, rfl, rfl, by decide +kernel, rfl, by decide +kernel, by decide +kernel⟩
abbrev N_term_by : List Str := ["row", "term", "end"]
theorem sc_term_by : FnScope N_term_by ["row"] (defScope s_term_by) := ⟨rfl, rfl, rfl, by decide +kernel, rfl, by decide +kernel, by decide +kernel⟩
abbrev N_rule_by : List Str := ["part", "word"]
theorem sc_rule_by : FnScope N_rule_by ["part"] (defScope s_rule_by) := ⟨rfl, rfl, rfl, by decide +kernel, rfl, by decide +kernel, by decide +kernel⟩
abbrev N_numbered : List Str := ["term", "names", "part"]
theorem sc_numbered : FnScope N_numbered ["term", "names"] (defScope s_numbered) := ⟨rfl, rfl, rfl, by decide +kernel, rfl, by decide +kernel, by decide +kernel⟩
abbrev N_table_by : List Str := ["wood", "rules", "table", "mode", "kind", "name", "term", "told", "branches"]
theorem sc_table_by : FnScope N_table_by ["wood", "rules"] (defScope s_table_by) := ⟨rfl, rfl, rfl, by decide +kernel, rfl, by decide +kernel, by decide +kernel⟩
abbrev N_modes_by : List Str := ["wood", "table", "names", "modes", "kind", "terms", "rules", "name", "branches"]
theorem sc_modes_by : FnScope N_modes_by ["wood", "table"] (defScope s_modes_by) := ⟨rfl, rfl, rfl, by decide +kernel, rfl, by decide +kernel, by decide +kernel⟩
abbrev N_read_turning : List Str := ["wood", "text", "parts", "start", "rules", "part", "total", "rule", "table", "modes"]
theorem sc_read_turning : FnScope N_read_turning ["wood", "text"] (defScope s_read_turning) := ⟨rfl, rfl, rfl, by decide +kernel, rfl, by decide +kernel, by decide +kernel⟩
abbrev N_mode_word : List Str := ["number", "word"]
theorem sc_mode_word : FnScope N_mode_word ["number"] (defScope s_mode_word) := ⟨rfl, rfl, rfl, by decide +kernel, rfl, by decide +kernel, by decide +kernel⟩
abbrev N_show_mark : List Str := ["kept", "add", "shown"]
theorem sc_show_mark : FnScope N_show_mark ["kept", "add"] (defScope s_show_mark) := ⟨rfl, rfl, rfl, by decide +kernel, rfl, by decide +kernel, by decide +kernel⟩
abbrev N_show_term : List Str := ["term", "shown", "part"]
theorem sc_show_term : FnScope N_show_term ["term"] (defScope s_show_term) := ⟨rfl, rfl, rfl, by decide +kernel, rfl, by decide +kernel, by decide +kernel⟩
abbrev N_show_turning : List Str := ["turning", "parts", "k", "mode", "head", "row", "rule"]
theorem sc_show_turning : FnScope N_show_turning ["turning"] (defScope s_show_turning) := ⟨rfl, rfl, rfl, by decide +kernel, rfl, by decide +kernel, by decide +kernel⟩
abbrev N__law_cell_at : List Str := ["_law_script", "_law_k"]
theorem sc__law_cell_at : FnScope N__law_cell_at ["_law_script", "_law_k"] (defScope s__law_cell_at) := ⟨rfl, rfl, rfl, by decide +kernel, rfl, by decide +kernel, by decide +kernel⟩
abbrev N__law_mode : List Str := ["_law_number", "_law_letters"]
theorem sc__law_mode : FnScope N__law_mode ["_law_number"] (defScope s__law_mode) := ⟨rfl, rfl, rfl, by decide +kernel, rfl, by decide +kernel, by decide +kernel⟩
abbrev N__law_mark : List Str := ["_law_kept", "_law_add"]
theorem sc__law_mark : FnScope N__law_mark ["_law_kept", "_law_add"] (defScope s__law_mark) := ⟨rfl, rfl, rfl, by decide +kernel, rfl, by decide +kernel, by decide +kernel⟩
abbrev N_law : List Str := ["_law_script", "_law_lots", "_law_first", "_law_add", "_law_wood", "_law_start", "_law_modes", "_law_text", "_law_k", "_law_number", "_law_kept", "_law_after", "_law_leaf", "_law_shown", "_law_found", "_law_again"]
theorem sc_law : FnScope N_law ["_law_script"] (defScope s_law) := ⟨rfl, rfl, rfl, by decide +kernel, rfl, by decide +kernel, by decide +kernel⟩
structure Txt (K : PySem.W.Frag) (mg : Str → Option Value) (f : Nat → Addr) (fd : Nat → FuncData) (cl : Nat → Addr) : Prop where
  F_term_size : Fun K "term_size" "term_size" s_term_size (f 0) (fd 0)
  B_term_size : Binds K (fd 0) ["term"] []
  M_term_size : mg "term_size" = some (.ref (f 0))
  F_calls_of : Fun K "calls_of" "calls_of" s_calls_of (f 1) (fd 1)
  B_calls_of : Binds K (fd 1) ["term"] []
  M_calls_of : mg "calls_of" = some (.ref (f 1))
  F_keeps_mark : Fun K "keeps_mark" "keeps_mark" s_keeps_mark (f 2) (fd 2)
  B_keeps_mark : Binds K (fd 2) ["term"] []
  M_keeps_mark : mg "keeps_mark" = some (.ref (f 2))
  F_run_end : Fun K "run_end" "run_end" s_run_end (f 3) (fd 3)
  B_run_end : Binds K (fd 3) ["text", "start", "signs"] []
  M_run_end : mg "run_end" = some (.ref (f 3))
  F_word_end : Fun K "word_end" "word_end" s_word_end (f 4) (fd 4)
  B_word_end : Binds K (fd 4) ["text", "start"] []
  M_word_end : mg "word_end" = some (.ref (f 4))
  F_words : Fun K "words" "words" s_words (f 5) (fd 5)
  B_words : Binds K (fd 5) ["text"] []
  M_words : mg "words" = some (.ref (f 5))
  F_is_name : Fun K "is_name" "is_name" s_is_name (f 6) (fd 6)
  B_is_name : Binds K (fd 6) ["word"] []
  M_is_name : mg "is_name" = some (.ref (f 6))
  F_is_number : Fun K "is_number" "is_number" s_is_number (f 7) (fd 7)
  B_is_number : Binds K (fd 7) ["word"] []
  M_is_number : mg "is_number" = some (.ref (f 7))
  F_parted : Fun K "parted" "parted" s_parted (f 8) (fd 8)
  B_parted : Binds K (fd 8) ["row", "sign"] []
  M_parted : mg "parted" = some (.ref (f 8))
  F_rows_of : Fun K "rows_of" "rows_of" s_rows_of (f 9) (fd 9)
  B_rows_of : Binds K (fd 9) ["wood", "kind"] []
  M_rows_of : mg "rows_of" = some (.ref (f 9))
  F_wood_again : Fun K "wood_again" "wood_again" s_wood_again (f 10) (fd 10)
  B_wood_again : Binds K (fd 10) ["wood"] []
  M_wood_again : mg "wood_again" = some (.ref (f 10))
  F_calls_fit : Fun K "calls_fit" "calls_fit" s_calls_fit (f 11) (fd 11)
  B_calls_fit : Binds K (fd 11) ["term", "branches", "modes"] []
  M_calls_fit : mg "calls_fit" = some (.ref (f 11))
  F_is_sound : Fun K "is_sound" "is_sound" s_is_sound (f 12) (fd 12)
  B_is_sound : Binds K (fd 12) ["wood", "start", "modes"] []
  M_is_sound : mg "is_sound" = some (.ref (f 12))
  F_mark_at : Fun K "mark_at" "mark_at" s_mark_at (f 13) (fd 13)
  B_mark_at : Binds K (fd 13) ["row", "here"] []
  M_mark_at : mg "mark_at" = some (.ref (f 13))
  F_call_at : Fun K "call_at" "call_at" s_call_at (f 14) (fd 14)
  B_call_at : Binds K (fd 14) ["row", "here"] []
  M_call_at : mg "call_at" = some (.ref (f 14))
  F_term_at : Fun K "term_at" "term_at" s_term_at (f 15) (fd 15)
  B_term_at : Binds K (fd 15) ["row", "here", "depth"] []
  M_term_at : mg "term_at" = some (.ref (f 15))
  F_term_by : Fun K "term_by" "term_by" s_term_by (f 16) (fd 16)
  B_term_by : Binds K (fd 16) ["row"] []
  M_term_by : mg "term_by" = some (.ref (f 16))
  F_rule_by : Fun K "rule_by" "rule_by" s_rule_by (f 17) (fd 17)
  B_rule_by : Binds K (fd 17) ["part"] []
  M_rule_by : mg "rule_by" = some (.ref (f 17))
  F_numbered : Fun K "numbered" "numbered" s_numbered (f 18) (fd 18)
  B_numbered : Binds K (fd 18) ["term", "names"] []
  M_numbered : mg "numbered" = some (.ref (f 18))
  F_table_by : Fun K "table_by" "table_by" s_table_by (f 19) (fd 19)
  B_table_by : Binds K (fd 19) ["wood", "rules"] []
  M_table_by : mg "table_by" = some (.ref (f 19))
  F_modes_by : Fun K "modes_by" "modes_by" s_modes_by (f 20) (fd 20)
  B_modes_by : Binds K (fd 20) ["wood", "table"] []
  M_modes_by : mg "modes_by" = some (.ref (f 20))
  F_read_turning : Fun K "read_turning" "read_turning" s_read_turning (f 21) (fd 21)
  B_read_turning : Binds K (fd 21) ["wood", "text"] []
  M_read_turning : mg "read_turning" = some (.ref (f 21))
  F_mode_word : Fun K "mode_word" "mode_word" s_mode_word (f 22) (fd 22)
  B_mode_word : Binds K (fd 22) ["number"] []
  M_mode_word : mg "mode_word" = some (.ref (f 22))
  F_show_mark : Fun K "show_mark" "show_mark" s_show_mark (f 23) (fd 23)
  B_show_mark : Binds K (fd 23) ["kept", "add"] []
  M_show_mark : mg "show_mark" = some (.ref (f 23))
  F_show_term : Fun K "show_term" "show_term" s_show_term (f 24) (fd 24)
  B_show_term : Binds K (fd 24) ["term"] []
  M_show_term : mg "show_term" = some (.ref (f 24))
  F_show_turning : Fun K "show_turning" "show_turning" s_show_turning (f 25) (fd 25)
  B_show_turning : Binds K (fd 25) ["turning"] []
  M_show_turning : mg "show_turning" = some (.ref (f 25))
  F__law_cell_at : Fun K "_law_cell_at" "_law_cell_at" s__law_cell_at (f 26) (fd 26)
  B__law_cell_at : Binds K (fd 26) ["_law_script", "_law_k"] []
  M__law_cell_at : mg "_law_cell_at" = some (.ref (f 26))
  F__law_mode : Fun K "_law_mode" "_law_mode" s__law_mode (f 27) (fd 27)
  B__law_mode : Binds K (fd 27) ["_law_number"] []
  M__law_mode : mg "_law_mode" = some (.ref (f 27))
  F__law_mark : Fun K "_law_mark" "_law_mark" s__law_mark (f 28) (fd 28)
  B__law_mark : Binds K (fd 28) ["_law_kept", "_law_add"] []
  M__law_mark : mg "_law_mark" = some (.ref (f 28))
  F_law : Fun K "law" "law" s_law (f 29) (fd 29)
  B_law : Binds K (fd 29) ["_law_script"] []
  M_law : mg "law" = some (.ref (f 29))
  z_any : mg "any" = none
  z_enumerate : mg "enumerate" = none
  z_int : mg "int" = none
  z_isinstance : mg "isinstance" = none
  z_len : mg "len" = none
  z_list : mg "list" = none
  z_range : mg "range" = none
  z_str : mg "str" = none
  z_sum : mg "sum" = none
  z_tuple : mg "tuple" = none
  z_zip : mg "zip" = none
  k_FIGURES : ∃ u, mg "FIGURES" = some u ∧ RelV (.str "0123456789") u
  k_LETTERS : ∃ u, mg "LETTERS" = some u ∧ RelV (.str "abcdefghijklmnopqrstuvwxyz") u
  k_SIGNS : ∃ u, mg "SIGNS" = some u ∧ RelV (.str "();:=|*") u
  cx_NoText : ExcT K mg "NoText" (cl 0)
  cx_NoTurning : ExcT K mg "NoTurning" (cl 1)
structure Fns (P : Program) (w : World) (K : PySem.W.Frag) (mg : Str → Option Value) (base : Heap) (f : Nat → Addr) (fd : Nat → FuncData) (n : Nat) : Prop where
  g_term_size : FnOk P w K mg base (L2.CX P w) n (f 0) (fd 0) ["term"] (spM ⟨K, w⟩ mg 1 (mir n 0))
  g_calls_of : FnOk P w K mg base (L2.CX P w) n (f 1) (fd 1) ["term"] (spM ⟨K, w⟩ mg 1 (mir n 1))
  g_keeps_mark : FnOk P w K mg base (L2.CX P w) n (f 2) (fd 2) ["term"] (spM ⟨K, w⟩ mg 1 (mir n 2))
  g_run_end : FnOk P w K mg base (L2.CX P w) n (f 3) (fd 3) ["text", "start", "signs"] (spM ⟨K, w⟩ mg 3 (mir n 3))
  g_word_end : FnOk P w K mg base (L2.CX P w) n (f 4) (fd 4) ["text", "start"] (spM ⟨K, w⟩ mg 2 (mir n 4))
  g_words : FnOk P w K mg base (L2.CX P w) n (f 5) (fd 5) ["text"] (spM ⟨K, w⟩ mg 1 (mir n 5))
  g_is_name : FnOk P w K mg base (L2.CX P w) n (f 6) (fd 6) ["word"] (spM ⟨K, w⟩ mg 1 (mir n 6))
  g_is_number : FnOk P w K mg base (L2.CX P w) n (f 7) (fd 7) ["word"] (spM ⟨K, w⟩ mg 1 (mir n 7))
  g_parted : FnOk P w K mg base (L2.CX P w) n (f 8) (fd 8) ["row", "sign"] (spM ⟨K, w⟩ mg 2 (mir n 8))
  g_rows_of : FnOk P w K mg base (L2.CX P w) n (f 9) (fd 9) ["wood", "kind"] (spM ⟨K, w⟩ mg 2 (mir n 9))
  g_wood_again : FnOk P w K mg base (L2.CX P w) n (f 10) (fd 10) ["wood"] (spM ⟨K, w⟩ mg 1 (mir n 10))
  g_calls_fit : FnOk P w K mg base (L2.CX P w) n (f 11) (fd 11) ["term", "branches", "modes"] (spM ⟨K, w⟩ mg 3 (mir n 11))
  g_is_sound : FnOk P w K mg base (L2.CX P w) n (f 12) (fd 12) ["wood", "start", "modes"] (spM ⟨K, w⟩ mg 3 (mir n 12))
  g_mark_at : FnOk P w K mg base (L2.CX P w) n (f 13) (fd 13) ["row", "here"] (spM ⟨K, w⟩ mg 2 (mir n 13))
  g_call_at : FnOk P w K mg base (L2.CX P w) n (f 14) (fd 14) ["row", "here"] (spM ⟨K, w⟩ mg 2 (mir n 14))
  g_term_at : FnOk P w K mg base (L2.CX P w) n (f 15) (fd 15) ["row", "here", "depth"] (spM ⟨K, w⟩ mg 3 (mir n 15))
  g_term_by : FnOk P w K mg base (L2.CX P w) n (f 16) (fd 16) ["row"] (spM ⟨K, w⟩ mg 1 (mir n 16))
  g_rule_by : FnOk P w K mg base (L2.CX P w) n (f 17) (fd 17) ["part"] (spM ⟨K, w⟩ mg 1 (mir n 17))
  g_numbered : FnOk P w K mg base (L2.CX P w) n (f 18) (fd 18) ["term", "names"] (spM ⟨K, w⟩ mg 2 (mir n 18))
  g_table_by : FnOk P w K mg base (L2.CX P w) n (f 19) (fd 19) ["wood", "rules"] (spM ⟨K, w⟩ mg 2 (mir n 19))
  g_modes_by : FnOk P w K mg base (L2.CX P w) n (f 20) (fd 20) ["wood", "table"] (spM ⟨K, w⟩ mg 2 (mir n 20))
  g_read_turning : FnOk P w K mg base (L2.CX P w) n (f 21) (fd 21) ["wood", "text"] (spM ⟨K, w⟩ mg 2 (mir n 21))
  g_mode_word : FnOk P w K mg base (L2.CX P w) n (f 22) (fd 22) ["number"] (spM ⟨K, w⟩ mg 1 (mir n 22))
  g_show_mark : FnOk P w K mg base (L2.CX P w) n (f 23) (fd 23) ["kept", "add"] (spM ⟨K, w⟩ mg 2 (mir n 23))
  g_show_term : FnOk P w K mg base (L2.CX P w) n (f 24) (fd 24) ["term"] (spM ⟨K, w⟩ mg 1 (mir n 24))
  g_show_turning : FnOk P w K mg base (L2.CX P w) n (f 25) (fd 25) ["turning"] (spM ⟨K, w⟩ mg 1 (mir n 25))
  g__law_cell_at : FnOk P w K mg base (L2.CX P w) n (f 26) (fd 26) ["_law_script", "_law_k"] (spM ⟨K, w⟩ mg 2 (mir n 26))
  g__law_mode : FnOk P w K mg base (L2.CX P w) n (f 27) (fd 27) ["_law_number"] (spM ⟨K, w⟩ mg 1 (mir n 27))
  g__law_mark : FnOk P w K mg base (L2.CX P w) n (f 28) (fd 28) ["_law_kept", "_law_add"] (spM ⟨K, w⟩ mg 2 (mir n 28))
  g_law : FnOk P w K mg base (L2.CX P w) n (f 29) (fd 29) ["_law_script"] (spM ⟨K, w⟩ mg 1 (mir n 29))
section
variable {P : Program} {w : World} {K : PySem.W.Frag} {mg : Str → Option Value} {base : Heap} {f : Nat → Addr} {fd : Nat → FuncData} {cl : Nat → Addr} {n : Nat}
theorem ok_term_size (T : Txt K mg f fd cl) (G : Fns P w K mg base f fd n) : FnOk P w K mg base (L2.CX P w) (n + 1) (f 0) (fd 0) ["term"] (spM ⟨K, w⟩ mg 1 (mir (n + 1) 0)) :=
  mk_fn (l := 1) (fb := b_term_size (mir n)) T.F_term_size sc_term_size rfl (fun _ => rfl) fun cdv A outer s H E hr =>
    (dss_cons (ds_if (dt_eq (room_eq hr) (dv_df (df_ix (dl_df (df_var 0)) (dv_df df_int))) (dv_df df_str))
    (dss_one (ds_ret (de_df df_int)))
    dss_nil)
    (dss_one (ds_ret (de_add (dl_df df_int) (dl_de (de_sum rfl rfl T.z_sum (dal_cons (dl_de (de_lc (own := [("part", 1)]) (ix := [1]) rfl sc_term_size.nd (di_seq (df_ix (dl_df (df_var 0)) (dv_df df_int))) (blkOk_by (N := N_term_size) (sc := defScope s_term_size) (by decide +kernel)) (fun _ _ _ _ _ => (dg_name 1 sc_term_size.nd)) (fun _ _ _ _ _ => dts_nil) (fun _ _ _ _ _ => (de_call G.g_term_size takes0 hr rfl T.M_term_size T.F_term_size.kp T.B_term_size (da_cons (df_var 1) da_nil) (aCons_len (fun _ _ h => aNil_len h)))))) dal_nil)))))))
theorem ok_calls_of (T : Txt K mg f fd cl) (G : Fns P w K mg base f fd n) : FnOk P w K mg base (L2.CX P w) (n + 1) (f 1) (fd 1) ["term"] (spM ⟨K, w⟩ mg 1 (mir (n + 1) 1)) :=
  mk_fn (l := 2) (fb := b_calls_of (mir n)) T.F_calls_of sc_calls_of rfl (fun _ => rfl) fun cdv A outer s H E hr =>
    (dss_cons (ds_if (dt_eq (room_eq hr) (dv_df (df_ix (dl_df (df_var 0)) (dv_df df_int))) (dv_df df_str))
    (dss_one (ds_ret (de_lst (da_cons (df_tup (da_cons (df_ix (dl_df (df_var 0)) (dv_df df_int)) (da_cons (df_ix (dl_df (df_var 0)) (dv_df df_int)) da_nil))) da_nil))))
    dss_nil)
    (dss_cons (ds_set 1 sc_calls_of.nd (de_lst da_nil))
    (dss_cons (ds_for (ix := [2]) (passes_of rfl) rfl (di_seq (df_ix (dl_df (df_var 0)) (dv_df df_int))) (dg_name 2 sc_calls_of.nd)
    (dss_one (ds_ext 1 (dl_de (de_call G.g_calls_of (takes_of rfl rfl rfl rfl) hr rfl T.M_calls_of T.F_calls_of.kp T.B_calls_of (da_cons (df_var 2) da_nil) (aCons_len (fun _ _ h => aNil_len h)))))))
    (dss_one (ds_retV 1)))))
theorem ok_keeps_mark (T : Txt K mg f fd cl) (G : Fns P w K mg base f fd n) : FnOk P w K mg base (L2.CX P w) (n + 1) (f 2) (fd 2) ["term"] (spM ⟨K, w⟩ mg 1 (mir (n + 1) 2)) :=
  mk_fn (l := 1) (fb := b_keeps_mark (mir n)) T.F_keeps_mark sc_keeps_mark rfl (fun _ => rfl) fun cdv A outer s H E hr =>
    (dss_cons (ds_if (dt_eq (room_eq hr) (dv_df (df_ix (dl_df (df_var 0)) (dv_df df_int))) (dv_df df_str))
    (dss_one (ds_ret (de_df df_bl)))
    dss_nil)
    (dss_one (ds_ret (de_df (df_or (dv_df (df_ix (dl_df (df_var 0)) (dv_df df_int))) (df_one (df_de (de_any rfl rfl T.z_any (dal_cons (dl_de (de_lc (own := [("part", 1)]) (ix := [1]) rfl sc_keeps_mark.nd (di_seq (df_ix (dl_df (df_var 0)) (dv_df df_int))) (blkOk_by (N := N_keeps_mark) (sc := defScope s_keeps_mark) (by decide +kernel)) (fun _ _ _ _ _ => (dg_name 1 sc_keeps_mark.nd)) (fun _ _ _ _ _ => dts_nil) (fun _ _ _ _ _ => (de_call G.g_keeps_mark takes0 hr rfl T.M_keeps_mark T.F_keeps_mark.kp T.B_keeps_mark (da_cons (df_var 1) da_nil) (aCons_len (fun _ _ h => aNil_len h)))))) dal_nil)))))))))
theorem ok_run_end (T : Txt K mg f fd cl) (G : Fns P w K mg base f fd n) : FnOk P w K mg base (L2.CX P w) (n + 1) (f 3) (fd 3) ["text", "start", "signs"] (spM ⟨K, w⟩ mg 3 (mir (n + 1) 3)) :=
  mk_fn (l := 1) (fb := b_run_end (mir n)) T.F_run_end sc_run_end rfl (fun _ => rfl) fun cdv A outer s H E hr =>
    (dss_cons (ds_set 3 sc_run_end.nd (de_df (df_var 1)))
    (dss_cons (ds_while 1000000 (passes_of rfl) (dt_dw (dw_and (dt_lt (dv_df (df_var 3)) (dv_de (de_len rfl T.z_len (dal_cons (dl_df (df_var 0)) dal_nil)))) (dw_and1 (dt_in (room_eq hr) (dv_df (df_ix (dl_df (df_var 0)) (dv_df (df_var 3)))) (dv_df (df_var 2))))))
    (dss_one (ds_aug 3 iop_addA opS_addA sc_run_end.nd (dv_df df_int))))
    (dss_one (ds_ret (de_df (df_var 3))))))
theorem ok_word_end (T : Txt K mg f fd cl) (G : Fns P w K mg base f fd n) : FnOk P w K mg base (L2.CX P w) (n + 1) (f 4) (fd 4) ["text", "start"] (spM ⟨K, w⟩ mg 2 (mir (n + 1) 4)) :=
  mk_fn (l := 2) (fb := b_word_end (mir n)) T.F_word_end sc_word_end rfl (fun _ => rfl) fun cdv A outer s H E hr =>
    (dss_cons (ds_if (dt_in (room_eq hr) (dv_df (df_ix (dl_df (df_var 0)) (dv_df (df_var 1)))) (dv_df (df_gstr rfl T.k_SIGNS.choose_spec.1 T.k_SIGNS.choose_spec.2)))
    (dss_one (ds_ret (de_add (dl_df (df_var 1)) (dl_df df_int))))
    dss_nil)
    (dss_cons (ds_set 2 sc_word_end.nd (de_df (df_de (de_call G.g_run_end (takes_of rfl rfl rfl rfl) hr rfl T.M_run_end T.F_run_end.kp T.B_run_end (da_cons (df_var 0) (da_cons (df_var 1) (da_cons (df_gstr rfl T.k_LETTERS.choose_spec.1 T.k_LETTERS.choose_spec.2) da_nil))) (aCons_len (aCons_len (aCons_len (fun _ _ h => aNil_len h))))))))
    (dss_cons (ds_if (dt_gt (dv_df (df_var 2)) (dv_df (df_var 1)))
    (dss_cons (ds_if (dt_gt (dv_df (df_sub (dv_df (df_var 2)) (dv_df (df_var 1)))) (dv_df df_int))
    (dss_one (ds_raise rfl (takes_of rfl rfl rfl rfl) T.cx_NoText rfl))
    dss_nil)
    (dss_one (ds_ret (de_df (df_var 2)))))
    dss_nil)
    (dss_cons (ds_set 3 sc_word_end.nd (de_df (df_de (de_add (dl_df (df_var 1)) (dl_de (de_int rfl T.z_int (dal_cons (dl_df (df_eq (room_eq hr) (dv_df (df_ix (dl_df (df_var 0)) (dv_df (df_var 1)))) (dv_df df_str))) dal_nil)))))))
    (dss_cons (ds_set 2 sc_word_end.nd (de_df (df_de (de_call G.g_run_end (takes_of rfl rfl rfl rfl) hr rfl T.M_run_end T.F_run_end.kp T.B_run_end (da_cons (df_var 0) (da_cons (df_var 3) (da_cons (df_gstr rfl T.k_FIGURES.choose_spec.1 T.k_FIGURES.choose_spec.2) da_nil))) (aCons_len (aCons_len (aCons_len (fun _ _ h => aNil_len h))))))))
    (dss_cons (ds_if (dt_dw (dw_or (dt_eq (room_eq hr) (dv_df (df_var 2)) (dv_df (df_var 3))) (dw_or1 (dt_gt (dv_df (df_sub (dv_df (df_var 2)) (dv_df (df_var 3)))) (dv_df df_int)))))
    (dss_one (ds_raise rfl (takes_of rfl rfl rfl rfl) T.cx_NoText rfl))
    dss_nil)
    (dss_cons (ds_if (dt_dw (dw_and (dt_eq (room_eq hr) (dv_df (df_ix (dl_df (df_var 0)) (dv_df (df_var 3)))) (dv_df df_str)) (dw_and1 (dt_dw (dw_or (dt_gt (dv_df (df_sub (dv_df (df_var 2)) (dv_df (df_var 3)))) (dv_df df_int)) (dw_or1 (dt_gt (dv_df (df_var 3)) (dv_df (df_var 1)))))))))
    (dss_one (ds_raise rfl (takes_of rfl rfl rfl rfl) T.cx_NoText rfl))
    dss_nil)
    (dss_one (ds_ret (de_df (df_var 2)))))))))))
theorem ok_words (T : Txt K mg f fd cl) (G : Fns P w K mg base f fd n) : FnOk P w K mg base (L2.CX P w) (n + 1) (f 5) (fd 5) ["text"] (spM ⟨K, w⟩ mg 1 (mir (n + 1) 5)) :=
  mk_fn (l := 3) (fb := b_words (mir n)) T.F_words sc_words rfl (fun _ => rfl) fun cdv A outer s H E hr =>
    (dss_cons (ds_if (dt_not (dt_val (dv_df (df_isi (dv_df (df_var 0)) rfl T.z_isinstance rfl T.z_str rfl))))
    (dss_one (ds_raise rfl (takes_of rfl rfl rfl rfl) T.cx_NoText rfl))
    dss_nil)
    (dss_cons (ds_set 1 sc_words.nd (de_lst da_nil))
    (dss_cons (ds_set 2 sc_words.nd (de_df df_int))
    (dss_cons (ds_while 1000000 (passes_of rfl) (dt_lt (dv_df (df_var 2)) (dv_de (de_len rfl T.z_len (dal_cons (dl_df (df_var 0)) dal_nil))))
    (dss_cons (ds_if (dt_eq (room_eq hr) (dv_df (df_ix (dl_df (df_var 0)) (dv_df (df_var 2)))) (dv_df df_str))
    (dss_cons (ds_aug 2 iop_addA opS_addA sc_words.nd (dv_df df_int))
    (dss_one ds_cont))
    dss_nil)
    (dss_cons (ds_set 3 sc_words.nd (de_df (df_de (de_call G.g_word_end (takes_of rfl rfl rfl rfl) hr rfl T.M_word_end T.F_word_end.kp T.B_word_end (da_cons (df_var 0) (da_cons (df_var 2) da_nil)) (aCons_len (aCons_len (fun _ _ h => aNil_len h)))))))
    (dss_cons (ds_app 1 (de_slice (dl_df (df_var 0)) (do_some (dv_df (df_var 2))) (do_some (dv_df (df_var 3)))))
    (dss_one (ds_set 2 sc_words.nd (de_df (df_var 3))))))))
    (dss_one (ds_retV 1))))))
theorem ok_is_name (T : Txt K mg f fd cl) (G : Fns P w K mg base f fd n) : FnOk P w K mg base (L2.CX P w) (n + 1) (f 6) (fd 6) ["word"] (spM ⟨K, w⟩ mg 1 (mir (n + 1) 6)) :=
  mk_fn (l := 0) (fb := b_is_name (mir n)) T.F_is_name sc_is_name rfl (fun _ => rfl) fun cdv A outer s H E hr =>
    (dss_one (ds_ret (de_df (df_in (room_eq hr) (dv_df (df_ix (dl_df (df_var 0)) (dv_df df_int))) (dv_df (df_gstr rfl T.k_LETTERS.choose_spec.1 T.k_LETTERS.choose_spec.2))))))
theorem ok_is_number (T : Txt K mg f fd cl) (G : Fns P w K mg base f fd n) : FnOk P w K mg base (L2.CX P w) (n + 1) (f 7) (fd 7) ["word"] (spM ⟨K, w⟩ mg 1 (mir (n + 1) 7)) :=
  mk_fn (l := 0) (fb := b_is_number (mir n)) T.F_is_number sc_is_number rfl (fun _ => rfl) fun cdv A outer s H E hr =>
    (dss_one (ds_ret (de_df (df_in (room_eq hr) (dv_df (df_ix (dl_df (df_var 0)) (dv_df (df_neg (dv_df df_int))))) (dv_df (df_gstr rfl T.k_FIGURES.choose_spec.1 T.k_FIGURES.choose_spec.2))))))
theorem ok_parted (T : Txt K mg f fd cl) (G : Fns P w K mg base f fd n) : FnOk P w K mg base (L2.CX P w) (n + 1) (f 8) (fd 8) ["row", "sign"] (spM ⟨K, w⟩ mg 2 (mir (n + 1) 8)) :=
  mk_fn (l := 2) (fb := b_parted (mir n)) T.F_parted sc_parted rfl (fun _ => rfl) fun cdv A outer s H E hr =>
    (dss_cons (ds_set 2 sc_parted.nd (de_lstO (dao_cons (de_lst da_nil) dao_nil)))
    (dss_cons (ds_for (ix := [3]) (passes_of rfl) rfl (di_seq (df_var 0)) (dg_name 3 sc_parted.nd)
    (dss_one (ds_if (dt_eq (room_eq hr) (dv_df (df_var 3)) (dv_df (df_var 1)))
    (dss_one (ds_app 2 (de_lst da_nil)))
    (dss_one (ds_papp (dpt_ix (dpt_var 2) (dv_df (df_neg (dv_df df_int)))) (de_df (df_var 3)))))))
    (dss_one (ds_retV 2))))
theorem ok_rows_of (T : Txt K mg f fd cl) (G : Fns P w K mg base f fd n) : FnOk P w K mg base (L2.CX P w) (n + 1) (f 9) (fd 9) ["wood", "kind"] (spM ⟨K, w⟩ mg 2 (mir (n + 1) 9)) :=
  mk_fn (l := 2) (fb := b_rows_of (mir n)) T.F_rows_of sc_rows_of rfl (fun _ => rfl) fun cdv A outer s H E hr =>
    (dss_cons (ds_for (ix := [2, 3]) (passes_of rfl) rfl (di_seq (df_var 0)) (dg_tup (n := 2) rfl (dgs_cons (dg_name 2 sc_rows_of.nd) (dgs_cons (dg_name 3 sc_rows_of.nd) dgs_nil)))
    (dss_one (ds_if (dt_eq (room_eq hr) (dv_df (df_var 2)) (dv_df (df_var 1)))
    (dss_one (ds_ret (de_df (df_var 3))))
    dss_nil)))
    (dss_one (ds_ret (de_lst da_nil))))
theorem ok_wood_again (T : Txt K mg f fd cl) (G : Fns P w K mg base f fd n) : FnOk P w K mg base (L2.CX P w) (n + 1) (f 10) (fd 10) ["wood"] (spM ⟨K, w⟩ mg 1 (mir (n + 1) 10)) :=
  mk_fn (l := 2) (fb := b_wood_again (mir n)) T.F_wood_again sc_wood_again rfl (fun _ => rfl) fun cdv A outer s H E hr =>
    (dss_one (ds_ret (de_lc (own := [("kind", 1), ("rows", 2)]) (ix := [1, 2]) rfl sc_wood_again.nd (di_seq (df_var 0)) (blkOk_by (N := N_wood_again) (sc := defScope s_wood_again) (by decide +kernel)) (fun _ _ _ _ _ => (dg_tup (n := 2) rfl (dgs_cons (dg_name 1 sc_wood_again.nd) (dgs_cons (dg_name 2 sc_wood_again.nd) dgs_nil)))) (fun _ _ _ _ _ => dts_nil) (fun _ _ _ _ _ => (de_df (df_tup (da_cons (df_var 1) (da_cons (df_de (de_list rfl T.z_list (dal_cons (dl_df (df_var 2)) dal_nil))) da_nil))))))))
theorem ok_calls_fit (T : Txt K mg f fd cl) (G : Fns P w K mg base f fd n) : FnOk P w K mg base (L2.CX P w) (n + 1) (f 11) (fd 11) ["term", "branches", "modes"] (spM ⟨K, w⟩ mg 3 (mir (n + 1) 11)) :=
  mk_fn (l := 2) (fb := b_calls_fit (mir n)) T.F_calls_fit sc_calls_fit rfl (fun _ => rfl) fun cdv A outer s H E hr =>
    (dss_cons (ds_for (ix := [3, 4]) (passes_of rfl) rfl (di_seq (df_de (de_call G.g_calls_of (takes_of rfl rfl rfl rfl) hr rfl T.M_calls_of T.F_calls_of.kp T.B_calls_of (da_cons (df_var 0) da_nil) (aCons_len (fun _ _ h => aNil_len h))))) (dg_tup (n := 2) rfl (dgs_cons (dg_name 3 sc_calls_fit.nd) (dgs_cons (dg_name 4 sc_calls_fit.nd) dgs_nil)))
    (dss_cons (ds_if (dt_dw (dw_or (dt_lt (dv_df (df_var 3)) (dv_df df_int)) (dw_or (dt_ge (dv_df (df_var 3)) (dv_de (de_len rfl T.z_len (dal_cons (dl_df (df_var 2)) dal_nil)))) (dw_or (dt_lt (dv_df (df_var 4)) (dv_df df_int)) (dw_or1 (dt_ge (dv_df (df_var 4)) (dv_de (de_len rfl T.z_len (dal_cons (dl_df (df_var 1)) dal_nil)))))))))
    (dss_one (ds_ret (de_df df_bl)))
    dss_nil)
    (dss_one (ds_if (dt_ne (room_eq hr) (dv_df (df_ix (dl_df (df_ix (dl_df (df_var 2)) (dv_df (df_var 3)))) (dv_df df_int))) (dv_df (df_ix (dl_df (df_var 1)) (dv_df (df_var 4)))))
    (dss_one (ds_ret (de_df df_bl)))
    dss_nil))))
    (dss_one (ds_ret (de_df df_bl))))
theorem ok_is_sound (T : Txt K mg f fd cl) (G : Fns P w K mg base f fd n) : FnOk P w K mg base (L2.CX P w) (n + 1) (f 12) (fd 12) ["wood", "start", "modes"] (spM ⟨K, w⟩ mg 3 (mir (n + 1) 12)) :=
  mk_fn (l := 6) (fb := b_is_sound (mir n)) T.F_is_sound sc_is_sound rfl (fun _ => rfl) fun cdv A outer s H E hr =>
    (dss_cons (ds_if (dt_dw (dw_or (dt_val (dv_de (de_call G.g_keeps_mark (takes_of rfl rfl rfl rfl) hr rfl T.M_keeps_mark T.F_keeps_mark.kp T.B_keeps_mark (da_cons (df_var 1) da_nil) (aCons_len (fun _ _ h => aNil_len h))))) (dw_or1 (dt_not (dt_val (dv_de (de_call G.g_calls_fit (takes_of rfl rfl rfl rfl) hr rfl T.M_calls_fit T.F_calls_fit.kp T.B_calls_fit (da_cons (df_var 1) (da_cons (df_tup (da_cons (df_ix (dl_df (df_ix (dl_df (df_var 0)) (dv_df df_int))) (dv_df df_int)) da_nil)) (da_cons (df_var 2) da_nil))) (aCons_len (aCons_len (aCons_len (fun _ _ h => aNil_len h)))))))))))
    (dss_one (ds_ret (de_df df_bl)))
    dss_nil)
    (dss_cons (ds_setLcF 3 (own := [("kind", 4), ("rows", 5)]) (ix := [4, 5]) rfl sc_is_sound.nd (di_seq (df_var 0)) (blkOk_by (N := N_is_sound) (sc := defScope s_is_sound) (by decide +kernel)) (fun _ _ _ _ _ => (dg_tup (n := 2) rfl (dgs_cons (dg_name 4 sc_is_sound.nd) (dgs_cons (dg_name 5 sc_is_sound.nd) dgs_nil)))) (fun _ _ _ _ _ => dts_nil) (fun _ _ _ _ _ => (de_df (df_var 4))))
    (dss_cons (ds_for (ix := [4, 6]) (passes_of rfl) rfl (di_seq (df_var 2)) (dg_tup (n := 2) rfl (dgs_cons (dg_name 4 sc_is_sound.nd) (dgs_cons (dg_name 6 sc_is_sound.nd) dgs_nil)))
    (dss_cons (ds_set 5 sc_is_sound.nd (de_df (df_de (de_call G.g_rows_of (takes_of rfl rfl rfl rfl) hr rfl T.M_rows_of T.F_rows_of.kp T.B_rows_of (da_cons (df_var 0) (da_cons (df_var 4) da_nil)) (aCons_len (aCons_len (fun _ _ h => aNil_len h)))))))
    (dss_cons (ds_if (dt_dw (dw_or (dt_notIn (room_eq hr) (dv_df (df_var 4)) (dv_df (df_var 3))) (dw_or1 (dt_ne (room_eq hr) (dv_de (de_len rfl T.z_len (dal_cons (dl_df (df_var 6)) dal_nil))) (dv_de (de_len rfl T.z_len (dal_cons (dl_df (df_var 5)) dal_nil)))))))
    (dss_one (ds_ret (de_df df_bl)))
    dss_nil)
    (dss_one (ds_for (ix := [7, 8]) (passes_of rfl) rfl (di_zip rfl T.z_zip (da_cons (df_var 5) (da_cons (df_var 6) da_nil))) (dg_tup (n := 2) rfl (dgs_cons (dg_name 7 sc_is_sound.nd) (dgs_cons (dg_name 8 sc_is_sound.nd) dgs_nil)))
    (dss_one (ds_if (dt_not (dt_val (dv_de (de_call G.g_calls_fit (takes_of rfl rfl rfl rfl) hr rfl T.M_calls_fit T.F_calls_fit.kp T.B_calls_fit (da_cons (df_var 8) (da_cons (df_ix (dl_df (df_var 7)) (dv_df df_int)) (da_cons (df_var 2) da_nil))) (aCons_len (aCons_len (aCons_len (fun _ _ h => aNil_len h))))))))
    (dss_one (ds_ret (de_df df_bl)))
    dss_nil)))))))
    (dss_one (ds_ret (de_df df_bl))))))
theorem ok_mark_at (T : Txt K mg f fd cl) (G : Fns P w K mg base f fd n) : FnOk P w K mg base (L2.CX P w) (n + 1) (f 13) (fd 13) ["row", "here"] (spM ⟨K, w⟩ mg 2 (mir (n + 1) 13)) :=
  mk_fn (l := 1) (fb := b_mark_at (mir n)) T.F_mark_at sc_mark_at rfl (fun _ => rfl) fun cdv A outer s H E hr =>
    (dss_cons (ds_set 2 sc_mark_at.nd (de_df (df_and (dv_df (df_lt (dv_df (df_var 1)) (dv_de (de_len rfl T.z_len (dal_cons (dl_df (df_var 0)) dal_nil))))) (df_one (df_eq (room_eq hr) (dv_df (df_ix (dl_df (df_var 0)) (dv_df (df_var 1)))) (dv_df df_str))))))
    (dss_cons (ds_if (dt_val (dv_df (df_var 2)))
    (dss_one (ds_aug 1 iop_addA opS_addA sc_mark_at.nd (dv_df df_int)))
    dss_nil)
    (dss_cons (ds_if (dt_dw (dw_and (dt_lt (dv_df (df_var 1)) (dv_de (de_len rfl T.z_len (dal_cons (dl_df (df_var 0)) dal_nil)))) (dw_and1 (dt_val (dv_de (de_call G.g_is_number (takes_of rfl rfl rfl rfl) hr rfl T.M_is_number T.F_is_number.kp T.B_is_number (da_cons (df_ix (dl_df (df_var 0)) (dv_df (df_var 1))) da_nil) (aCons_len (fun _ _ h => aNil_len h))))))))
    (dss_one (ds_ret (de_df (df_tup (da_cons (df_var 2) (da_cons (df_de (de_int rfl T.z_int (dal_cons (dl_df (df_ix (dl_df (df_var 0)) (dv_df (df_var 1)))) dal_nil))) (da_cons (df_de (de_add (dl_df (df_var 1)) (dl_df df_int))) da_nil)))))))
    dss_nil)
    (dss_one (ds_ret (de_df (df_tup (da_cons (df_var 2) (da_cons df_int (da_cons (df_var 1) da_nil))))))))))
theorem ok_call_at (T : Txt K mg f fd cl) (G : Fns P w K mg base f fd n) : FnOk P w K mg base (L2.CX P w) (n + 1) (f 14) (fd 14) ["row", "here"] (spM ⟨K, w⟩ mg 2 (mir (n + 1) 14)) :=
  mk_fn (l := 0) (fb := b_call_at (mir n)) T.F_call_at sc_call_at rfl (fun _ => rfl) fun cdv A outer s H E hr =>
    (dss_cons (ds_if (dt_dw (dw_or (dt_ge (dv_de (de_add (dl_df (df_var 1)) (dl_df df_int))) (dv_de (de_len rfl T.z_len (dal_cons (dl_df (df_var 0)) dal_nil)))) (dw_or (dt_not (dt_val (dv_de (de_call G.g_is_name (takes_of rfl rfl rfl rfl) hr rfl T.M_is_name T.F_is_name.kp T.B_is_name (da_cons (df_ix (dl_df (df_var 0)) (dv_de (de_add (dl_df (df_var 1)) (dl_df df_int)))) da_nil) (aCons_len (fun _ _ h => aNil_len h)))))) (dw_or1 (dt_not (dt_val (dv_de (de_call G.g_is_number (takes_of rfl rfl rfl rfl) hr rfl T.M_is_number T.F_is_number.kp T.B_is_number (da_cons (df_ix (dl_df (df_var 0)) (dv_de (de_add (dl_df (df_var 1)) (dl_df df_int)))) da_nil) (aCons_len (fun _ _ h => aNil_len h))))))))))
    (dss_one (ds_raise rfl (takes_of rfl rfl rfl rfl) T.cx_NoText rfl))
    dss_nil)
    (dss_one (ds_ret (de_df (df_tup (da_cons (df_tup (da_cons df_str (da_cons (df_ix (dl_df (df_var 0)) (dv_de (de_add (dl_df (df_var 1)) (dl_df df_int)))) (da_cons (df_de (de_int rfl T.z_int (dal_cons (dl_df (df_ix (dl_df (df_var 0)) (dv_de (de_add (dl_df (df_var 1)) (dl_df df_int))))) dal_nil))) da_nil)))) (da_cons (df_de (de_add (dl_df (df_var 1)) (dl_df df_int))) da_nil)))))))
theorem ok_term_at (T : Txt K mg f fd cl) (G : Fns P w K mg base f fd n) : FnOk P w K mg base (L2.CX P w) (n + 1) (f 15) (fd 15) ["row", "here", "depth"] (spM ⟨K, w⟩ mg 3 (mir (n + 1) 15)) :=
  mk_fn (l := 5) (fb := b_term_at (mir n)) T.F_term_at sc_term_at rfl (fun _ => rfl) fun cdv A outer s H E hr =>
    (dss_cons (ds_if (dt_dw (dw_and (dt_lt (dv_df (df_var 1)) (dv_de (de_len rfl T.z_len (dal_cons (dl_df (df_var 0)) dal_nil)))) (dw_and1 (dt_eq (room_eq hr) (dv_df (df_ix (dl_df (df_var 0)) (dv_df (df_var 1)))) (dv_df df_str)))))
    (dss_one (ds_ret (de_call G.g_call_at (takes_of rfl rfl rfl rfl) hr rfl T.M_call_at T.F_call_at.kp T.B_call_at (da_cons (df_var 0) (da_cons (df_var 1) da_nil)) (aCons_len (aCons_len (fun _ _ h => aNil_len h))))))
    dss_nil)
    (dss_cons (ds_if (dt_dw (dw_or (dt_ge (dv_df (df_var 1)) (dv_de (de_len rfl T.z_len (dal_cons (dl_df (df_var 0)) dal_nil)))) (dw_or1 (dt_not (dt_val (dv_de (de_call G.g_is_name (takes_of rfl rfl rfl rfl) hr rfl T.M_is_name T.F_is_name.kp T.B_is_name (da_cons (df_ix (dl_df (df_var 0)) (dv_df (df_var 1))) da_nil) (aCons_len (fun _ _ h => aNil_len h)))))))))
    (dss_one (ds_raise rfl (takes_of rfl rfl rfl rfl) T.cx_NoText rfl))
    dss_nil)
    (dss_cons (ds_set 3 sc_term_at.nd (de_df (df_ix (dl_df (df_var 0)) (dv_df (df_var 1)))))
    (dss_cons (ds_asg (ix := [4, 5, 1]) (df_de (de_call G.g_mark_at (takes_of rfl rfl rfl rfl) hr rfl T.M_mark_at T.F_mark_at.kp T.B_mark_at (da_cons (df_var 0) (da_cons (df_de (de_add (dl_df (df_var 1)) (dl_df df_int))) da_nil)) (aCons_len (aCons_len (fun _ _ h => aNil_len h))))) (dg_tup (n := 3) rfl (dgs_cons (dg_name 4 sc_term_at.nd) (dgs_cons (dg_name 5 sc_term_at.nd) (dgs_cons (dg_name 1 sc_term_at.nd) dgs_nil)))))
    (dss_cons (ds_set 6 sc_term_at.nd (de_lst da_nil))
    (dss_cons (ds_if (dt_dw (dw_and (dt_lt (dv_df (df_var 1)) (dv_de (de_len rfl T.z_len (dal_cons (dl_df (df_var 0)) dal_nil)))) (dw_and1 (dt_eq (room_eq hr) (dv_df (df_ix (dl_df (df_var 0)) (dv_df (df_var 1)))) (dv_df df_str)))))
    (dss_cons (ds_if (dt_eq (room_eq hr) (dv_df (df_var 2)) (dv_df df_int))
    (dss_one (ds_raise rfl (takes_of rfl rfl rfl rfl) T.cx_NoText rfl))
    dss_nil)
    (dss_cons (ds_aug 1 iop_addA opS_addA sc_term_at.nd (dv_df df_int))
    (dss_cons (ds_while 1000000 (passes_of rfl) (dt_dw (dw_or (dt_ge (dv_df (df_var 1)) (dv_de (de_len rfl T.z_len (dal_cons (dl_df (df_var 0)) dal_nil)))) (dw_or1 (dt_ne (room_eq hr) (dv_df (df_ix (dl_df (df_var 0)) (dv_df (df_var 1)))) (dv_df df_str)))))
    (dss_cons (ds_asg (ix := [7, 1]) (df_de (de_call G.g_term_at (takes_of rfl rfl rfl rfl) hr rfl T.M_term_at T.F_term_at.kp T.B_term_at (da_cons (df_var 0) (da_cons (df_var 1) (da_cons (df_de (de_add (dl_df (df_var 2)) (dl_df df_int))) da_nil))) (aCons_len (aCons_len (aCons_len (fun _ _ h => aNil_len h)))))) (dg_tup (n := 2) rfl (dgs_cons (dg_name 7 sc_term_at.nd) (dgs_cons (dg_name 1 sc_term_at.nd) dgs_nil))))
    (dss_one (ds_app 6 (de_df (df_var 7))))))
    (dss_cons (ds_if (dt_eq (room_eq hr) (dv_dp (dp_var 6)) (dv_de (de_lst da_nil)))
    (dss_one (ds_raise rfl (takes_of rfl rfl rfl rfl) T.cx_NoText rfl))
    dss_nil)
    (dss_one (ds_aug 1 iop_addA opS_addA sc_term_at.nd (dv_df df_int)))))))
    dss_nil)
    (dss_one (ds_ret (de_df (df_tup (da_cons (df_tup (da_cons df_str (da_cons (df_var 3) (da_cons (df_var 4) (da_cons (df_var 5) (da_cons (df_de (de_tuple rfl T.z_tuple (dal_cons (dl_dp (dp_var 6)) dal_nil))) da_nil)))))) (da_cons (df_var 1) da_nil))))))))))))
theorem ok_term_by (T : Txt K mg f fd cl) (G : Fns P w K mg base f fd n) : FnOk P w K mg base (L2.CX P w) (n + 1) (f 16) (fd 16) ["row"] (spM ⟨K, w⟩ mg 1 (mir (n + 1) 16)) :=
  mk_fn (l := 2) (fb := b_term_by (mir n)) T.F_term_by sc_term_by rfl (fun _ => rfl) fun cdv A outer s H E hr =>
    (dss_cons (ds_asg (ix := [1, 2]) (df_de (de_call G.g_term_at (takes_of rfl rfl rfl rfl) hr rfl T.M_term_at T.F_term_at.kp T.B_term_at (da_cons (df_var 0) (da_cons df_int (da_cons df_int da_nil))) (aCons_len (aCons_len (aCons_len (fun _ _ h => aNil_len h)))))) (dg_tup (n := 2) rfl (dgs_cons (dg_name 1 sc_term_by.nd) (dgs_cons (dg_name 2 sc_term_by.nd) dgs_nil))))
    (dss_cons (ds_if (dt_ne (room_eq hr) (dv_df (df_var 2)) (dv_de (de_len rfl T.z_len (dal_cons (dl_df (df_var 0)) dal_nil))))
    (dss_one (ds_raise rfl (takes_of rfl rfl rfl rfl) T.cx_NoText rfl))
    dss_nil)
    (dss_one (ds_ret (de_df (df_var 1))))))
theorem ok_rule_by (T : Txt K mg f fd cl) (G : Fns P w K mg base f fd n) : FnOk P w K mg base (L2.CX P w) (n + 1) (f 17) (fd 17) ["part"] (spM ⟨K, w⟩ mg 1 (mir (n + 1) 17)) :=
  mk_fn (l := 1) (fb := b_rule_by (mir n)) T.F_rule_by sc_rule_by rfl (fun _ => rfl) fun cdv A outer s H E hr =>
    (dss_cons (ds_if (dt_dw (dw_or (dt_lt (dv_de (de_len rfl T.z_len (dal_cons (dl_df (df_var 0)) dal_nil))) (dv_df df_int)) (dw_or1 (dt_ne (room_eq hr) (dv_df (df_ix (dl_df (df_var 0)) (dv_df df_int))) (dv_df df_str)))))
    (dss_one (ds_raise rfl (takes_of rfl rfl rfl rfl) T.cx_NoText rfl))
    dss_nil)
    (dss_cons (ds_for (ix := [1]) (passes_of rfl) rfl (di_seq (df_de (de_slice (dl_df (df_var 0)) do_none (do_some (dv_df df_int))))) (dg_name 1 sc_rule_by.nd)
    (dss_one (ds_if (dt_not (dt_val (dv_de (de_call G.g_is_name (takes_of rfl rfl rfl rfl) hr rfl T.M_is_name T.F_is_name.kp T.B_is_name (da_cons (df_var 1) da_nil) (aCons_len (fun _ _ h => aNil_len h))))))
    (dss_one (ds_raise rfl (takes_of rfl rfl rfl rfl) T.cx_NoText rfl))
    dss_nil)))
    (dss_one (ds_ret (de_df (df_tup (da_cons (df_ix (dl_df (df_var 0)) (dv_df df_int)) (da_cons (df_ix (dl_df (df_var 0)) (dv_df df_int)) (da_cons (df_ix (dl_df (df_var 0)) (dv_df df_int)) (da_cons (df_de (de_call G.g_term_by (takes_of rfl rfl rfl rfl) hr rfl T.M_term_by T.F_term_by.kp T.B_term_by (da_cons (df_de (de_slice (dl_df (df_var 0)) (do_some (dv_df df_int)) do_none)) da_nil) (aCons_len (fun _ _ h => aNil_len h)))) da_nil))))))))))
theorem ok_numbered (T : Txt K mg f fd cl) (G : Fns P w K mg base f fd n) : FnOk P w K mg base (L2.CX P w) (n + 1) (f 18) (fd 18) ["term", "names"] (spM ⟨K, w⟩ mg 2 (mir (n + 1) 18)) :=
  mk_fn (l := 1) (fb := b_numbered (mir n)) T.F_numbered sc_numbered rfl (fun _ => rfl) fun cdv A outer s H E hr =>
    (dss_cons (ds_if (dt_eq (room_eq hr) (dv_df (df_ix (dl_df (df_var 0)) (dv_df df_int))) (dv_df df_str))
    (dss_cons (ds_if (dt_notIn (room_eq hr) (dv_df (df_ix (dl_df (df_var 0)) (dv_df df_int))) (dv_df (df_var 1)))
    (dss_one (ds_raise rfl (takes_of rfl rfl rfl rfl) T.cx_NoTurning rfl))
    dss_nil)
    (dss_one (ds_ret (de_df (df_tup (da_cons df_str (da_cons (df_lsIndex (dl_df (df_var 1)) (dv_df (df_ix (dl_df (df_var 0)) (dv_df df_int)))) (da_cons (df_ix (dl_df (df_var 0)) (dv_df df_int)) da_nil))))))))
    dss_nil)
    (dss_one (ds_ret (de_df (df_tup (da_cons df_str (da_cons (df_ix (dl_df (df_var 0)) (dv_df df_int)) (da_cons (df_ix (dl_df (df_var 0)) (dv_df df_int)) (da_cons (df_ix (dl_df (df_var 0)) (dv_df df_int)) (da_cons (df_de (de_tuple rfl T.z_tuple (dal_cons (dl_de (de_lc (own := [("part", 2)]) (ix := [2]) rfl sc_numbered.nd (di_seq (df_ix (dl_df (df_var 0)) (dv_df df_int))) (blkOk_by (N := N_numbered) (sc := defScope s_numbered) (by decide +kernel)) (fun _ _ _ _ _ => (dg_name 2 sc_numbered.nd)) (fun _ _ _ _ _ => dts_nil) (fun _ _ _ _ _ => (de_call G.g_numbered takes0 hr rfl T.M_numbered T.F_numbered.kp T.B_numbered (da_cons (df_var 2) (da_cons (df_var 1) da_nil)) (aCons_len (aCons_len (fun _ _ h => aNil_len h))))))) dal_nil))) da_nil))))))))))
theorem ok_table_by (T : Txt K mg f fd cl) (G : Fns P w K mg base f fd n) : FnOk P w K mg base (L2.CX P w) (n + 1) (f 19) (fd 19) ["wood", "rules"] (spM ⟨K, w⟩ mg 2 (mir (n + 1) 19)) :=
  mk_fn (l := 7) (fb := b_table_by (mir n)) T.F_table_by sc_table_by rfl (fun _ => rfl) fun cdv A outer s H E hr =>
    (dss_cons (ds_set 2 sc_table_by.nd de_dictNewK)
    (dss_cons (ds_for (ix := [3, 4, 5, 6]) (passes_of rfl) rfl (di_seq (df_var 1)) (dg_tup (n := 4) rfl (dgs_cons (dg_name 3 sc_table_by.nd) (dgs_cons (dg_name 4 sc_table_by.nd) (dgs_cons (dg_name 5 sc_table_by.nd) (dgs_cons (dg_name 6 sc_table_by.nd) dgs_nil)))))
    (dss_cons (ds_frz 7 (ds_if (dt_notIn (room_eq hr) (dv_df (df_var 5)) (dv_de (de_lc (own := [("told", 7), ("branches", 8)]) (ix := [7, 8]) rfl sc_table_by.nd (di_seq (df_de (de_call G.g_rows_of (takes_of rfl rfl rfl rfl) hr rfl T.M_rows_of T.F_rows_of.kp T.B_rows_of (da_cons (df_var 0) (da_cons (df_var 4) da_nil)) (aCons_len (aCons_len (fun _ _ h => aNil_len h)))))) (blkOk_by (N := N_table_by) (sc := defScope s_table_by) (by decide +kernel)) (fun _ _ _ _ _ => (dg_tup (n := 2) rfl (dgs_cons (dg_name 7 sc_table_by.nd) (dgs_cons (dg_name 8 sc_table_by.nd) dgs_nil)))) (fun _ _ _ _ _ => dts_nil) (fun _ _ _ _ _ => (de_df (df_var 7))))))
    (dss_one (ds_raise rfl (takes_of rfl rfl rfl rfl) T.cx_NoTurning rfl))
    dss_nil))
    (dss_borD 2 7 sc_table_by.nd (df_var 3) (de_tupO (dao_cons (de_df (df_var 4)) (dao_cons de_dictNew dao_nil)))
    (dss_cons (ds_if (dt_dw (dw_or (dt_ne (room_eq hr) (dv_df (df_pt (dpt_ix (dpt_var 7) (dv_df df_int)))) (dv_df (df_var 4))) (dw_or1 (dt_inPM (room_eq hr) (dv_df (df_var 5)) (dpt_ix (dpt_var 7) (dv_df df_int))))))
    (dss_one (ds_raise rfl (takes_of rfl rfl rfl rfl) T.cx_NoTurning rfl))
    dss_nil)
    (dss_one (ds_pputM (room_eq hr) (dpt_ix (dpt_var 7) (dv_df df_int)) (dv_df (df_var 5)) (df_var 6)))))))
    (dss_one (ds_retV 2))))
theorem ok_modes_by (T : Txt K mg f fd cl) (G : Fns P w K mg base f fd n) : FnOk P w K mg base (L2.CX P w) (n + 1) (f 20) (fd 20) ["wood", "table"] (spM ⟨K, w⟩ mg 2 (mir (n + 1) 20)) :=
  mk_fn (l := 7) (fb := b_modes_by (mir n)) T.F_modes_by sc_modes_by rfl (fun _ => rfl) fun cdv A outer s H E hr =>
    (dss_cons (ds_set 2 sc_modes_by.nd (de_df (df_de (de_listKD rfl rfl T.z_list (df_var 1)))))
    (dss_cons (ds_set 3 sc_modes_by.nd (de_lst da_nil))
    (dss_cons (ds_forVD (ix := [4, 5]) 1 (passes_of rfl) rfl (dg_tup (n := 2) rfl (dgs_cons (dg_name 4 sc_modes_by.nd) (dgs_cons (dg_name 5 sc_modes_by.nd) dgs_nil)))
    (dss_cons (ds_set 6 sc_modes_by.nd (de_lst da_nil))
    (dss_cons (ds_for (ix := [7, 8]) (passes_of rfl) rfl (di_seq (df_de (de_call G.g_rows_of takes0 hr rfl T.M_rows_of T.F_rows_of.kp T.B_rows_of (da_cons (df_var 0) (da_cons (df_var 4) da_nil)) (aCons_len (aCons_len (fun _ _ h => aNil_len h)))))) (dg_tup (n := 2) rfl (dgs_cons (dg_name 7 sc_modes_by.nd) (dgs_cons (dg_name 8 sc_modes_by.nd) dgs_nil)))
    (dss_cons (ds_if (dt_notInDD (room_eq hr) (dv_df (df_var 7)) (dv_df (df_var 5)))
    (dss_one (ds_raise rfl takes0 T.cx_NoTurning rfl))
    dss_nil)
    (dss_one (ds_app 6 (de_call G.g_numbered takes0 hr rfl T.M_numbered T.F_numbered.kp T.B_numbered (da_cons (df_getD (room_eq hr) (df_var 5) (dv_df (df_var 7))) (da_cons (df_var 2) da_nil)) (aCons_len (aCons_len (fun _ _ h => aNil_len h))))))))
    (dss_one (ds_frz 6 (ds_app 3 (de_df (df_tup (da_cons (df_var 4) (da_cons (df_var 6) da_nil))))))))))
    (dss_one (ds_retV 3)))))
theorem ok_read_turning (T : Txt K mg f fd cl) (G : Fns P w K mg base f fd n) : FnOk P w K mg base (L2.CX P w) (n + 1) (f 21) (fd 21) ["wood", "text"] (spM ⟨K, w⟩ mg 2 (mir (n + 1) 21)) :=
  mk_fn (l := 8) (fb := b_read_turning (mir n)) T.F_read_turning sc_read_turning rfl (fun _ => rfl) fun cdv A outer s H E hr =>
    (dss_cons (ds_set 2 sc_read_turning.nd (de_df (df_de (de_call G.g_parted (takes_of rfl rfl rfl rfl) hr rfl T.M_parted T.F_parted.kp T.B_parted (da_cons (df_de (de_call G.g_words (takes_of rfl rfl rfl rfl) hr rfl T.M_words T.F_words.kp T.B_words (da_cons (df_var 1) da_nil) (aCons_len (fun _ _ h => aNil_len h)))) (da_cons df_str da_nil)) (aCons_len (aCons_len (fun _ _ h => aNil_len h)))))))
    (dss_cons (ds_set 3 sc_read_turning.nd (de_df (df_de (de_call G.g_term_by (takes_of rfl rfl rfl rfl) hr rfl T.M_term_by T.F_term_by.kp T.B_term_by (da_cons (df_ix (dl_df (df_var 2)) (dv_df df_int)) da_nil) (aCons_len (fun _ _ h => aNil_len h))))))
    (dss_cons (ds_setLcF 4 (own := [("part", 5)]) (ix := [5]) rfl sc_read_turning.nd (di_seq (df_de (de_slice (dl_df (df_var 2)) (do_some (dv_df df_int)) do_none))) (blkOk_by (N := N_read_turning) (sc := defScope s_read_turning) (by decide +kernel)) (fun _ _ _ _ _ => (dg_name 5 sc_read_turning.nd)) (fun _ _ _ _ _ => dts_nil) (fun _ _ _ _ _ => (de_call G.g_rule_by takes0 hr rfl T.M_rule_by T.F_rule_by.kp T.B_rule_by (da_cons (df_var 5) da_nil) (aCons_len (fun _ _ h => aNil_len h)))))
    (dss_cons (ds_set 6 sc_read_turning.nd (de_df (df_de (de_add (dl_de (de_call G.g_term_size (takes_of rfl rfl rfl rfl) hr rfl T.M_term_size T.F_term_size.kp T.B_term_size (da_cons (df_var 3) da_nil) (aCons_len (fun _ _ h => aNil_len h)))) (dl_de (de_sum rfl rfl T.z_sum (dal_cons (dl_de (de_lc (own := [("rule", 7)]) (ix := [7]) rfl sc_read_turning.nd (di_seq (df_var 4)) (blkOk_by (N := N_read_turning) (sc := defScope s_read_turning) (by decide +kernel)) (fun _ _ _ _ _ => (dg_name 7 sc_read_turning.nd)) (fun _ _ _ _ _ => dts_nil) (fun _ _ _ _ _ => (de_call G.g_term_size takes0 hr rfl T.M_term_size T.F_term_size.kp T.B_term_size (da_cons (df_ix (dl_df (df_var 7)) (dv_df df_int)) da_nil) (aCons_len (fun _ _ h => aNil_len h)))))) dal_nil)))))))
    (dss_cons (ds_if (dt_dw (dw_or (dt_gt (dv_de (de_len rfl T.z_len (dal_cons (dl_df (df_var 4)) dal_nil))) (dv_df df_int)) (dw_or1 (dt_gt (dv_df (df_var 6)) (dv_df df_int)))))
    (dss_one (ds_raise rfl (takes_of rfl rfl rfl rfl) T.cx_NoText rfl))
    dss_nil)
    (dss_cons (ds_set 8 sc_read_turning.nd (de_df (df_de (de_call G.g_table_by (takes_of rfl rfl rfl rfl) hr rfl T.M_table_by T.F_table_by.kp T.B_table_by (da_cons (df_var 0) (da_cons (df_var 4) da_nil)) (aCons_len (aCons_len (fun _ _ h => aNil_len h)))))))
    (dss_cons (ds_set 9 sc_read_turning.nd (de_df (df_de (de_call G.g_modes_by (takes_of rfl rfl rfl rfl) hr rfl T.M_modes_by T.F_modes_by.kp T.B_modes_by (da_cons (df_var 0) (da_cons (df_var 8) da_nil)) (aCons_len (aCons_len (fun _ _ h => aNil_len h)))))))
    (dss_cons (ds_set 3 sc_read_turning.nd (de_df (df_de (de_call G.g_numbered (takes_of rfl rfl rfl rfl) hr rfl T.M_numbered T.F_numbered.kp T.B_numbered (da_cons (df_var 3) (da_cons (df_de (de_listKD rfl rfl T.z_list (df_var 8))) da_nil)) (aCons_len (aCons_len (fun _ _ h => aNil_len h)))))))
    (dss_cons (ds_if (dt_not (dt_val (dv_de (de_call G.g_is_sound (takes_of rfl rfl rfl rfl) hr rfl T.M_is_sound T.F_is_sound.kp T.B_is_sound (da_cons (df_var 0) (da_cons (df_var 3) (da_cons (df_var 9) da_nil))) (aCons_len (aCons_len (aCons_len (fun _ _ h => aNil_len h))))))))
    (dss_one (ds_raise rfl (takes_of rfl rfl rfl rfl) T.cx_NoTurning rfl))
    dss_nil)
    (dss_one (ds_ret (de_df (df_tup (da_cons (df_de (de_call G.g_wood_again (takes_of rfl rfl rfl rfl) hr rfl T.M_wood_again T.F_wood_again.kp T.B_wood_again (da_cons (df_var 0) da_nil) (aCons_len (fun _ _ h => aNil_len h)))) (da_cons (df_var 3) (da_cons (df_var 9) da_nil))))))))))))))))
theorem ok_mode_word (T : Txt K mg f fd cl) (G : Fns P w K mg base f fd n) : FnOk P w K mg base (L2.CX P w) (n + 1) (f 22) (fd 22) ["number"] (spM ⟨K, w⟩ mg 1 (mir (n + 1) 22)) :=
  mk_fn (l := 1) (fb := b_mode_word (mir n)) T.F_mode_word sc_mode_word rfl (fun _ => rfl) fun cdv A outer s H E hr =>
    (dss_cons (ds_set 1 sc_mode_word.nd (de_df (df_ix (dl_df (df_gstr rfl T.k_LETTERS.choose_spec.1 T.k_LETTERS.choose_spec.2)) (dv_df (df_mod (dv_df (df_var 0)) (dv_df df_int))))))
    (dss_cons (ds_while 1000000 (passes_of rfl) (dt_ge (dv_df (df_var 0)) (dv_df df_int))
    (dss_cons (ds_set 0 sc_mode_word.nd (de_df (df_div (dv_df (df_var 0)) (dv_df df_int))))
    (dss_one (ds_set 1 sc_mode_word.nd (de_df (df_de (de_add (dl_df (df_ix (dl_df (df_gstr rfl T.k_LETTERS.choose_spec.1 T.k_LETTERS.choose_spec.2)) (dv_df (df_mod (dv_df (df_var 0)) (dv_df df_int))))) (dl_df (df_var 1)))))))))
    (dss_one (ds_ret (de_df (df_var 1))))))
theorem ok_show_mark (T : Txt K mg f fd cl) (G : Fns P w K mg base f fd n) : FnOk P w K mg base (L2.CX P w) (n + 1) (f 23) (fd 23) ["kept", "add"] (spM ⟨K, w⟩ mg 2 (mir (n + 1) 23)) :=
  mk_fn (l := 1) (fb := b_show_mark (mir n)) T.F_show_mark sc_show_mark rfl (fun _ => rfl) fun cdv A outer s H E hr =>
    (dss_cons (ds_set 2 sc_show_mark.nd (de_df (df_if (dt_val (dv_df (df_var 0))) df_str df_str)))
    (dss_cons (ds_if (dt_ne (room_eq hr) (dv_df (df_var 1)) (dv_df df_int))
    (dss_one (ds_aug 2 iop_addA opS_addA sc_show_mark.nd (dv_de (de_str rfl T.z_str (dal_cons (dl_df (df_var 1)) dal_nil)))))
    dss_nil)
    (dss_one (ds_ret (de_df (df_var 2))))))
theorem ok_show_term (T : Txt K mg f fd cl) (G : Fns P w K mg base f fd n) : FnOk P w K mg base (L2.CX P w) (n + 1) (f 24) (fd 24) ["term"] (spM ⟨K, w⟩ mg 1 (mir (n + 1) 24)) :=
  mk_fn (l := 2) (fb := b_show_term (mir n)) T.F_show_term sc_show_term rfl (fun _ => rfl) fun cdv A outer s H E hr =>
    (dss_cons (ds_if (dt_eq (room_eq hr) (dv_df (df_ix (dl_df (df_var 0)) (dv_df df_int))) (dv_df df_str))
    (dss_one (ds_ret (de_add (dl_de (de_add (dl_df df_str) (dl_de (de_call G.g_mode_word (takes_of rfl rfl rfl rfl) hr rfl T.M_mode_word T.F_mode_word.kp T.B_mode_word (da_cons (df_ix (dl_df (df_var 0)) (dv_df df_int)) da_nil) (aCons_len (fun _ _ h => aNil_len h)))))) (dl_de (de_str rfl T.z_str (dal_cons (dl_df (df_ix (dl_df (df_var 0)) (dv_df df_int))) dal_nil))))))
    dss_nil)
    (dss_cons (ds_set 1 sc_show_term.nd (de_df (df_de (de_add (dl_df (df_ix (dl_df (df_var 0)) (dv_df df_int))) (dl_de (de_call G.g_show_mark (takes_of rfl rfl rfl rfl) hr rfl T.M_show_mark T.F_show_mark.kp T.B_show_mark (da_cons (df_ix (dl_df (df_var 0)) (dv_df df_int)) (da_cons (df_ix (dl_df (df_var 0)) (dv_df df_int)) da_nil)) (aCons_len (aCons_len (fun _ _ h => aNil_len h)))))))))
    (dss_cons (ds_if (dt_gt (dv_de (de_len rfl T.z_len (dal_cons (dl_df (df_ix (dl_df (df_var 0)) (dv_df df_int))) dal_nil))) (dv_df df_int))
    (dss_one (ds_aug 1 iop_addA opS_addA sc_show_term.nd (dv_de (de_add (dl_de (de_add (dl_df df_str) (dl_df (df_join (dv_df df_str) (dl_de (de_lc (own := [("part", 2)]) (ix := [2]) rfl sc_show_term.nd (di_seq (df_ix (dl_df (df_var 0)) (dv_df df_int))) (blkOk_by (N := N_show_term) (sc := defScope s_show_term) (by decide +kernel)) (fun _ _ _ _ _ => (dg_name 2 sc_show_term.nd)) (fun _ _ _ _ _ => dts_nil) (fun _ _ _ _ _ => (de_call G.g_show_term takes0 hr rfl T.M_show_term T.F_show_term.kp T.B_show_term (da_cons (df_var 2) da_nil) (aCons_len (fun _ _ h => aNil_len h)))))))))) (dl_df df_str)))))
    dss_nil)
    (dss_one (ds_ret (de_df (df_var 1)))))))
theorem ok_show_turning (T : Txt K mg f fd cl) (G : Fns P w K mg base f fd n) : FnOk P w K mg base (L2.CX P w) (n + 1) (f 25) (fd 25) ["turning"] (spM ⟨K, w⟩ mg 1 (mir (n + 1) 25)) :=
  mk_fn (l := 6) (fb := b_show_turning (mir n)) T.F_show_turning sc_show_turning rfl (fun _ => rfl) fun cdv A outer s H E hr =>
    (dss_cons (ds_set 1 sc_show_turning.nd (de_lst (da_cons (df_de (de_call G.g_show_term (takes_of rfl rfl rfl rfl) hr rfl T.M_show_term T.F_show_term.kp T.B_show_term (da_cons (df_ix (dl_df (df_var 0)) (dv_df df_int)) da_nil) (aCons_len (fun _ _ h => aNil_len h)))) da_nil)))
    (dss_cons (ds_for (ix := [2, 3]) (passes_of rfl) rfl (di_enum rfl T.z_enumerate (da_cons (df_ix (dl_df (df_var 0)) (dv_df df_int)) da_nil)) (dg_tup (n := 2) rfl (dgs_cons (dg_name 2 sc_show_turning.nd) (dgs_cons (dg_name 3 sc_show_turning.nd) dgs_nil)))
    (dss_cons (ds_set 4 sc_show_turning.nd (de_df (df_de (de_add (dl_de (de_add (dl_de (de_add (dl_de (de_call G.g_mode_word (takes_of rfl rfl rfl rfl) hr rfl T.M_mode_word T.F_mode_word.kp T.B_mode_word (da_cons (df_var 2) da_nil) (aCons_len (fun _ _ h => aNil_len h)))) (dl_df df_str))) (dl_df (df_ix (dl_df (df_var 3)) (dv_df df_int))))) (dl_df df_str)))))
    (dss_one (ds_for (ix := [5, 6]) (passes_of rfl) rfl (di_zip rfl T.z_zip (da_cons (df_de (de_call G.g_rows_of (takes_of rfl rfl rfl rfl) hr rfl T.M_rows_of T.F_rows_of.kp T.B_rows_of (da_cons (df_ix (dl_df (df_var 0)) (dv_df df_int)) (da_cons (df_ix (dl_df (df_var 3)) (dv_df df_int)) da_nil)) (aCons_len (aCons_len (fun _ _ h => aNil_len h))))) (da_cons (df_ix (dl_df (df_var 3)) (dv_df df_int)) da_nil))) (dg_tup (n := 2) rfl (dgs_cons (dg_name 5 sc_show_turning.nd) (dgs_cons (dg_name 6 sc_show_turning.nd) dgs_nil)))
    (dss_one (ds_app 1 (de_add (dl_de (de_add (dl_de (de_add (dl_df (df_var 4)) (dl_df (df_ix (dl_df (df_var 5)) (dv_df df_int))))) (dl_df df_str))) (dl_de (de_call G.g_show_term (takes_of rfl rfl rfl rfl) hr rfl T.M_show_term T.F_show_term.kp T.B_show_term (da_cons (df_var 6) da_nil) (aCons_len (fun _ _ h => aNil_len h)))))))))))
    (dss_one (ds_ret (de_df (df_join (dv_df df_str) (dl_dp (dp_var 1))))))))
theorem ok__law_cell_at (T : Txt K mg f fd cl) (G : Fns P w K mg base f fd n) : FnOk P w K mg base (L2.CX P w) (n + 1) (f 26) (fd 26) ["_law_script", "_law_k"] (spM ⟨K, w⟩ mg 2 (mir (n + 1) 26)) :=
  mk_fn (l := 0) (fb := b__law_cell_at (mir n)) T.F__law_cell_at sc__law_cell_at rfl (fun _ => rfl) fun cdv A outer s H E hr =>
    (dss_cons (ds_if (dt_lt (dv_df (df_var 1)) (dv_de (de_len rfl T.z_len (dal_cons (dl_df (df_var 0)) dal_nil))))
    (dss_one (ds_ret (de_df (df_ix (dl_df (df_var 0)) (dv_df (df_var 1))))))
    dss_nil)
    (dss_one (ds_ret (de_df df_int))))
theorem ok__law_mode (T : Txt K mg f fd cl) (G : Fns P w K mg base f fd n) : FnOk P w K mg base (L2.CX P w) (n + 1) (f 27) (fd 27) ["_law_number"] (spM ⟨K, w⟩ mg 1 (mir (n + 1) 27)) :=
  mk_fn (l := 1) (fb := b__law_mode (mir n)) T.F__law_mode sc__law_mode rfl (fun _ => rfl) fun cdv A outer s H E hr =>
    (dss_cons (ds_set 1 sc__law_mode.nd (de_df df_str))
    (dss_cons (ds_if (dt_lt (dv_df (df_var 0)) (dv_df df_int))
    (dss_one (ds_ret (de_df (df_ix (dl_df (df_var 1)) (dv_df (df_var 0))))))
    dss_nil)
    (dss_one (ds_ret (de_add (dl_df (df_ix (dl_df (df_var 1)) (dv_df (df_div (dv_df (df_var 0)) (dv_df df_int))))) (dl_df (df_ix (dl_df (df_var 1)) (dv_df (df_mod (dv_df (df_var 0)) (dv_df df_int))))))))))
theorem ok__law_mark (T : Txt K mg f fd cl) (G : Fns P w K mg base f fd n) : FnOk P w K mg base (L2.CX P w) (n + 1) (f 28) (fd 28) ["_law_kept", "_law_add"] (spM ⟨K, w⟩ mg 2 (mir (n + 1) 28)) :=
  mk_fn (l := 0) (fb := b__law_mark (mir n)) T.F__law_mark sc__law_mark rfl (fun _ => rfl) fun cdv A outer s H E hr =>
    (dss_one (ds_ret (de_add (dl_df (df_mulZ (dv_df df_str) (dv_de (de_int rfl T.z_int (dal_cons (dl_df (df_var 0)) dal_nil))))) (dl_df (df_mulZ (dv_de (de_str rfl T.z_str (dal_cons (dl_df (df_var 1)) dal_nil))) (dv_de (de_int rfl T.z_int (dal_cons (dl_df (df_ne (room_eq hr) (dv_df (df_var 1)) (dv_df df_int))) dal_nil))))))))
theorem ok_law (T : Txt K mg f fd cl) (G : Fns P w K mg base f fd n) : FnOk P w K mg base (L2.CX P w) (n + 1) (f 29) (fd 29) ["_law_script"] (spM ⟨K, w⟩ mg 1 (mir (n + 1) 29)) :=
  mk_fn (l := 15) (fb := b_law (mir n)) T.F_law sc_law rfl (fun _ => rfl) fun cdv A outer s H E hr =>
    (dss_cons (ds_set 1 sc_law.nd (de_df (df_de (de_add (dl_df df_int) (dl_df (df_mod (dv_de (de_call G.g__law_cell_at (takes_of rfl rfl rfl rfl) hr rfl T.M__law_cell_at T.F__law_cell_at.kp T.B__law_cell_at (da_cons (df_var 0) (da_cons df_int da_nil)) (aCons_len (aCons_len (fun _ _ h => aNil_len h))))) (dv_df df_int)))))))
    (dss_cons (ds_if (dt_eq (room_eq hr) (dv_df (df_mod (dv_df (df_div (dv_de (de_call G.g__law_cell_at (takes_of rfl rfl rfl rfl) hr rfl T.M__law_cell_at T.F__law_cell_at.kp T.B__law_cell_at (da_cons (df_var 0) (da_cons df_int da_nil)) (aCons_len (aCons_len (fun _ _ h => aNil_len h))))) (dv_df df_int))) (dv_df df_int))) (dv_df df_int))
    (dss_one (ds_set 1 sc_law.nd (de_df (df_de (de_add (dl_df df_int) (dl_df (df_mod (dv_df (df_var 1)) (dv_df df_int))))))))
    dss_nil)
    (dss_cons (ds_set 2 sc_law.nd (de_df (df_mod (dv_de (de_call G.g__law_cell_at (takes_of rfl rfl rfl rfl) hr rfl T.M__law_cell_at T.F__law_cell_at.kp T.B__law_cell_at (da_cons (df_var 0) (da_cons df_int da_nil)) (aCons_len (aCons_len (fun _ _ h => aNil_len h))))) (dv_df (df_var 1)))))
    (dss_cons (ds_set 3 sc_law.nd (de_df (df_sub (dv_df (df_mod (dv_de (de_call G.g__law_cell_at (takes_of rfl rfl rfl rfl) hr rfl T.M__law_cell_at T.F__law_cell_at.kp T.B__law_cell_at (da_cons (df_var 0) (da_cons df_int da_nil)) (aCons_len (aCons_len (fun _ _ h => aNil_len h))))) (dv_df (df_pow (dv_df df_int) (dv_df df_int))))) (dv_df (df_pow (dv_df df_int) (dv_df df_int))))))
    (dss_cons (ds_set 4 sc_law.nd (de_df (df_de (de_lst (da_cons (df_tup (da_cons df_str (da_cons (df_de (de_lst (da_cons (df_tup (da_cons df_str (da_cons (df_tup da_nil) da_nil))) (da_cons (df_tup (da_cons df_str (da_cons (df_tup (da_cons df_str da_nil)) da_nil))) da_nil)))) da_nil))) da_nil)))))
    (dss_cons (ds_set 5 sc_law.nd (de_df (df_tup (da_cons df_str (da_cons df_str (da_cons df_bl (da_cons (df_var 3) (da_cons (df_tup (da_cons (df_tup (da_cons df_str (da_cons (df_var 2) (da_cons df_int da_nil)))) da_nil)) da_nil))))))))
    (dss_cons (ds_set 6 sc_law.nd (de_lst da_nil))
    (dss_cons (ds_set 7 sc_law.nd (de_df (df_de (de_add (dl_de (de_add (dl_de (de_add (dl_de (de_add (dl_df df_str) (dl_de (de_call G.g__law_mark (takes_of rfl rfl rfl rfl) hr rfl T.M__law_mark T.F__law_mark.kp T.B__law_mark (da_cons df_bl (da_cons (df_var 3) da_nil)) (aCons_len (aCons_len (fun _ _ h => aNil_len h))))))) (dl_df df_str))) (dl_de (de_call G.g__law_mode (takes_of rfl rfl rfl rfl) hr rfl T.M__law_mode T.F__law_mode.kp T.B__law_mode (da_cons (df_var 2) da_nil) (aCons_len (fun _ _ h => aNil_len h)))))) (dl_df df_str)))))
    (dss_cons (ds_for (ix := [8]) (passes_of rfl) rfl (di_range1 rfl T.z_range (da_cons (df_var 1) da_nil)) (dg_name 8 sc_law.nd)
    (dss_cons (ds_set 9 sc_law.nd (de_df (df_if (dt_gt (dv_de (de_len rfl T.z_len (dal_cons (dl_df (df_var 0)) dal_nil))) (dv_df df_int)) (df_mod (dv_df (df_ix (dl_df (df_var 0)) (dv_df (df_mod (dv_de (de_add (dl_df df_int) (dl_df (df_var 8)))) (dv_de (de_len rfl T.z_len (dal_cons (dl_df (df_var 0)) dal_nil))))))) (dv_df (df_pow (dv_df df_int) (dv_df df_int)))) (df_var 8))))
    (dss_cons (ds_set 10 sc_law.nd (de_df (df_eq (room_eq hr) (dv_df (df_mod (dv_df (df_var 9)) (dv_df df_int))) (dv_df df_int))))
    (dss_cons (ds_set 11 sc_law.nd (de_df (df_mod (dv_de (de_add (dl_df (df_var 8)) (dl_df df_int))) (dv_df (df_var 1)))))
    (dss_cons (ds_if (dt_eq (room_eq hr) (dv_df (df_mod (dv_df (df_var 9)) (dv_df df_int))) (dv_df df_int))
    (dss_one (ds_set 11 sc_law.nd (de_df (df_mod (dv_df (df_div (dv_df (df_var 9)) (dv_df df_int))) (dv_df (df_var 1))))))
    dss_nil)
    (dss_cons (ds_set 12 sc_law.nd (de_df (df_tup (da_cons df_str (da_cons df_str (da_cons (df_var 10) (da_cons (df_sub (dv_df (df_var 9)) (dv_df (df_pow (dv_df df_int) (dv_df df_int)))) (da_cons (df_tup da_nil) da_nil))))))))
    (dss_cons (ds_app 6 (de_df (df_tup (da_cons df_str (da_cons (df_de (de_lst (da_cons (df_var 12) (da_cons (df_tup (da_cons df_str (da_cons df_str (da_cons (df_not (dv_df (df_var 10))) (da_cons (df_var 8) (da_cons (df_tup (da_cons (df_tup (da_cons df_str (da_cons (df_var 11) (da_cons df_int da_nil)))) (da_cons (df_var 12) da_nil))) da_nil)))))) da_nil)))) da_nil)))))
    (dss_cons (ds_set 13 sc_law.nd (de_df (df_de (de_add (dl_df df_str) (dl_de (de_call G.g__law_mark (takes_of rfl rfl rfl rfl) hr rfl T.M__law_mark T.F__law_mark.kp T.B__law_mark (da_cons (df_var 10) (da_cons (df_sub (dv_df (df_var 9)) (dv_df (df_pow (dv_df df_int) (dv_df df_int)))) da_nil)) (aCons_len (aCons_len (fun _ _ h => aNil_len h)))))))))
    (dss_cons (ds_set 7 sc_law.nd (de_df (df_de (de_add (dl_de (de_add (dl_de (de_add (dl_de (de_add (dl_df (df_var 7)) (dl_df df_str))) (dl_de (de_call G.g__law_mode (takes_of rfl rfl rfl rfl) hr rfl T.M__law_mode T.F__law_mode.kp T.B__law_mode (da_cons (df_var 8) da_nil) (aCons_len (fun _ _ h => aNil_len h)))))) (dl_df df_str))) (dl_df (df_var 13))))))
    (dss_cons (ds_set 7 sc_law.nd (de_df (df_de (de_add (dl_de (de_add (dl_de (de_add (dl_de (de_add (dl_df (df_var 7)) (dl_df df_str))) (dl_de (de_call G.g__law_mode (takes_of rfl rfl rfl rfl) hr rfl T.M__law_mode T.F__law_mode.kp T.B__law_mode (da_cons (df_var 8) da_nil) (aCons_len (fun _ _ h => aNil_len h)))))) (dl_df df_str))) (dl_de (de_call G.g__law_mark (takes_of rfl rfl rfl rfl) hr rfl T.M__law_mark T.F__law_mark.kp T.B__law_mark (da_cons (df_not (dv_df (df_var 10))) (da_cons (df_var 8) da_nil)) (aCons_len (aCons_len (fun _ _ h => aNil_len h)))))))))
    (dss_one (ds_set 7 sc_law.nd (de_df (df_de (de_add (dl_de (de_add (dl_de (de_add (dl_de (de_add (dl_de (de_add (dl_df (df_var 7)) (dl_df df_str))) (dl_de (de_call G.g__law_mode (takes_of rfl rfl rfl rfl) hr rfl T.M__law_mode T.F__law_mode.kp T.B__law_mode (da_cons (df_var 11) da_nil) (aCons_len (fun _ _ h => aNil_len h)))))) (dl_df df_str))) (dl_df (df_var 13)))) (dl_df df_str))))))))))))))))
    (dss_cons (ds_frz 6 (ds_set 14 sc_law.nd (de_df (df_de (de_call G.g_show_turning (takes_of rfl rfl rfl rfl) hr rfl T.M_show_turning T.F_show_turning.kp T.B_show_turning (da_cons (df_tup (da_cons (df_var 4) (da_cons (df_var 5) (da_cons (df_var 6) da_nil)))) da_nil) (aCons_len (fun _ _ h => aNil_len h)))))))
    (dss_cons (ds_if (dt_dw (dw_or (dt_not (dt_val (dv_df (df_isi (dv_df (df_var 14)) rfl T.z_isinstance rfl T.z_str rfl)))) (dw_or1 (dt_ne (room_eq hr) (dv_df (df_var 14)) (dv_df (df_var 7))))))
    (dss_one (ds_ret (de_df df_bl)))
    dss_nil)
    (dss_cons (ds_if (dt_dw (dw_or (dt_gt (dv_df (df_var 1)) (dv_df df_int)) (dw_or1 (dt_gt (dv_de (de_len rfl T.z_len (dal_cons (dl_df (df_var 7)) dal_nil))) (dv_df df_int)))))
    (dss_one (ds_ret (de_df df_bl)))
    dss_nil)
    (dss_cons (ds_set 15 sc_law.nd (de_df (df_de (de_call G.g_read_turning (takes_of rfl rfl rfl rfl) hr rfl T.M_read_turning T.F_read_turning.kp T.B_read_turning (da_cons (df_var 4) (da_cons (df_var 14) da_nil)) (aCons_len (aCons_len (fun _ _ h => aNil_len h)))))))
    (dss_one (ds_frz 6 (ds_ret (de_df (df_and (dv_df (df_eq (room_eq hr) (dv_df (df_var 15)) (dv_df (df_tup (da_cons (df_var 4) (da_cons (df_var 5) (da_cons (df_var 6) da_nil))))))) (df_one (df_eq (room_eq hr) (dv_de (de_call G.g_show_turning (takes_of rfl rfl rfl rfl) hr rfl T.M_show_turning T.F_show_turning.kp T.B_show_turning (da_cons (df_var 15) da_nil) (aCons_len (fun _ _ h => aNil_len h)))) (dv_df (df_var 7))))))))))))))))))))))
theorem fn_none {f : Addr} {fd : FuncData} {ps : List Str} {k i : Nat} : FnOk P w K mg base (L2.CX P w) 0 f fd ps (spM ⟨K, w⟩ mg k (mir 0 i)) := by
  have no : ∀ vs H Q E, ¬ spM ⟨K, w⟩ mg k (mir 0 i) vs H Q E := fun vs H Q E ⟨F, ds, _, _, _, h⟩ => h
  exact ⟨fun vs H Q E h => absurd h (no vs H Q E), fun A outer s H args us vs Q E _ _ _ _ h => absurd h (no vs H Q E)⟩
theorem all_fns (T : Txt K mg f fd cl) : ∀ n, Fns P w K mg base f fd n
  | 0 => ⟨fn_none, fn_none, fn_none, fn_none, fn_none, fn_none, fn_none, fn_none, fn_none, fn_none, fn_none, fn_none, fn_none, fn_none, fn_none, fn_none, fn_none, fn_none, fn_none, fn_none, fn_none, fn_none, fn_none, fn_none, fn_none, fn_none, fn_none, fn_none, fn_none, fn_none⟩
  | n + 1 => by
    have G := all_fns T n
    exact ⟨ok_term_size T G, ok_calls_of T G, ok_keeps_mark T G, ok_run_end T G, ok_word_end T G, ok_words T G, ok_is_name T G, ok_is_number T G, ok_parted T G, ok_rows_of T G, ok_wood_again T G, ok_calls_fit T G, ok_is_sound T G, ok_mark_at T G, ok_call_at T G, ok_term_at T G, ok_term_by T G, ok_rule_by T G, ok_numbered T G, ok_table_by T G, ok_modes_by T G, ok_read_turning T G, ok_mode_word T G, ok_show_mark T G, ok_show_term T G, ok_show_turning T G, ok__law_cell_at T G, ok__law_mode T G, ok__law_mark T G, ok_law T G⟩
end
def pick {α : Type} (z : α) : List α → Nat → α
  | [], _ => z
  | x :: _, 0 => x
  | _ :: xs, n + 1 => pick z xs n
theorem all_mk (L : Nat) {l : PySem.W.OpenLaw} {w : World} {K : PySem.W.Frag} {h : Heap} {mg : Str → Option Value} {fa : Addr} (X : K.In h) (G : h.Ns PySem.mainGlobals mg) (hfa : mg "law" = some (.ref fa))
    {od0 an0 : Option Addr} {sl0 : Array (Option Value)} {oc0 kV0 dc0 pm0 cd0 ct0 : Value} {f0 : Addr}
    (a0 : PySem.W.nsIn K PySem.mainGlobals "term_size" = some (some (.ref f0))) (l0 : K.lookup f0 = some ⟨oc0, od0, .func (PySem.W.fnOf "term_size" "term_size" (defArgs s_term_size) (defBody s_term_size) (defScope s_term_size) .none kV0 dc0 pm0 an0 cd0 ct0), sl0⟩) (c0 : PySem.W.codeIn K cd0 "term_size" = true) (k0 : PySem.W.keepIn K (.ref f0) = true)
    {od1 an1 : Option Addr} {sl1 : Array (Option Value)} {oc1 kV1 dc1 pm1 cd1 ct1 : Value} {f1 : Addr}
    (a1 : PySem.W.nsIn K PySem.mainGlobals "calls_of" = some (some (.ref f1))) (l1 : K.lookup f1 = some ⟨oc1, od1, .func (PySem.W.fnOf "calls_of" "calls_of" (defArgs s_calls_of) (defBody s_calls_of) (defScope s_calls_of) .none kV1 dc1 pm1 an1 cd1 ct1), sl1⟩) (c1 : PySem.W.codeIn K cd1 "calls_of" = true) (k1 : PySem.W.keepIn K (.ref f1) = true)
    {od2 an2 : Option Addr} {sl2 : Array (Option Value)} {oc2 kV2 dc2 pm2 cd2 ct2 : Value} {f2 : Addr}
    (a2 : PySem.W.nsIn K PySem.mainGlobals "keeps_mark" = some (some (.ref f2))) (l2 : K.lookup f2 = some ⟨oc2, od2, .func (PySem.W.fnOf "keeps_mark" "keeps_mark" (defArgs s_keeps_mark) (defBody s_keeps_mark) (defScope s_keeps_mark) .none kV2 dc2 pm2 an2 cd2 ct2), sl2⟩) (c2 : PySem.W.codeIn K cd2 "keeps_mark" = true) (k2 : PySem.W.keepIn K (.ref f2) = true)
    {od3 an3 : Option Addr} {sl3 : Array (Option Value)} {oc3 kV3 dc3 pm3 cd3 ct3 : Value} {f3 : Addr}
    (a3 : PySem.W.nsIn K PySem.mainGlobals "run_end" = some (some (.ref f3))) (l3 : K.lookup f3 = some ⟨oc3, od3, .func (PySem.W.fnOf "run_end" "run_end" (defArgs s_run_end) (defBody s_run_end) (defScope s_run_end) .none kV3 dc3 pm3 an3 cd3 ct3), sl3⟩) (c3 : PySem.W.codeIn K cd3 "run_end" = true) (k3 : PySem.W.keepIn K (.ref f3) = true)
    {od4 an4 : Option Addr} {sl4 : Array (Option Value)} {oc4 kV4 dc4 pm4 cd4 ct4 : Value} {f4 : Addr}
    (a4 : PySem.W.nsIn K PySem.mainGlobals "word_end" = some (some (.ref f4))) (l4 : K.lookup f4 = some ⟨oc4, od4, .func (PySem.W.fnOf "word_end" "word_end" (defArgs s_word_end) (defBody s_word_end) (defScope s_word_end) .none kV4 dc4 pm4 an4 cd4 ct4), sl4⟩) (c4 : PySem.W.codeIn K cd4 "word_end" = true) (k4 : PySem.W.keepIn K (.ref f4) = true)
    {od5 an5 : Option Addr} {sl5 : Array (Option Value)} {oc5 kV5 dc5 pm5 cd5 ct5 : Value} {f5 : Addr}
    (a5 : PySem.W.nsIn K PySem.mainGlobals "words" = some (some (.ref f5))) (l5 : K.lookup f5 = some ⟨oc5, od5, .func (PySem.W.fnOf "words" "words" (defArgs s_words) (defBody s_words) (defScope s_words) .none kV5 dc5 pm5 an5 cd5 ct5), sl5⟩) (c5 : PySem.W.codeIn K cd5 "words" = true) (k5 : PySem.W.keepIn K (.ref f5) = true)
    {od6 an6 : Option Addr} {sl6 : Array (Option Value)} {oc6 kV6 dc6 pm6 cd6 ct6 : Value} {f6 : Addr}
    (a6 : PySem.W.nsIn K PySem.mainGlobals "is_name" = some (some (.ref f6))) (l6 : K.lookup f6 = some ⟨oc6, od6, .func (PySem.W.fnOf "is_name" "is_name" (defArgs s_is_name) (defBody s_is_name) (defScope s_is_name) .none kV6 dc6 pm6 an6 cd6 ct6), sl6⟩) (c6 : PySem.W.codeIn K cd6 "is_name" = true) (k6 : PySem.W.keepIn K (.ref f6) = true)
    {od7 an7 : Option Addr} {sl7 : Array (Option Value)} {oc7 kV7 dc7 pm7 cd7 ct7 : Value} {f7 : Addr}
    (a7 : PySem.W.nsIn K PySem.mainGlobals "is_number" = some (some (.ref f7))) (l7 : K.lookup f7 = some ⟨oc7, od7, .func (PySem.W.fnOf "is_number" "is_number" (defArgs s_is_number) (defBody s_is_number) (defScope s_is_number) .none kV7 dc7 pm7 an7 cd7 ct7), sl7⟩) (c7 : PySem.W.codeIn K cd7 "is_number" = true) (k7 : PySem.W.keepIn K (.ref f7) = true)
    {od8 an8 : Option Addr} {sl8 : Array (Option Value)} {oc8 kV8 dc8 pm8 cd8 ct8 : Value} {f8 : Addr}
    (a8 : PySem.W.nsIn K PySem.mainGlobals "parted" = some (some (.ref f8))) (l8 : K.lookup f8 = some ⟨oc8, od8, .func (PySem.W.fnOf "parted" "parted" (defArgs s_parted) (defBody s_parted) (defScope s_parted) .none kV8 dc8 pm8 an8 cd8 ct8), sl8⟩) (c8 : PySem.W.codeIn K cd8 "parted" = true) (k8 : PySem.W.keepIn K (.ref f8) = true)
    {od9 an9 : Option Addr} {sl9 : Array (Option Value)} {oc9 kV9 dc9 pm9 cd9 ct9 : Value} {f9 : Addr}
    (a9 : PySem.W.nsIn K PySem.mainGlobals "rows_of" = some (some (.ref f9))) (l9 : K.lookup f9 = some ⟨oc9, od9, .func (PySem.W.fnOf "rows_of" "rows_of" (defArgs s_rows_of) (defBody s_rows_of) (defScope s_rows_of) .none kV9 dc9 pm9 an9 cd9 ct9), sl9⟩) (c9 : PySem.W.codeIn K cd9 "rows_of" = true) (k9 : PySem.W.keepIn K (.ref f9) = true)
    {od10 an10 : Option Addr} {sl10 : Array (Option Value)} {oc10 kV10 dc10 pm10 cd10 ct10 : Value} {f10 : Addr}
    (a10 : PySem.W.nsIn K PySem.mainGlobals "wood_again" = some (some (.ref f10))) (l10 : K.lookup f10 = some ⟨oc10, od10, .func (PySem.W.fnOf "wood_again" "wood_again" (defArgs s_wood_again) (defBody s_wood_again) (defScope s_wood_again) .none kV10 dc10 pm10 an10 cd10 ct10), sl10⟩) (c10 : PySem.W.codeIn K cd10 "wood_again" = true) (k10 : PySem.W.keepIn K (.ref f10) = true)
    {od11 an11 : Option Addr} {sl11 : Array (Option Value)} {oc11 kV11 dc11 pm11 cd11 ct11 : Value} {f11 : Addr}
    (a11 : PySem.W.nsIn K PySem.mainGlobals "calls_fit" = some (some (.ref f11))) (l11 : K.lookup f11 = some ⟨oc11, od11, .func (PySem.W.fnOf "calls_fit" "calls_fit" (defArgs s_calls_fit) (defBody s_calls_fit) (defScope s_calls_fit) .none kV11 dc11 pm11 an11 cd11 ct11), sl11⟩) (c11 : PySem.W.codeIn K cd11 "calls_fit" = true) (k11 : PySem.W.keepIn K (.ref f11) = true)
    {od12 an12 : Option Addr} {sl12 : Array (Option Value)} {oc12 kV12 dc12 pm12 cd12 ct12 : Value} {f12 : Addr}
    (a12 : PySem.W.nsIn K PySem.mainGlobals "is_sound" = some (some (.ref f12))) (l12 : K.lookup f12 = some ⟨oc12, od12, .func (PySem.W.fnOf "is_sound" "is_sound" (defArgs s_is_sound) (defBody s_is_sound) (defScope s_is_sound) .none kV12 dc12 pm12 an12 cd12 ct12), sl12⟩) (c12 : PySem.W.codeIn K cd12 "is_sound" = true) (k12 : PySem.W.keepIn K (.ref f12) = true)
    {od13 an13 : Option Addr} {sl13 : Array (Option Value)} {oc13 kV13 dc13 pm13 cd13 ct13 : Value} {f13 : Addr}
    (a13 : PySem.W.nsIn K PySem.mainGlobals "mark_at" = some (some (.ref f13))) (l13 : K.lookup f13 = some ⟨oc13, od13, .func (PySem.W.fnOf "mark_at" "mark_at" (defArgs s_mark_at) (defBody s_mark_at) (defScope s_mark_at) .none kV13 dc13 pm13 an13 cd13 ct13), sl13⟩) (c13 : PySem.W.codeIn K cd13 "mark_at" = true) (k13 : PySem.W.keepIn K (.ref f13) = true)
    {od14 an14 : Option Addr} {sl14 : Array (Option Value)} {oc14 kV14 dc14 pm14 cd14 ct14 : Value} {f14 : Addr}
    (a14 : PySem.W.nsIn K PySem.mainGlobals "call_at" = some (some (.ref f14))) (l14 : K.lookup f14 = some ⟨oc14, od14, .func (PySem.W.fnOf "call_at" "call_at" (defArgs s_call_at) (defBody s_call_at) (defScope s_call_at) .none kV14 dc14 pm14 an14 cd14 ct14), sl14⟩) (c14 : PySem.W.codeIn K cd14 "call_at" = true) (k14 : PySem.W.keepIn K (.ref f14) = true)
    {od15 an15 : Option Addr} {sl15 : Array (Option Value)} {oc15 kV15 dc15 pm15 cd15 ct15 : Value} {f15 : Addr}
    (a15 : PySem.W.nsIn K PySem.mainGlobals "term_at" = some (some (.ref f15))) (l15 : K.lookup f15 = some ⟨oc15, od15, .func (PySem.W.fnOf "term_at" "term_at" (defArgs s_term_at) (defBody s_term_at) (defScope s_term_at) .none kV15 dc15 pm15 an15 cd15 ct15), sl15⟩) (c15 : PySem.W.codeIn K cd15 "term_at" = true) (k15 : PySem.W.keepIn K (.ref f15) = true)
    {od16 an16 : Option Addr} {sl16 : Array (Option Value)} {oc16 kV16 dc16 pm16 cd16 ct16 : Value} {f16 : Addr}
    (a16 : PySem.W.nsIn K PySem.mainGlobals "term_by" = some (some (.ref f16))) (l16 : K.lookup f16 = some ⟨oc16, od16, .func (PySem.W.fnOf "term_by" "term_by" (defArgs s_term_by) (defBody s_term_by) (defScope s_term_by) .none kV16 dc16 pm16 an16 cd16 ct16), sl16⟩) (c16 : PySem.W.codeIn K cd16 "term_by" = true) (k16 : PySem.W.keepIn K (.ref f16) = true)
    {od17 an17 : Option Addr} {sl17 : Array (Option Value)} {oc17 kV17 dc17 pm17 cd17 ct17 : Value} {f17 : Addr}
    (a17 : PySem.W.nsIn K PySem.mainGlobals "rule_by" = some (some (.ref f17))) (l17 : K.lookup f17 = some ⟨oc17, od17, .func (PySem.W.fnOf "rule_by" "rule_by" (defArgs s_rule_by) (defBody s_rule_by) (defScope s_rule_by) .none kV17 dc17 pm17 an17 cd17 ct17), sl17⟩) (c17 : PySem.W.codeIn K cd17 "rule_by" = true) (k17 : PySem.W.keepIn K (.ref f17) = true)
    {od18 an18 : Option Addr} {sl18 : Array (Option Value)} {oc18 kV18 dc18 pm18 cd18 ct18 : Value} {f18 : Addr}
    (a18 : PySem.W.nsIn K PySem.mainGlobals "numbered" = some (some (.ref f18))) (l18 : K.lookup f18 = some ⟨oc18, od18, .func (PySem.W.fnOf "numbered" "numbered" (defArgs s_numbered) (defBody s_numbered) (defScope s_numbered) .none kV18 dc18 pm18 an18 cd18 ct18), sl18⟩) (c18 : PySem.W.codeIn K cd18 "numbered" = true) (k18 : PySem.W.keepIn K (.ref f18) = true)
    {od19 an19 : Option Addr} {sl19 : Array (Option Value)} {oc19 kV19 dc19 pm19 cd19 ct19 : Value} {f19 : Addr}
    (a19 : PySem.W.nsIn K PySem.mainGlobals "table_by" = some (some (.ref f19))) (l19 : K.lookup f19 = some ⟨oc19, od19, .func (PySem.W.fnOf "table_by" "table_by" (defArgs s_table_by) (defBody s_table_by) (defScope s_table_by) .none kV19 dc19 pm19 an19 cd19 ct19), sl19⟩) (c19 : PySem.W.codeIn K cd19 "table_by" = true) (k19 : PySem.W.keepIn K (.ref f19) = true)
    {od20 an20 : Option Addr} {sl20 : Array (Option Value)} {oc20 kV20 dc20 pm20 cd20 ct20 : Value} {f20 : Addr}
    (a20 : PySem.W.nsIn K PySem.mainGlobals "modes_by" = some (some (.ref f20))) (l20 : K.lookup f20 = some ⟨oc20, od20, .func (PySem.W.fnOf "modes_by" "modes_by" (defArgs s_modes_by) (defBody s_modes_by) (defScope s_modes_by) .none kV20 dc20 pm20 an20 cd20 ct20), sl20⟩) (c20 : PySem.W.codeIn K cd20 "modes_by" = true) (k20 : PySem.W.keepIn K (.ref f20) = true)
    {od21 an21 : Option Addr} {sl21 : Array (Option Value)} {oc21 kV21 dc21 pm21 cd21 ct21 : Value} {f21 : Addr}
    (a21 : PySem.W.nsIn K PySem.mainGlobals "read_turning" = some (some (.ref f21))) (l21 : K.lookup f21 = some ⟨oc21, od21, .func (PySem.W.fnOf "read_turning" "read_turning" (defArgs s_read_turning) (defBody s_read_turning) (defScope s_read_turning) .none kV21 dc21 pm21 an21 cd21 ct21), sl21⟩) (c21 : PySem.W.codeIn K cd21 "read_turning" = true) (k21 : PySem.W.keepIn K (.ref f21) = true)
    {od22 an22 : Option Addr} {sl22 : Array (Option Value)} {oc22 kV22 dc22 pm22 cd22 ct22 : Value} {f22 : Addr}
    (a22 : PySem.W.nsIn K PySem.mainGlobals "mode_word" = some (some (.ref f22))) (l22 : K.lookup f22 = some ⟨oc22, od22, .func (PySem.W.fnOf "mode_word" "mode_word" (defArgs s_mode_word) (defBody s_mode_word) (defScope s_mode_word) .none kV22 dc22 pm22 an22 cd22 ct22), sl22⟩) (c22 : PySem.W.codeIn K cd22 "mode_word" = true) (k22 : PySem.W.keepIn K (.ref f22) = true)
    {od23 an23 : Option Addr} {sl23 : Array (Option Value)} {oc23 kV23 dc23 pm23 cd23 ct23 : Value} {f23 : Addr}
    (a23 : PySem.W.nsIn K PySem.mainGlobals "show_mark" = some (some (.ref f23))) (l23 : K.lookup f23 = some ⟨oc23, od23, .func (PySem.W.fnOf "show_mark" "show_mark" (defArgs s_show_mark) (defBody s_show_mark) (defScope s_show_mark) .none kV23 dc23 pm23 an23 cd23 ct23), sl23⟩) (c23 : PySem.W.codeIn K cd23 "show_mark" = true) (k23 : PySem.W.keepIn K (.ref f23) = true)
    {od24 an24 : Option Addr} {sl24 : Array (Option Value)} {oc24 kV24 dc24 pm24 cd24 ct24 : Value} {f24 : Addr}
    (a24 : PySem.W.nsIn K PySem.mainGlobals "show_term" = some (some (.ref f24))) (l24 : K.lookup f24 = some ⟨oc24, od24, .func (PySem.W.fnOf "show_term" "show_term" (defArgs s_show_term) (defBody s_show_term) (defScope s_show_term) .none kV24 dc24 pm24 an24 cd24 ct24), sl24⟩) (c24 : PySem.W.codeIn K cd24 "show_term" = true) (k24 : PySem.W.keepIn K (.ref f24) = true)
    {od25 an25 : Option Addr} {sl25 : Array (Option Value)} {oc25 kV25 dc25 pm25 cd25 ct25 : Value} {f25 : Addr}
    (a25 : PySem.W.nsIn K PySem.mainGlobals "show_turning" = some (some (.ref f25))) (l25 : K.lookup f25 = some ⟨oc25, od25, .func (PySem.W.fnOf "show_turning" "show_turning" (defArgs s_show_turning) (defBody s_show_turning) (defScope s_show_turning) .none kV25 dc25 pm25 an25 cd25 ct25), sl25⟩) (c25 : PySem.W.codeIn K cd25 "show_turning" = true) (k25 : PySem.W.keepIn K (.ref f25) = true)
    {od26 an26 : Option Addr} {sl26 : Array (Option Value)} {oc26 kV26 dc26 pm26 cd26 ct26 : Value} {f26 : Addr}
    (a26 : PySem.W.nsIn K PySem.mainGlobals "_law_cell_at" = some (some (.ref f26))) (l26 : K.lookup f26 = some ⟨oc26, od26, .func (PySem.W.fnOf "_law_cell_at" "_law_cell_at" (defArgs s__law_cell_at) (defBody s__law_cell_at) (defScope s__law_cell_at) .none kV26 dc26 pm26 an26 cd26 ct26), sl26⟩) (c26 : PySem.W.codeIn K cd26 "_law_cell_at" = true) (k26 : PySem.W.keepIn K (.ref f26) = true)
    {od27 an27 : Option Addr} {sl27 : Array (Option Value)} {oc27 kV27 dc27 pm27 cd27 ct27 : Value} {f27 : Addr}
    (a27 : PySem.W.nsIn K PySem.mainGlobals "_law_mode" = some (some (.ref f27))) (l27 : K.lookup f27 = some ⟨oc27, od27, .func (PySem.W.fnOf "_law_mode" "_law_mode" (defArgs s__law_mode) (defBody s__law_mode) (defScope s__law_mode) .none kV27 dc27 pm27 an27 cd27 ct27), sl27⟩) (c27 : PySem.W.codeIn K cd27 "_law_mode" = true) (k27 : PySem.W.keepIn K (.ref f27) = true)
    {od28 an28 : Option Addr} {sl28 : Array (Option Value)} {oc28 kV28 dc28 pm28 cd28 ct28 : Value} {f28 : Addr}
    (a28 : PySem.W.nsIn K PySem.mainGlobals "_law_mark" = some (some (.ref f28))) (l28 : K.lookup f28 = some ⟨oc28, od28, .func (PySem.W.fnOf "_law_mark" "_law_mark" (defArgs s__law_mark) (defBody s__law_mark) (defScope s__law_mark) .none kV28 dc28 pm28 an28 cd28 ct28), sl28⟩) (c28 : PySem.W.codeIn K cd28 "_law_mark" = true) (k28 : PySem.W.keepIn K (.ref f28) = true)
    {od29 an29 : Option Addr} {sl29 : Array (Option Value)} {oc29 kV29 dc29 pm29 cd29 ct29 : Value} {f29 : Addr}
    (a29 : PySem.W.nsIn K PySem.mainGlobals "law" = some (some (.ref f29))) (l29 : K.lookup f29 = some ⟨oc29, od29, .func (PySem.W.fnOf "law" "law" (defArgs s_law) (defBody s_law) (defScope s_law) .none kV29 dc29 pm29 an29 cd29 ct29), sl29⟩) (c29 : PySem.W.codeIn K cd29 "law" = true) (k29 : PySem.W.keepIn K (.ref f29) = true)
    (z_any : PySem.W.nsIn K PySem.mainGlobals "any" = some none)
    (z_enumerate : PySem.W.nsIn K PySem.mainGlobals "enumerate" = some none)
    (z_int : PySem.W.nsIn K PySem.mainGlobals "int" = some none)
    (z_isinstance : PySem.W.nsIn K PySem.mainGlobals "isinstance" = some none)
    (z_len : PySem.W.nsIn K PySem.mainGlobals "len" = some none)
    (z_list : PySem.W.nsIn K PySem.mainGlobals "list" = some none)
    (z_range : PySem.W.nsIn K PySem.mainGlobals "range" = some none)
    (z_str : PySem.W.nsIn K PySem.mainGlobals "str" = some none)
    (z_sum : PySem.W.nsIn K PySem.mainGlobals "sum" = some none)
    (z_tuple : PySem.W.nsIn K PySem.mainGlobals "tuple" = some none)
    (z_zip : PySem.W.nsIn K PySem.mainGlobals "zip" = some none)
    {C_NoText : Addr} (e_NoText : PySem.W.nsIn K PySem.mainGlobals "NoText" = some (some (.ref C_NoText)))
    {C_NoTurning : Addr} (e_NoTurning : PySem.W.nsIn K PySem.mainGlobals "NoTurning" = some (some (.ref C_NoTurning)))
    (xb_NoText : PySem.W.subIn K (.ref C_NoText) (.type "BaseException") = some true)
    (xt_NoText : PySem.W.typeIn K (.ref C_NoText) = some (.type "type"))
    (xd_NoText : PySem.W.hasDictIn K C_NoText = true)
    (xs_NoText : PySem.W.subIn K (.ref C_NoText) (.ref C_NoText) = some true)
    (xb_NoTurning : PySem.W.subIn K (.ref C_NoTurning) (.type "BaseException") = some true)
    (xt_NoTurning : PySem.W.typeIn K (.ref C_NoTurning) = some (.type "type"))
    (xd_NoTurning : PySem.W.hasDictIn K C_NoTurning = true)
    (xs_NoTurning : PySem.W.subIn K (.ref C_NoTurning) (.ref C_NoTurning) = some true)
    (xe_NoText : PySem.W.excIn K C_NoText [.type "ValueError", .type "Exception", .type "BaseException", .type "object"] "ValueError.__new__" = true)
    (xk_NoText : PySem.W.keepIn K (.ref C_NoText) = true)
    (xe_NoTurning : PySem.W.excIn K C_NoTurning [.type "ValueError", .type "Exception", .type "BaseException", .type "object"] "ValueError.__new__" = true)
    (xk_NoTurning : PySem.W.keepIn K (.ref C_NoTurning) = true)
    {u_FIGURES : Value} (g_FIGURES : PySem.W.nsIn K PySem.mainGlobals "FIGURES" = some (some u_FIGURES)) (r_FIGURES : RelV (.str "0123456789") u_FIGURES)
    {u_LETTERS : Value} (g_LETTERS : PySem.W.nsIn K PySem.mainGlobals "LETTERS" = some (some u_LETTERS)) (r_LETTERS : RelV (.str "abcdefghijklmnopqrstuvwxyz") u_LETTERS)
    {u_SIGNS : Value} (g_SIGNS : PySem.W.nsIn K PySem.mainGlobals "SIGNS" = some (some u_SIGNS)) (r_SIGNS : RelV (.str "();:=|*") u_SIGNS) :
    ∃ fd : FuncData, (∀ (s : Shared) (v : Value), BindsTo s fd ⟨[v], []⟩ [("_law_script", v)]) ∧ ∀ base : Heap, K.In base → base.Ns PySem.mainGlobals mg → FnOk l.prog w K mg base (L2.CX l.prog w) L fa fd ["_law_script"] (spM ⟨K, w⟩ mg 1 (mir L 29)) := by
  have e := hfa.symm.trans (PySem.W.mg_of X G a29)
  cases e
  have F0 := fun_mk (st := s_term_size) l0 c0 k0
  have F1 := fun_mk (st := s_calls_of) l1 c1 k1
  have F2 := fun_mk (st := s_keeps_mark) l2 c2 k2
  have F3 := fun_mk (st := s_run_end) l3 c3 k3
  have F4 := fun_mk (st := s_word_end) l4 c4 k4
  have F5 := fun_mk (st := s_words) l5 c5 k5
  have F6 := fun_mk (st := s_is_name) l6 c6 k6
  have F7 := fun_mk (st := s_is_number) l7 c7 k7
  have F8 := fun_mk (st := s_parted) l8 c8 k8
  have F9 := fun_mk (st := s_rows_of) l9 c9 k9
  have F10 := fun_mk (st := s_wood_again) l10 c10 k10
  have F11 := fun_mk (st := s_calls_fit) l11 c11 k11
  have F12 := fun_mk (st := s_is_sound) l12 c12 k12
  have F13 := fun_mk (st := s_mark_at) l13 c13 k13
  have F14 := fun_mk (st := s_call_at) l14 c14 k14
  have F15 := fun_mk (st := s_term_at) l15 c15 k15
  have F16 := fun_mk (st := s_term_by) l16 c16 k16
  have F17 := fun_mk (st := s_rule_by) l17 c17 k17
  have F18 := fun_mk (st := s_numbered) l18 c18 k18
  have F19 := fun_mk (st := s_table_by) l19 c19 k19
  have F20 := fun_mk (st := s_modes_by) l20 c20 k20
  have F21 := fun_mk (st := s_read_turning) l21 c21 k21
  have F22 := fun_mk (st := s_mode_word) l22 c22 k22
  have F23 := fun_mk (st := s_show_mark) l23 c23 k23
  have F24 := fun_mk (st := s_show_term) l24 c24 k24
  have F25 := fun_mk (st := s_show_turning) l25 c25 k25
  have F26 := fun_mk (st := s__law_cell_at) l26 c26 k26
  have F27 := fun_mk (st := s__law_mode) l27 c27 k27
  have F28 := fun_mk (st := s__law_mark) l28 c28 k28
  have F29 := fun_mk (st := s_law) l29 c29 k29
  have T : Txt K mg (pick 0 [f0, f1, f2, f3, f4, f5, f6, f7, f8, f9, f10, f11, f12, f13, f14, f15, f16, f17, f18, f19, f20, f21, f22, f23, f24, f25, f26, f27, f28, fa]) (pick (PySem.W.fnOf "law" "law" (defArgs s_law) (defBody s_law) (defScope s_law) .none kV29 dc29 pm29 an29 cd29 ct29) [PySem.W.fnOf "term_size" "term_size" (defArgs s_term_size) (defBody s_term_size) (defScope s_term_size) .none kV0 dc0 pm0 an0 cd0 ct0, PySem.W.fnOf "calls_of" "calls_of" (defArgs s_calls_of) (defBody s_calls_of) (defScope s_calls_of) .none kV1 dc1 pm1 an1 cd1 ct1, PySem.W.fnOf "keeps_mark" "keeps_mark" (defArgs s_keeps_mark) (defBody s_keeps_mark) (defScope s_keeps_mark) .none kV2 dc2 pm2 an2 cd2 ct2, PySem.W.fnOf "run_end" "run_end" (defArgs s_run_end) (defBody s_run_end) (defScope s_run_end) .none kV3 dc3 pm3 an3 cd3 ct3, PySem.W.fnOf "word_end" "word_end" (defArgs s_word_end) (defBody s_word_end) (defScope s_word_end) .none kV4 dc4 pm4 an4 cd4 ct4, PySem.W.fnOf "words" "words" (defArgs s_words) (defBody s_words) (defScope s_words) .none kV5 dc5 pm5 an5 cd5 ct5, PySem.W.fnOf "is_name" "is_name" (defArgs s_is_name) (defBody s_is_name) (defScope s_is_name) .none kV6 dc6 pm6 an6 cd6 ct6, PySem.W.fnOf "is_number" "is_number" (defArgs s_is_number) (defBody s_is_number) (defScope s_is_number) .none kV7 dc7 pm7 an7 cd7 ct7, PySem.W.fnOf "parted" "parted" (defArgs s_parted) (defBody s_parted) (defScope s_parted) .none kV8 dc8 pm8 an8 cd8 ct8, PySem.W.fnOf "rows_of" "rows_of" (defArgs s_rows_of) (defBody s_rows_of) (defScope s_rows_of) .none kV9 dc9 pm9 an9 cd9 ct9, PySem.W.fnOf "wood_again" "wood_again" (defArgs s_wood_again) (defBody s_wood_again) (defScope s_wood_again) .none kV10 dc10 pm10 an10 cd10 ct10, PySem.W.fnOf "calls_fit" "calls_fit" (defArgs s_calls_fit) (defBody s_calls_fit) (defScope s_calls_fit) .none kV11 dc11 pm11 an11 cd11 ct11, PySem.W.fnOf "is_sound" "is_sound" (defArgs s_is_sound) (defBody s_is_sound) (defScope s_is_sound) .none kV12 dc12 pm12 an12 cd12 ct12, PySem.W.fnOf "mark_at" "mark_at" (defArgs s_mark_at) (defBody s_mark_at) (defScope s_mark_at) .none kV13 dc13 pm13 an13 cd13 ct13, PySem.W.fnOf "call_at" "call_at" (defArgs s_call_at) (defBody s_call_at) (defScope s_call_at) .none kV14 dc14 pm14 an14 cd14 ct14, PySem.W.fnOf "term_at" "term_at" (defArgs s_term_at) (defBody s_term_at) (defScope s_term_at) .none kV15 dc15 pm15 an15 cd15 ct15, PySem.W.fnOf "term_by" "term_by" (defArgs s_term_by) (defBody s_term_by) (defScope s_term_by) .none kV16 dc16 pm16 an16 cd16 ct16, PySem.W.fnOf "rule_by" "rule_by" (defArgs s_rule_by) (defBody s_rule_by) (defScope s_rule_by) .none kV17 dc17 pm17 an17 cd17 ct17, PySem.W.fnOf "numbered" "numbered" (defArgs s_numbered) (defBody s_numbered) (defScope s_numbered) .none kV18 dc18 pm18 an18 cd18 ct18, PySem.W.fnOf "table_by" "table_by" (defArgs s_table_by) (defBody s_table_by) (defScope s_table_by) .none kV19 dc19 pm19 an19 cd19 ct19, PySem.W.fnOf "modes_by" "modes_by" (defArgs s_modes_by) (defBody s_modes_by) (defScope s_modes_by) .none kV20 dc20 pm20 an20 cd20 ct20, PySem.W.fnOf "read_turning" "read_turning" (defArgs s_read_turning) (defBody s_read_turning) (defScope s_read_turning) .none kV21 dc21 pm21 an21 cd21 ct21, PySem.W.fnOf "mode_word" "mode_word" (defArgs s_mode_word) (defBody s_mode_word) (defScope s_mode_word) .none kV22 dc22 pm22 an22 cd22 ct22, PySem.W.fnOf "show_mark" "show_mark" (defArgs s_show_mark) (defBody s_show_mark) (defScope s_show_mark) .none kV23 dc23 pm23 an23 cd23 ct23, PySem.W.fnOf "show_term" "show_term" (defArgs s_show_term) (defBody s_show_term) (defScope s_show_term) .none kV24 dc24 pm24 an24 cd24 ct24, PySem.W.fnOf "show_turning" "show_turning" (defArgs s_show_turning) (defBody s_show_turning) (defScope s_show_turning) .none kV25 dc25 pm25 an25 cd25 ct25, PySem.W.fnOf "_law_cell_at" "_law_cell_at" (defArgs s__law_cell_at) (defBody s__law_cell_at) (defScope s__law_cell_at) .none kV26 dc26 pm26 an26 cd26 ct26, PySem.W.fnOf "_law_mode" "_law_mode" (defArgs s__law_mode) (defBody s__law_mode) (defScope s__law_mode) .none kV27 dc27 pm27 an27 cd27 ct27, PySem.W.fnOf "_law_mark" "_law_mark" (defArgs s__law_mark) (defBody s__law_mark) (defScope s__law_mark) .none kV28 dc28 pm28 an28 cd28 ct28, PySem.W.fnOf "law" "law" (defArgs s_law) (defBody s_law) (defScope s_law) .none kV29 dc29 pm29 an29 cd29 ct29]) (pick 0 [C_NoText, C_NoTurning]) := {
    F_term_size := F0,
    B_term_size := F0.binds (ps := ["term"]) fun _ _ _ _ _ _ us hl => match us, hl with | [_], _ => rfl,
    M_term_size := PySem.W.mg_of X G a0,
    F_calls_of := F1,
    B_calls_of := F1.binds (ps := ["term"]) fun _ _ _ _ _ _ us hl => match us, hl with | [_], _ => rfl,
    M_calls_of := PySem.W.mg_of X G a1,
    F_keeps_mark := F2,
    B_keeps_mark := F2.binds (ps := ["term"]) fun _ _ _ _ _ _ us hl => match us, hl with | [_], _ => rfl,
    M_keeps_mark := PySem.W.mg_of X G a2,
    F_run_end := F3,
    B_run_end := F3.binds (ps := ["text", "start", "signs"]) fun _ _ _ _ _ _ us hl => match us, hl with | [_, _, _], _ => rfl,
    M_run_end := PySem.W.mg_of X G a3,
    F_word_end := F4,
    B_word_end := F4.binds (ps := ["text", "start"]) fun _ _ _ _ _ _ us hl => match us, hl with | [_, _], _ => rfl,
    M_word_end := PySem.W.mg_of X G a4,
    F_words := F5,
    B_words := F5.binds (ps := ["text"]) fun _ _ _ _ _ _ us hl => match us, hl with | [_], _ => rfl,
    M_words := PySem.W.mg_of X G a5,
    F_is_name := F6,
    B_is_name := F6.binds (ps := ["word"]) fun _ _ _ _ _ _ us hl => match us, hl with | [_], _ => rfl,
    M_is_name := PySem.W.mg_of X G a6,
    F_is_number := F7,
    B_is_number := F7.binds (ps := ["word"]) fun _ _ _ _ _ _ us hl => match us, hl with | [_], _ => rfl,
    M_is_number := PySem.W.mg_of X G a7,
    F_parted := F8,
    B_parted := F8.binds (ps := ["row", "sign"]) fun _ _ _ _ _ _ us hl => match us, hl with | [_, _], _ => rfl,
    M_parted := PySem.W.mg_of X G a8,
    F_rows_of := F9,
    B_rows_of := F9.binds (ps := ["wood", "kind"]) fun _ _ _ _ _ _ us hl => match us, hl with | [_, _], _ => rfl,
    M_rows_of := PySem.W.mg_of X G a9,
    F_wood_again := F10,
    B_wood_again := F10.binds (ps := ["wood"]) fun _ _ _ _ _ _ us hl => match us, hl with | [_], _ => rfl,
    M_wood_again := PySem.W.mg_of X G a10,
    F_calls_fit := F11,
    B_calls_fit := F11.binds (ps := ["term", "branches", "modes"]) fun _ _ _ _ _ _ us hl => match us, hl with | [_, _, _], _ => rfl,
    M_calls_fit := PySem.W.mg_of X G a11,
    F_is_sound := F12,
    B_is_sound := F12.binds (ps := ["wood", "start", "modes"]) fun _ _ _ _ _ _ us hl => match us, hl with | [_, _, _], _ => rfl,
    M_is_sound := PySem.W.mg_of X G a12,
    F_mark_at := F13,
    B_mark_at := F13.binds (ps := ["row", "here"]) fun _ _ _ _ _ _ us hl => match us, hl with | [_, _], _ => rfl,
    M_mark_at := PySem.W.mg_of X G a13,
    F_call_at := F14,
    B_call_at := F14.binds (ps := ["row", "here"]) fun _ _ _ _ _ _ us hl => match us, hl with | [_, _], _ => rfl,
    M_call_at := PySem.W.mg_of X G a14,
    F_term_at := F15,
    B_term_at := F15.binds (ps := ["row", "here", "depth"]) fun _ _ _ _ _ _ us hl => match us, hl with | [_, _, _], _ => rfl,
    M_term_at := PySem.W.mg_of X G a15,
    F_term_by := F16,
    B_term_by := F16.binds (ps := ["row"]) fun _ _ _ _ _ _ us hl => match us, hl with | [_], _ => rfl,
    M_term_by := PySem.W.mg_of X G a16,
    F_rule_by := F17,
    B_rule_by := F17.binds (ps := ["part"]) fun _ _ _ _ _ _ us hl => match us, hl with | [_], _ => rfl,
    M_rule_by := PySem.W.mg_of X G a17,
    F_numbered := F18,
    B_numbered := F18.binds (ps := ["term", "names"]) fun _ _ _ _ _ _ us hl => match us, hl with | [_, _], _ => rfl,
    M_numbered := PySem.W.mg_of X G a18,
    F_table_by := F19,
    B_table_by := F19.binds (ps := ["wood", "rules"]) fun _ _ _ _ _ _ us hl => match us, hl with | [_, _], _ => rfl,
    M_table_by := PySem.W.mg_of X G a19,
    F_modes_by := F20,
    B_modes_by := F20.binds (ps := ["wood", "table"]) fun _ _ _ _ _ _ us hl => match us, hl with | [_, _], _ => rfl,
    M_modes_by := PySem.W.mg_of X G a20,
    F_read_turning := F21,
    B_read_turning := F21.binds (ps := ["wood", "text"]) fun _ _ _ _ _ _ us hl => match us, hl with | [_, _], _ => rfl,
    M_read_turning := PySem.W.mg_of X G a21,
    F_mode_word := F22,
    B_mode_word := F22.binds (ps := ["number"]) fun _ _ _ _ _ _ us hl => match us, hl with | [_], _ => rfl,
    M_mode_word := PySem.W.mg_of X G a22,
    F_show_mark := F23,
    B_show_mark := F23.binds (ps := ["kept", "add"]) fun _ _ _ _ _ _ us hl => match us, hl with | [_, _], _ => rfl,
    M_show_mark := PySem.W.mg_of X G a23,
    F_show_term := F24,
    B_show_term := F24.binds (ps := ["term"]) fun _ _ _ _ _ _ us hl => match us, hl with | [_], _ => rfl,
    M_show_term := PySem.W.mg_of X G a24,
    F_show_turning := F25,
    B_show_turning := F25.binds (ps := ["turning"]) fun _ _ _ _ _ _ us hl => match us, hl with | [_], _ => rfl,
    M_show_turning := PySem.W.mg_of X G a25,
    F__law_cell_at := F26,
    B__law_cell_at := F26.binds (ps := ["_law_script", "_law_k"]) fun _ _ _ _ _ _ us hl => match us, hl with | [_, _], _ => rfl,
    M__law_cell_at := PySem.W.mg_of X G a26,
    F__law_mode := F27,
    B__law_mode := F27.binds (ps := ["_law_number"]) fun _ _ _ _ _ _ us hl => match us, hl with | [_], _ => rfl,
    M__law_mode := PySem.W.mg_of X G a27,
    F__law_mark := F28,
    B__law_mark := F28.binds (ps := ["_law_kept", "_law_add"]) fun _ _ _ _ _ _ us hl => match us, hl with | [_, _], _ => rfl,
    M__law_mark := PySem.W.mg_of X G a28,
    F_law := F29,
    B_law := F29.binds (ps := ["_law_script"]) fun _ _ _ _ _ _ us hl => match us, hl with | [_], _ => rfl,
    M_law := PySem.W.mg_of X G a29,
    z_any := PySem.W.mg_none_of X G z_any,
    z_enumerate := PySem.W.mg_none_of X G z_enumerate,
    z_int := PySem.W.mg_none_of X G z_int,
    z_isinstance := PySem.W.mg_none_of X G z_isinstance,
    z_len := PySem.W.mg_none_of X G z_len,
    z_list := PySem.W.mg_none_of X G z_list,
    z_range := PySem.W.mg_none_of X G z_range,
    z_str := PySem.W.mg_none_of X G z_str,
    z_sum := PySem.W.mg_none_of X G z_sum,
    z_tuple := PySem.W.mg_none_of X G z_tuple,
    z_zip := PySem.W.mg_none_of X G z_zip,
    k_FIGURES := ⟨u_FIGURES, PySem.W.mg_of X G g_FIGURES, r_FIGURES⟩,
    k_LETTERS := ⟨u_LETTERS, PySem.W.mg_of X G g_LETTERS, r_LETTERS⟩,
    k_SIGNS := ⟨u_SIGNS, PySem.W.mg_of X G g_SIGNS, r_SIGNS⟩,
    cx_NoText := ⟨PySem.W.mg_of X G e_NoText, xe_NoText, xk_NoText, xb_NoText, xt_NoText⟩,
    cx_NoTurning := ⟨PySem.W.mg_of X G e_NoTurning, xe_NoTurning, xk_NoTurning, xb_NoTurning, xt_NoTurning⟩ }
  refine ⟨PySem.W.fnOf "law" "law" (defArgs s_law) (defBody s_law) (defScope s_law) .none kV29 dc29 pm29 an29 cd29 ct29, fun s v => .of_eq rfl, fun base _ _ => ?_⟩
  exact (all_fns (P := l.prog) (w := w) (base := base) T L).g_law
end G
set_option Elab.async false
set_option linter.all false
set_option maxRecDepth 100000
set_option maxHeartbeats 4000000
namespace G
open PySem PySem.Spec L2 Mir
theorem take_head {α : Type} {xs ys : List α} : (xs ++ ys)[xs.length]? = ys.head? := by
  rw [List.getElem?_append_right (Nat.le_refl _)]
  simp [List.head?_eq_getElem?]
/-- run_end goes on while the signs are of the wanted ones -/
theorem run_loop (z : Str) (l : List Nat) (hl : l.length ≤ 1000000) (s : Int) : ∀ (a pre rest : List Nat) (n : Nat), l = pre ++ a ++ rest → (∀ c ∈ a, inS c z = true) → (∀ c, rest.head? = some c → inS c z = false) → a.length < n →
    whileN (tAndE (eB (eBin gLt (eVar 3) (eM (eCa gLen (aCons (eVar 0) aNil)) viewD)) asB) (eB (eBin gIn (eBin gIx (eVar 0) (eVar 3)) (eVar 2)) asB)) (sAug gAddA 3 (eC (.int 1))) n
      [some (.d (.str (tx l))), some (.d (.int s)), some (.d (.str z)), some (.d (.int (pre.length : Nat)))] = .nx [some (.d (.str (tx l))), some (.d (.int s)), some (.d (.str z)), some (.d (.int ((pre.length + a.length : Nat) : Int)))]
  | a, pre, rest, 0, _, _, _, h => by omega
  | [], pre, rest, n + 1, e, ha, hr, h => by
    have gl := gLen_tx l (by omega)
    unfold whileN
    cases rest with
    | nil =>
      have : l.length = pre.length := by rw [e]; simp
      simp [gl, this]
    | cons c rest =>
      have hc : l[pre.length]? = some c := by rw [e, List.append_nil, take_head]; rfl
      have hlt : pre.length < l.length := (List.getElem?_eq_some_iff.mp hc).1
      have ix := gIx_tx hc (by omega)
      have no := hr c rfl
      simp [gl, hlt, ix, gIn_tx, no]
  | c :: a, pre, rest, n + 1, e, ha, hr, h => by
    have gl := gLen_tx l (by omega)
    have hc : l[pre.length]? = some c := by rw [e, List.append_assoc, take_head]; rfl
    have hlt : pre.length < l.length := (List.getElem?_eq_some_iff.mp hc).1
    have ix := gIx_tx hc (by omega)
    have yes := ha c List.mem_cons_self
    have ih := run_loop z l hl s a (pre ++ [c]) rest n (by rw [e]; simp) (fun d hd => ha d (List.mem_cons_of_mem _ hd)) hr (by simp at h; omega)
    have e1 : (pre ++ [c]).length + a.length = pre.length + (c :: a).length := by simp; omega
    rw [e1] at ih
    have e2 : ((pre ++ [c]).length : Int) = (pre.length : Int) + 1 := by simp
    rw [e2] at ih
    unfold whileN
    simp [gl, hlt, ix, gIn_tx, yes] at ih ⊢
    exact ih
theorem run_end_ok (n : Nat) (z : Str) (l pre a rest : List Nat) (e : l = pre ++ a ++ rest) (hl : l.length ≤ 900000) (ha : ∀ c ∈ a, inS c z = true) (hr : ∀ c, rest.head? = some c → inS c z = false) :
    mir (n + 1) 3 [.str (tx l), .int (pre.length : Nat), .str z] = .ok (.d (.int ((pre.length + a.length : Nat) : Int))) := by
  rw [mir_run_end, run_run_end]
  have := run_loop z l (by omega) (pre.length : Nat) a pre rest 1000000 e ha hr (by have := congrArg List.length e; simp at this; omega)
  generalize (1000000 : Nat) = big at *
  simp [this]
/-- a word -/
def Wd (w : List Nat) : Prop := (∃ c, c ∈ sigs ∧ w = [c]) ∨ (w ≠ [] ∧ (∀ c ∈ w, isL c = true) ∧ w.length ≤ 8) ∨ (∃ c r, w = c :: r ∧ (∀ x ∈ w, isF x = true) ∧ w.length ≤ 60 ∧ (c = 48 → r = [])) ∨
  ∃ c r, w = 45 :: c :: r ∧ (∀ x ∈ c :: r, isF x = true) ∧ (c :: r).length ≤ 60 ∧ c ≠ 48
/-- what may follow it -/
def Fol (w rest : List Nat) : Prop := ∀ p x c, w = p ++ [x] → rest.head? = some c → (isL x = true → isL c = false) ∧ (isF x = true → isF c = false)
theorem wd_ne {w : List Nat} (h : Wd w) : w ≠ [] := by
  rcases h with ⟨c, _, rfl⟩ | ⟨h, _⟩ | ⟨c, r, rfl, _⟩ | ⟨c, r, rfl, _⟩ <;> simp_all
theorem isL_sig {c : Nat} (h : isL c = true) : c ∉ sigs ∧ isF c = false ∧ c ≠ 45 ∧ c ≠ 32 := by
  unfold isL at h
  simp only [Bool.and_eq_true, decide_eq_true_eq] at h
  refine ⟨fun z => ?_, ?_, by omega, by omega⟩
  · simp [sigs] at z; omega
  · unfold isF
    have : ¬ c ≤ 57 := by omega
    simp [this]
theorem isF_sig {c : Nat} (h : isF c = true) : c ∉ sigs ∧ isL c = false ∧ c ≠ 45 ∧ c ≠ 32 := by
  unfold isF at h
  simp only [Bool.and_eq_true, decide_eq_true_eq] at h
  refine ⟨fun z => ?_, ?_, by omega, by omega⟩
  · simp [sigs] at z; omega
  · unfold isL
    have : ¬ 97 ≤ c := by omega
    simp [this]
theorem gInt_bool (b : Bool) : gInt [.bool b] = some (.d (.int (if b then 1 else 0))) := rfl
theorem word_end_ok (n : Nat) (l pre w rest : List Nat) (hL : l = pre ++ w ++ rest) (hw : Wd w) (hf : Fol w rest) (hl : l.length ≤ 900000) :
    mir (n + 2) 4 [.str (tx l), .int (pre.length : Nat)] = .ok (.d (.int ((pre.length + w.length : Nat) : Int))) := by
  have hne := wd_ne hw
  obtain ⟨c0, w0, hw0⟩ : ∃ c0 w0, w = c0 :: w0 := by
    cases w with
    | nil => exact absurd rfl hne
    | cons c r => exact ⟨c, r, rfl⟩
  have hc : l[pre.length]? = some c0 := by rw [hL, List.append_assoc, take_head, hw0]; rfl
  have ix := gIx_tx hc (by omega)
  rw [mir_word_end, run_word_end]
  obtain ⟨p, x, hx⟩ : ∃ p x, w = p ++ [x] := by
    rcases List.eq_nil_or_concat w with e | ⟨p, x, e⟩
    · exact absurd e hne
    · exact ⟨p, x, by rw [e, List.concat_eq_append]⟩
  have xin : x ∈ w := by rw [hx]; simp
  have noL : isL c0 = false → mir (n + 1) 3 [.str (tx l), .int (pre.length : Nat), .str abc] = .ok (.d (.int ((pre.length : Nat) : Int))) := fun h => by
    have := run_end_ok n abc l pre [] (w ++ rest) (by rw [hL]; simp) hl (fun c h => by cases h) (fun c hc => by
      rw [hw0] at hc
      cases hc
      rw [inS_abc, h])
    simpa using this
  rcases hw with ⟨c, hs, rfl⟩ | ⟨_, hall, h8⟩ | ⟨c, r, rfl, hall, h60, h0⟩ | ⟨c, r, rfl, hall, h60, h0⟩
  · cases hw0
    have : inS c0 (Str.ofString "();:=|*") = true := by rw [inS_sigs]; exact decide_eq_true hs
    simp [ix, gIn_tx, this]
  · have hL0 := hall c0 (by rw [hw0]; exact List.mem_cons_self)
    have re := run_end_ok n abc l pre w rest hL hl (fun c hc => by rw [inS_abc]; exact hall c hc) (fun c hc => by
      rw [inS_abc, (hf p x c hx hc).1 (hall x xin)])
    have ns : inS c0 (Str.ofString "();:=|*") = false := by rw [inS_sigs]; exact decide_eq_false (isL_sig hL0).1
    have w1 : 0 < w.length := List.length_pos_iff.mpr hne
    have a1 : (pre.length : Int) < (pre.length : Int) + (w.length : Int) := by omega
    have a2 : ¬ (8 : Int) < (pre.length : Int) + (w.length : Int) - (pre.length : Int) := by omega
    simp only [Int.natCast_add] at re ⊢
    simp [ix, gIn_tx, ns, re, w1, a1, a2]
  · have hF0 := hall c List.mem_cons_self
    obtain ⟨q1, _⟩ := List.cons.inj hw0
    subst q1
    have re := run_end_ok n figs l pre (c :: r) rest hL hl (fun c hc => by rw [inS_figs]; exact hall c hc) (fun y hy => by
      rw [inS_figs, (hf p x y hx hy).2 (hall x xin)])
    have ns : inS c (Str.ofString "();:=|*") = false := by rw [inS_sigs]; exact decide_eq_false (isF_sig hF0).1
    have rl := noL (isF_sig hF0).2.1
    have nm : ¬ c = 45 := (isF_sig hF0).2.2.1
    obtain ⟨W, hW⟩ : ∃ W, W = (c :: r).length := ⟨_, rfl⟩
    have hW1 : 1 ≤ W := by rw [hW]; simp
    have h48 : c = 48 → W = 1 := fun h => by rw [hW, h0 h]; rfl
    rw [← hW] at re h60 ⊢
    have a1 : ¬ (60 : Int) < (pre.length : Int) + (W : Int) - (pre.length : Int) := by omega
    have a2 : ¬ (pre.length : Int) + (W : Int) = (pre.length : Int) := by omega
    simp only [Int.natCast_add] at re ⊢
    by_cases h : c = 48
    · have := h48 h
      subst this
      subst h
      have a3 : ¬ (1 : Int) < (pre.length : Int) + 1 - (pre.length : Int) := by omega
      simp only [Int.natCast_one] at re a1 a2 ⊢
      simp [ix, gIn_tx, ns, rl, minus_is, nought_is, gEq_tx, nm, gInt_bool, re, a1, a2, a3]
    · simp [ix, gIn_tx, ns, rl, minus_is, nought_is, gEq_tx, nm, gInt_bool, re, a1, a2, h]
  · obtain ⟨q1, _⟩ := List.cons.inj hw0
    subst q1
    have hF0 := hall c List.mem_cons_self
    have hc1 : l[pre.length + 1]? = some c := by
      rw [hL]
      have : (pre ++ [45]).length = pre.length + 1 := by simp
      rw [← this, show pre ++ 45 :: c :: r ++ rest = (pre ++ [45]) ++ (c :: r ++ rest) by simp, take_head]
      rfl
    have ix1 := gIx_tx hc1 (by omega)
    have xr : ∃ p', c :: r = p' ++ [x] := by
      cases p with
      | nil => simp at hx
      | cons q p =>
        rw [List.cons_append] at hx
        exact ⟨p, (List.cons.inj hx).2⟩
    obtain ⟨p', hx'⟩ := xr
    have xin' : x ∈ c :: r := by rw [hx']; simp
    have re := run_end_ok n figs l (pre ++ [45]) (c :: r) rest (by rw [hL]; simp) hl (fun c hc => by rw [inS_figs]; exact hall c hc) (fun y hy => by
      rw [inS_figs, (hf p x y hx hy).2 (hall x xin')])
    have ns : inS 45 (Str.ofString "();:=|*") = false := by rw [inS_sigs]; decide
    have rl := noL (by decide)
    obtain ⟨W, hW⟩ : ∃ W, W = (c :: r).length := ⟨_, rfl⟩
    have hW1 : 1 ≤ W := by rw [hW]; simp
    have hW2 : (45 :: c :: r).length = W + 1 := by rw [hW]; rfl
    rw [← hW] at re h60
    rw [hW2]
    have e2 : ((pre ++ [45]).length : Int) = (pre.length : Int) + 1 := by simp
    have e3 : (((pre ++ [45]).length + W : Nat) : Int) = (pre.length : Int) + 1 + (W : Int) := by simp
    rw [e2, e3] at re
    have a1 : ¬ (60 : Int) < (pre.length : Int) + 1 + (W : Int) - ((pre.length : Int) + 1) := by omega
    have a2 : ¬ (pre.length : Int) + 1 + (W : Int) = (pre.length : Int) + 1 := by omega
    have e4 : ((pre.length + (W + 1) : Nat) : Int) = (pre.length : Int) + 1 + (W : Int) := by omega
    have ix1' : gIx (.str (tx l)) (.int ((pre.length : Int) + 1)) = some (.str (tx [c])) := ix1
    rw [e4]
    simp [ix, gIn_tx, ns, rl, minus_is, nought_is, gEq_tx, gInt_bool, re, a1, a2, ix1', h0]
def build : List (Nat × List Nat) → Nat → List Nat
  | [], t => List.replicate t 32
  | (b, w) :: r, t => List.replicate b 32 ++ (w ++ build r t)
def Good : List (Nat × List Nat) → Nat → Prop
  | [], _ => True
  | (_, w) :: r, t => Wd w ∧ Fol w (build r t) ∧ Good r t
abbrev wc : Ev → R Bool := (eB (eBin gLt (eVar 2) (eM (eCa gLen (aCons (eVar 0) aNil)) viewD)) asB)
abbrev wb (m : Nat → List PyData → R Ow) : Ev → SR := (sSeq (sIf (eB (eBin gEq (eBin gIx (eVar 0) (eVar 2)) (eC (.str " "))) asB)
    (sSeq (sAug gAddA 2 (eC (.int 1)))
    sCont)
    sSkip)
    (sSeq (sSet 3 (eM (eM (eB (aCons (eVar 0) (aCons (eVar 2) aNil)) (m 4)) viewD) Ow.d))
    (sSeq (sApp 1 (eSl (eVar 0) (eB (eVar 2) asI) (eB (eVar 3) asI)))
    (sSet 2 (eM (eVar 3) Ow.d)))))
theorem w_end (m : Nat → List PyData → R Ow) (l : List Nat) (hl : l.length ≤ 900000) (fs : List Ow) (x : Option Ow) (n : Nat) :
    whileN wc (wb m) (n + 1) [some (.d (.str (tx l))), some (.l fs), some (.d (.int (l.length : Nat))), x] = .nx [some (.d (.str (tx l))), some (.l fs), some (.d (.int (l.length : Nat))), x] := by
  have gl := gLen_tx l (by omega)
  unfold whileN
  simp [gl]
theorem w_blank (m : Nat → List PyData → R Ow) (l : List Nat) (hl : l.length ≤ 900000) (fs : List Ow) (x : Option Ow) (n h : Nat) (hc : l[h]? = some 32) :
    whileN wc (wb m) (n + 1) [some (.d (.str (tx l))), some (.l fs), some (.d (.int (h : Nat))), x] = whileN wc (wb m) n [some (.d (.str (tx l))), some (.l fs), some (.d (.int ((h + 1 : Nat) : Int))), x] := by
  have gl := gLen_tx l (by omega)
  have hlt : h < l.length := (List.getElem?_eq_some_iff.mp hc).1
  have ix := gIx_tx hc (by omega)
  have c1 : wc [some (.d (.str (tx l))), some (.l fs), some (.d (.int (h : Nat))), x] = .ok true := by simp [gl, hlt]
  have c2 : wb m [some (.d (.str (tx l))), some (.l fs), some (.d (.int (h : Nat))), x] = .ct [some (.d (.str (tx l))), some (.l fs), some (.d (.int ((h + 1 : Nat) : Int))), x] := by
    simp [ix, sp_is, gEq_tx, sCont]
  rw [whileN, c1, R.st_ok, if_pos rfl, c2]
theorem w_word (n0 : Nat) (l pre w rest : List Nat) (e : l = pre ++ w ++ rest) (hw : Wd w) (hf : Fol w rest) (hl : l.length ≤ 900000) (fs : List Ow) (hfs : fs.length < 16777216) (x : Option Ow) (n : Nat) :
    whileN wc (wb (mir (n0 + 2))) (n + 1) [some (.d (.str (tx l))), some (.l fs), some (.d (.int (pre.length : Nat))), x] =
    whileN wc (wb (mir (n0 + 2))) n [some (.d (.str (tx l))), some (.l (fs ++ [.d (.str (tx w))])), some (.d (.int ((pre.length + w.length : Nat) : Int))), some (.d (.int ((pre.length + w.length : Nat) : Int)))] := by
  have gl := gLen_tx l (by omega)
  have hne := wd_ne hw
  obtain ⟨c0, w0, hw0⟩ : ∃ c0 w0, w = c0 :: w0 := by
    cases w with
    | nil => exact absurd rfl hne
    | cons c r => exact ⟨c, r, rfl⟩
  have hc : l[pre.length]? = some c0 := by rw [e, List.append_assoc, take_head, hw0]; rfl
  have hlt : pre.length < l.length := (List.getElem?_eq_some_iff.mp hc).1
  have ix := gIx_tx hc (by omega)
  have n32 : ¬ c0 = 32 := by
    have hin : c0 ∈ w := by rw [hw0]; exact List.mem_cons_self
    rcases hw with ⟨c, hs, rfl⟩ | ⟨_, hall, _⟩ | ⟨c, r, rfl, hall, _⟩ | ⟨c, r, rfl, hall, _⟩
    · have : c0 = c := (List.cons.inj hw0).1.symm
      subst this
      intro z; subst z
      simp [sigs] at hs
    · exact (isL_sig (hall c0 hin)).2.2.2
    · exact (isF_sig (hall c0 hin)).2.2.2
    · have : c0 = 45 := (List.cons.inj hw0).1.symm
      omega
  have we := word_end_ok n0 l pre w rest e hw hf hl
  have hlen : pre.length + w.length ≤ l.length := by rw [e]; simp
  have sl := gSl_tx (l := l) hlen (Nat.le_add_right _ _) (by omega)
  have cut : (l.drop pre.length).take (pre.length + w.length - pre.length) = w := by
    subst e
    simp
  rw [cut] at sl
  have c1 : wc [some (.d (.str (tx l))), some (.l fs), some (.d (.int (pre.length : Nat))), x] = .ok true := by simp [gl, hlt]
  obtain ⟨E, hE⟩ : ∃ E : Nat, E = pre.length + w.length := ⟨_, rfl⟩
  rw [← hE] at we sl ⊢
  have c2 : wb (mir (n0 + 2)) [some (.d (.str (tx l))), some (.l fs), some (.d (.int (pre.length : Nat))), x] = .nx [some (.d (.str (tx l))), some (.l (fs ++ [.d (.str (tx w))])), some (.d (.int (E : Int))), some (.d (.int (E : Int)))] := by
    simp [ix, sp_is, gEq_tx, n32, we, sl, sizeLine_eq, hfs]
  rw [whileN, c1, R.st_ok, if_pos rfl, c2]
theorem w_blanks (m : Nat → List PyData → R Ow) (l : List Nat) (hl : l.length ≤ 900000) (fs : List Ow) (x : Option Ow) : ∀ (b n : Nat) (pre rest : List Nat), l = pre ++ (List.replicate b 32 ++ rest) →
    whileN wc (wb m) (n + b) [some (.d (.str (tx l))), some (.l fs), some (.d (.int (pre.length : Nat))), x] = whileN wc (wb m) n [some (.d (.str (tx l))), some (.l fs), some (.d (.int ((pre.length + b : Nat) : Int))), x]
  | 0, n, pre, rest, e => rfl
  | b + 1, n, pre, rest, e => by
    have hc : l[pre.length]? = some 32 := by rw [e, take_head, List.replicate_succ]; rfl
    rw [← Nat.add_assoc, w_blank m l hl fs x (n + b) pre.length hc]
    have ih := w_blanks m l hl fs x b n (pre ++ [32]) rest (by rw [e, List.replicate_succ]; simp)
    have e1 : (pre ++ [32]).length = pre.length + 1 := by simp
    rw [e1, Nat.add_assoc, Nat.add_comm 1 b] at ih
    exact ih
theorem w_all (n0 : Nat) (l : List Nat) (hl : l.length ≤ 900000) (t : Nat) : ∀ (segs : List (Nat × List Nat)) (pre : List Nat) (fs : List Ow) (x : Option Ow) (n : Nat), l = pre ++ build segs t → Good segs t → fs.length + segs.length ≤ 900000 → (build segs t).length < n →
    ∃ y, whileN wc (wb (mir (n0 + 2))) n [some (.d (.str (tx l))), some (.l fs), some (.d (.int (pre.length : Nat))), x] = .nx [some (.d (.str (tx l))), some (.l (fs ++ segs.map fun s => .d (.str (tx s.2)))), some (.d (.int (l.length : Nat))), y]
  | [], pre, fs, x, n, e, _, _, hn => by
    have hb : (build [] t).length = t := by simp [build]
    obtain ⟨k, rfl⟩ : ∃ k, n = k + 1 + t := ⟨n - 1 - t, by omega⟩
    have e' : l = pre ++ (List.replicate t 32 ++ []) := by rw [e]; simp [build]
    rw [w_blanks (mir (n0 + 2)) l hl fs x t (k + 1) pre [] e']
    have el : pre.length + t = l.length := by rw [e']; simp
    rw [el, w_end _ l hl]
    exact ⟨x, by simp⟩
  | (b, w) :: segs, pre, fs, x, n, e, hg, hfs, hn => by
    obtain ⟨g1, g2, g3⟩ := hg
    have w1 : 0 < w.length := List.length_pos_iff.mpr (wd_ne g1)
    have hb : (build ((b, w) :: segs) t).length = b + (w.length + (build segs t).length) := by simp [build]
    obtain ⟨k, rfl⟩ : ∃ k, n = k + 1 + b := ⟨n - 1 - b, by omega⟩
    have e' : l = pre ++ (List.replicate b 32 ++ (w ++ build segs t)) := e
    rw [w_blanks (mir (n0 + 2)) l hl fs x b (k + 1) pre _ e']
    have e2 : l = (pre ++ List.replicate b 32) ++ w ++ build segs t := by rw [e']; simp
    have e3 : (pre ++ List.replicate b 32).length = pre.length + b := by simp
    rw [← e3, w_word n0 l _ w _ e2 g1 g2 hl fs (by simp at hfs; omega)]
    obtain ⟨y, ih⟩ := w_all n0 l hl t segs ((pre ++ List.replicate b 32) ++ w) (fs ++ [.d (.str (tx w))]) (some (.d (.int (((pre ++ List.replicate b 32).length + w.length : Nat) : Int)))) k e2 g3 (by simp at hfs ⊢; omega) (by omega)
    have e4 : ((pre ++ List.replicate b 32) ++ w).length = (pre ++ List.replicate b 32).length + w.length := List.length_append
    rw [e4] at ih
    exact ⟨y, by rw [ih]; simp⟩
theorem words_ok (n0 : Nat) (segs : List (Nat × List Nat)) (t : Nat) (hg : Good segs t) (hs : segs.length ≤ 1000) (hl : (build segs t).length ≤ 900000) :
    mir (n0 + 3) 5 [.str (tx (build segs t))] = .ok (.l (segs.map fun s => .d (.str (tx s.2)))) := by
  rw [mir_words, run_words]
  obtain ⟨l, hL⟩ : ∃ l, l = build segs t := ⟨_, rfl⟩
  rw [← hL] at hl ⊢
  obtain ⟨y, h⟩ := w_all n0 l hl t segs [] [] none 1000000 hL hg (by simp; omega) (by rw [← hL]; omega)
  have isi : gIsi "str" (.str (tx l)) = .ok (.bool true) := rfl
  simp only [List.length_nil, List.nil_append] at h
  have h' : whileN wc (wb (mir (n0 + 2))) 1000000 [some (.d (.str (tx l))), some (.l []), some (.d (.int 0)), none] = .nx [some (.d (.str (tx l))), some (.l (segs.map fun s => .d (.str (tx s.2)))), some (.d (.int (l.length : Nat))), y] := h
  generalize (1000000 : Nat) = big at *
  unfold wc wb at h'
  simp [isi, sizeLine_eq, sRetV, h']
end G
set_option Elab.async false
set_option linter.all false
set_option maxRecDepth 100000
set_option maxHeartbeats 4000000
namespace G
open PySem PySem.Spec L2 Mir
theorem isName_ok (n : Nat) {w : List Nat} (h : NmW w) : mir (n + 1) 6 [.str (tx w)] = .ok (.d (.bool true)) := by
  obtain ⟨c, r, rfl, hc⟩ := h.hd
  have hl := h.2.2
  have i2 : gIx (.str (tx (c :: r))) (.int 0) = some (.str (tx [c])) := gIx_tx (i := 0) rfl (by omega)
  have := gIn_tx c abc
  rw [inS_abc, hc] at this
  rw [mir_is_name, run_is_name]
  simp [i2, this]
theorem isNum_at (n : Nat) (p : List Nat) (x : Nat) (h : (p ++ [x]).length ≤ 100) : mir (n + 1) 7 [.str (tx (p ++ [x]))] = .ok (.d (.bool (isF x))) := by
  have i2 := gIx_last (l := p) (c := x) (by simp at h; omega)
  have := gIn_tx x figs
  rw [inS_figs] at this
  rw [mir_is_number, run_is_number]
  simp [i2, this]
theorem isNum_ik (n : Nat) {k : Int} (h : k.natAbs < 10 ^ 60) : mir (n + 1) 7 [.str (tx (ik k))] = .ok (.d (.bool true)) := by
  obtain ⟨p, x, e, hx⟩ := ik_last k
  have := isNum_at n p x (by rw [← e]; have := ik_len h; omega)
  rw [hx, ← e] at this
  exact this
theorem isNum_no (n : Nat) {w : List Nat} (h : NoMk w) : mir (n + 1) 7 [.str (tx w)] = .ok (.d (.bool false)) := by
  rcases h with rfl | rfl | rfl | h
  · exact isNum_at n [] 40 (by decide)
  · exact isNum_at n [] 41 (by decide)
  · exact isNum_at n [] 42 (by decide)
  · obtain ⟨p, x, e, hx⟩ := h.last
    have := isNum_at n p x (by rw [← e]; have := h.2.2; omega)
    rw [hx, ← e] at this
    exact this
theorem mark_ok (n : Nat) (ws pre post : List (List Nat)) (kp : Bool) (ad : Int) (z : Bool) (ha : ad.natAbs < 10 ^ 60) (hws : ws.length ≤ 100000) (e : ws = pre ++ (ekW kp ++ (adW ad z ++ post))) (hp : ∀ w, post.head? = some w → NoMk w) :
    mir (n + 2) 13 [rowWD ws, .int (pre.length : Nat)] = .ok (.d (.tuple [.bool kp, .int ad, .int ((pre.length + ((ekW kp).length + (adW ad z).length) : Nat) : Int)])) := by
  rw [mir_mark_at, run_mark_at]
  have env0 : envOf 1 [rowWD ws, .int (pre.length : Nat)] = [some (.d (rowWD ws)), some (.d (.int (pre.length : Nat))), none] := rfl
  rw [env0]
  have gl := gLen_rw ws
  obtain ⟨P, hP⟩ : ∃ P : Nat, P = pre.length := ⟨_, rfl⟩
  obtain ⟨W, hW⟩ : ∃ W : Nat, W = ws.length := ⟨_, rfl⟩
  have ix : ∀ (a : List (List Nat)) (w : List Nat) (b : List (List Nat)), ws = a ++ w :: b → gIx (rowWD ws) (.int (a.length : Nat)) = some (.str (tx w)) ∧ a.length < W := fun a w b h => ⟨gIx_rw h, by rw [hW, h]; simp⟩
  rw [← hW] at gl
  rw [← hP]
  obtain ⟨RW, hRW⟩ : ∃ d, d = rowWD ws := ⟨_, rfl⟩
  rw [← hRW] at gl ix ⊢
  have hX : ∀ w, (adW ad z ++ post).head? = some w → w ≠ [61] := fun w hw => by
    unfold adW at hw
    split at hw
    · exact noMk_ne (hp w (by simpa using hw))
    · have : ik ad = w := by simpa using hw
      rw [← this]
      exact ik_ne_sig (by decide)
  -- what is kept
  refine fin_step (env1 := [some (.d RW), some (.d (.int (P : Nat))), some (.d (.bool kp))]) ?_ ?_
  · cases kp with
    | true =>
      obtain ⟨i1, i2⟩ := ix pre [61] (adW ad z ++ post) (by rw [e]; rfl)
      rw [← hP] at i1 i2
      have eq := gEq_tx [61] [61]
      simp [gl, i1, i2, same_is, eq]
    | false =>
      cases hx : adW ad z ++ post with
      | nil =>
        rw [hx] at e
        have : W = P := by rw [hW, hP, e]; simp [ekW]
        simp [gl, this]
      | cons w r =>
        obtain ⟨i1, i2⟩ := ix pre w r (by rw [e, hx]; rfl)
        rw [← hP] at i1 i2
        have eq := gEq_tx w [61]
        rw [decide_eq_false (hX w (by rw [hx]; rfl))] at eq
        simp [gl, i1, i2, same_is, eq]
  obtain ⟨M, hM⟩ : ∃ M : Nat, M = P + (ekW kp).length := ⟨_, rfl⟩
  refine fin_step (env1 := [some (.d RW), some (.d (.int (M : Nat))), some (.d (.bool kp))]) ?_ ?_
  · cases kp with
    | true => rw [hM]; simp [ekW]
    | false => rw [hM]; simp [ekW]
  have pl : (pre ++ ekW kp).length = M := by rw [hM, hP, List.length_append]
  have e2 : ws = (pre ++ ekW kp) ++ (adW ad z ++ post) := by rw [e, List.append_assoc]
  have tot : P + ((ekW kp).length + (adW ad z).length) = M + (adW ad z).length := by omega
  rw [tot]
  by_cases c : ad = 0 ∧ z = false
  · have ea : adW ad z = [] := by unfold adW; rw [if_pos c]
    rw [ea] at e2 ⊢
    rw [List.nil_append] at e2
    obtain ⟨rfl, rfl⟩ := c
    cases post with
    | nil =>
      have : W = M := by rw [hW, ← pl, e2]; simp
      simp [gl, this, sizeLine_eq]
    | cons w r =>
      obtain ⟨i1, i2⟩ := ix _ w r e2
      rw [pl] at i1 i2
      have nn := isNum_no n (hp w rfl)
      simp [gl, i1, i2, nn, sizeLine_eq]
  · have ea : adW ad z = [ik ad] := by unfold adW; rw [if_neg c]
    rw [ea] at e2 ⊢
    obtain ⟨i1, i2⟩ := ix _ (ik ad) post e2
    rw [pl] at i1 i2
    have nn := isNum_ik n ha
    have gi := gInt_ik (k := ad) (by have := ik_len ha; omega)
    simp [gl, i1, i2, nn, gi, sizeLine_eq]
theorem callAt_ok (n : Nat) (ws pre post : List (List Nat)) (nm : List Nat) (k : Int) (hn : NmW nm) (hk : k.natAbs < 10 ^ 60) (hws : ws.length ≤ 100000) (e : ws = pre ++ ([[42], nm, ik k] ++ post)) :
    mir (n + 2) 14 [rowWD ws, .int (pre.length : Nat)] = .ok (.d (.tuple [encNT (.call nm k), .int ((pre.length + 3 : Nat) : Int)])) := by
  rw [mir_call_at, run_call_at, encNT_call]
  have env0 : envOf 0 [rowWD ws, .int (pre.length : Nat)] = [some (.d (rowWD ws)), some (.d (.int (pre.length : Nat)))] := rfl
  rw [env0]
  have gl := gLen_rw ws
  have i1 := gIx_rw (ws := ws) (pre := pre ++ [[42]]) (w := nm) (post := ik k :: post) (by rw [e]; simp)
  have i2 := gIx_rw (ws := ws) (pre := pre ++ [[42], nm]) (w := ik k) (post := post) (by rw [e]; simp)
  have hl : pre.length + 2 < ws.length := by rw [e]; simp
  have l1 : (pre ++ [[42]]).length = pre.length + 1 := by simp
  have l2 : (pre ++ [[42], nm]).length = pre.length + 2 := by simp
  rw [l1] at i1
  rw [l2] at i2
  generalize pre.length = P at *
  generalize ws.length = W at *
  generalize rowWD ws = RW at *
  have n1 := isName_ok n hn
  have n2 := isNum_ik n hk
  have gi := gInt_ik (k := k) (by have := ik_len hk; omega)
  have nl : ¬ ((W : Int) ≤ (P : Int) + 2) := by omega
  have i2 : gIx RW (.int ((P : Int) + 2)) = some (.str (tx (ik k))) := i2
  have i1 : gIx RW (.int ((P : Int) + 1)) = some (.str (tx nm)) := i1
  simp [gl, i1, i2, n1, n2, gi, nl, sizeLine_eq]
end G
set_option Elab.async false
set_option linter.all false
set_option maxRecDepth 100000
set_option maxHeartbeats 4000000
namespace G
open PySem PySem.Spec L2 Mir
noncomputable abbrev tmC : Ev → R Bool := (tOrE (eB (eBin gGe (eVar 1) (eM (eCa gLen (aCons (eVar 0) aNil)) viewD)) asB) (eB (eBin gNe (eBin gIx (eVar 0) (eVar 1)) (eC (.str ")"))) asB))
noncomputable abbrev tmB (m : Nat → List PyData → R Ow) : Ev → SR := (sSeq (sAsg (gtTup 2 (gtCons (gtName 7) (gtCons (gtName 1) gtNil))) (eM (eB (aCons (eVar 0) (aCons (eVar 1) (aCons (eM (eBinO gAdd (eVar 2) (eC (.int 1))) viewD) aNil))) (m 15)) viewD))
    (sApp 6 (eM (eVar 7) Ow.d)))
/-- what a reader of one term tells -/
def RdsT (f : List PyData → R Ow) (T : NT) (lv : Nat) : Prop := ∀ (ws pre post : List (List Nat)), ws.length ≤ 100000 → ws = pre ++ (wT T ++ post) → EndT post → f [rowWD ws, .int (pre.length : Nat), .int (lv : Nat)] = .ok (.d (.tuple [encNT T, .int ((pre.length + (wT T).length : Nat) : Int)]))
theorem wT_hd {T : NT} (ok : okNT T) : ∃ w ww, wT T = w :: ww ∧ w ≠ [41] := by
  cases T with
  | call nm k => exact ⟨_, _, by rw [wT], by decide⟩
  | put nm kp ad z ps =>
    rw [okNT] at ok
    exact ⟨nm, _, by rw [wT], nm_ne_sig ok.1 (by decide)⟩
theorem tm_loop (m : Nat → List PyData → R Ow) (ws : List (List Nat)) (hws : ws.length ≤ 100000) (lv : Nat) (a3 a4 a5 : Option Ow) : ∀ (bs : List NT) (done : List NT) (pre post : List (List Nat)) (n : Nat) (x7 : Option Ow), ws = pre ++ (wTs bs ++ [41] :: post) → okNTs bs → (∀ T ∈ bs, RdsT (m 15) T (lv + 1)) → bs.length < n → done.length + bs.length ≤ 100000 →
    ∃ y7, whileN tmC (tmB m) n [some (.d (rowWD ws)), some (.d (.int (pre.length : Nat))), some (.d (.int (lv : Nat))), a3, a4, a5, some (.l (done.map fun T => .d (encNT T))), x7] = .nx [some (.d (rowWD ws)), some (.d (.int ((pre.length + (wTs bs).length : Nat) : Int))), some (.d (.int (lv : Nat))), a3, a4, a5, some (.l ((done ++ bs).map fun T => .d (encNT T))), y7]
  | [], done, pre, post, n, x7, e, ok, hr, hn, hd => by
    obtain ⟨k, rfl⟩ : ∃ k, n = k + 1 := ⟨n - 1, by simp at hn; omega⟩
    refine ⟨x7, ?_⟩
    rw [wTs, List.nil_append] at e
    have gl := gLen_rw ws
    have ix := gIx_rw e
    have hlt : pre.length < ws.length := by rw [e]; simp
    have ne := gNe_txW [41] [41]
    have c1 : tmC [some (.d (rowWD ws)), some (.d (.int (pre.length : Nat))), some (.d (.int (lv : Nat))), a3, a4, a5, some (.l (done.map fun T => .d (encNT T))), x7] = .ok false := by
      generalize (done.map fun T => Ow.d (encNT T)) = os
      generalize rowWD ws = rw0 at gl ix
      simp [gl, ix, cls_is, ne, hlt]
    rw [whileN, c1, R.st_ok, wTs]
    simp
  | T :: bs, done, pre, post, n, x7, e, ok, hr, hn, hd => by
    obtain ⟨k, rfl⟩ : ∃ k, n = k + 1 := ⟨n - 1, by simp at hn; omega⟩
    rw [okNTs] at ok
    rw [wTs, List.append_assoc] at e
    have rd := hr T List.mem_cons_self ws pre _ hws e (endT_terms ok.2 post)
    obtain ⟨nm, ww, ew, hnm⟩ := wT_hd ok.1
    have e2 : ws = pre ++ nm :: (ww ++ (wTs bs ++ [41] :: post)) := by rw [e, ew]; simp
    have gl := gLen_rw ws
    have ix := gIx_rw e2
    have hlt : pre.length < ws.length := by rw [e2]; simp
    have ne := gNe_txW nm [41]
    rw [decide_eq_false hnm] at ne
    have hdl : done.length < 16777216 := by omega
    obtain ⟨E, hE⟩ : ∃ E, E = pre.length + (wT T).length := ⟨_, rfl⟩
    rw [← hE] at rd
    have dn : (done.map fun T => Ow.d (encNT T)) ++ [Ow.d (encNT T)] = ((done ++ [T]).map fun T => Ow.d (encNT T)) := by simp
    have dl : (done.map fun T => Ow.d (encNT T)).length = done.length := List.length_map _
    have c1 : tmC [some (.d (rowWD ws)), some (.d (.int (pre.length : Nat))), some (.d (.int (lv : Nat))), a3, a4, a5, some (.l (done.map fun T => .d (encNT T))), x7] = .ok true := by
      generalize (done.map fun T => Ow.d (encNT T)) = os
      generalize rowWD ws = rw0 at gl ix
      simp [gl, ix, cls_is, ne]
    have c2 : tmB m [some (.d (rowWD ws)), some (.d (.int (pre.length : Nat))), some (.d (.int (lv : Nat))), a3, a4, a5, some (.l (done.map fun T => .d (encNT T))), x7] = .nx [some (.d (rowWD ws)), some (.d (.int (E : Nat))), some (.d (.int (lv : Nat))), a3, a4, a5, some (.l ((done ++ [T]).map fun T => .d (encNT T))), some (.d (encNT T))] := by
      have lv1 : (((lv + 1 : Nat)) : Int) = (lv : Int) + 1 := by omega
      rw [lv1] at rd
      rw [← dn]
      generalize (done.map fun T => Ow.d (encNT T)) = os at dl
      rw [← dl] at hdl
      generalize rowWD ws = rw0 at rd
      simp [rd, sizeLine_eq, hdl]
    obtain ⟨y7, ih⟩ := tm_loop m ws hws lv a3 a4 a5 bs (done ++ [T]) (pre ++ wT T) post k (some (.d (encNT T))) (by rw [e]; simp) ok.2 (fun U hU => hr U (List.mem_cons_of_mem _ hU)) (by simp at hn; omega) (by simp at hd ⊢; omega)
    refine ⟨y7, ?_⟩
    have l1 : (pre ++ wT T).length = E := by rw [List.length_append, hE]
    rw [l1] at ih
    have l2 : pre.length + (wTs (T :: bs)).length = E + (wTs bs).length := by rw [wTs, List.length_append, hE]; omega
    rw [l2]
    have l3 : done ++ T :: bs = (done ++ [T]) ++ bs := by simp
    rw [l3, ← ih]
    rw [whileN, c1, R.st_ok, if_pos rfl, c2]
theorem termAt_ok : ∀ (n : Nat) (T : NT) (lv : Nat), levNT T ≤ n → levNT T + lv ≤ 9 → okNT T → RdsT (mir (n + 2) 15) T lv
  | 0, .call nm k, lv, h, _, _ => by rw [levNT] at h; omega
  | 0, .put nm kp ad z bs, lv, h, _, _ => by rw [levNT] at h; omega
  | n + 1, .call nm k, lv, h, h9, ok => by
    intro ws pre post hws e he
    rw [okNT] at ok
    rw [mir_term_at, run_term_at]
    rw [wT] at e
    have ca := callAt_ok n ws pre post nm k ok.1 ok.2 hws e
    have gl := gLen_rw ws
    have ix := gIx_rw (ws := ws) (pre := pre) (w := [42]) (post := nm :: ik k :: post) (by rw [e]; rfl)
    have hlt : pre.length < ws.length := by rw [e]; simp
    have eq := gEq_tx [42] [42]
    have env0 : envOf 5 [rowWD ws, .int (pre.length : Nat), .int (lv : Nat)] = [some (.d (rowWD ws)), some (.d (.int (pre.length : Nat))), some (.d (.int (lv : Nat))), none, none, none, none, none] := rfl
    rw [env0]
    have wl : (wT (.call nm k)).length = 3 := by rw [wT]; rfl
    rw [wl]
    generalize rowWD ws = RW at *
    generalize (.tuple [encNT (.call nm k), .int ((pre.length + 3 : Nat) : Int)] : D) = res at *
    simp [gl, ix, hlt, star_is, eq, ca]
  | n + 1, .put nm kp ad z bs, lv, h, h9, ok => by
    intro ws pre post hws e he
    rw [levNT] at h h9
    rw [okNT] at ok
    obtain ⟨hnm, had, hbl, okb⟩ := ok
    rw [mir_term_at, run_term_at]
    rw [wT] at e
    have gl := gLen_rw ws
    have e0 : ws = pre ++ nm :: (ekW kp ++ (adW ad z ++ (brw (wTs bs) ++ post))) := by rw [e]; simp
    have ix0 := gIx_rw e0
    have hlt0 : pre.length < ws.length := by rw [e0]; simp
    have isn := isName_ok (n + 1) hnm
    have env0 : envOf 5 [rowWD ws, .int (pre.length : Nat), .int (lv : Nat)] = [some (.d (rowWD ws)), some (.d (.int (pre.length : Nat))), some (.d (.int (lv : Nat))), none, none, none, none, none] := rfl
    rw [env0]
    have rest : ∀ w, (brw (wTs bs) ++ post).head? = some w → NoMk w := fun w hw => by
      cases bs with
      | nil =>
        rw [wTs] at hw
        rcases he w hw with rfl | rfl | h
        · exact .inr (.inl rfl)
        · exact .inr (.inr (.inl rfl))
        · exact .inr (.inr (.inr h))
      | cons U bs =>
        rw [brwT_some (wTs_ne U bs)] at hw
        have : w = [40] := by simpa using hw.symm
        exact .inl this
    have mk := mark_ok n ws (pre ++ [nm]) (brw (wTs bs) ++ post) kp ad z had hws (by rw [e0]; simp) rest
    have pl1 : (pre ++ [nm]).length = pre.length + 1 := by simp
    rw [pl1] at mk
    obtain ⟨P, hP⟩ : ∃ P : Nat, P = pre.length := ⟨_, rfl⟩
    obtain ⟨W, hW⟩ : ∃ W : Nat, W = ws.length := ⟨_, rfl⟩
    obtain ⟨M, hM⟩ : ∃ M : Nat, M = P + 1 + ((ekW kp).length + (adW ad z).length) := ⟨_, rfl⟩
    rw [← hW] at gl hlt0
    rw [← hP] at ix0 hlt0 mk ⊢
    rw [← hM] at mk
    obtain ⟨RW, hRW⟩ : ∃ d, d = rowWD ws := ⟨_, rfl⟩
    rw [← hRW] at gl ix0 mk ⊢
    have hle0 : ¬ W ≤ P := by omega
    have eq0 := gEq_tx nm [42]
    rw [decide_eq_false (nm_ne_sig hnm (by decide))] at eq0
    have mk : mir (n + 2) 13 [RW, .int ((P : Int) + 1)] = .ok (.d (.tuple [.bool kp, .int ad, .int (M : Nat)])) := mk
    refine fin_step (env1 := [some (.d RW), some (.d (.int (P : Nat))), some (.d (.int (lv : Nat))), none, none, none, none, none]) (by simp [gl, ix0, star_is, eq0]) ?_
    refine fin_step (env1 := [some (.d RW), some (.d (.int (P : Nat))), some (.d (.int (lv : Nat))), none, none, none, none, none]) (by simp [gl, ix0, isn, hle0]) ?_
    refine fin_step (env1 := [some (.d RW), some (.d (.int (P : Nat))), some (.d (.int (lv : Nat))), some (.d (.str (tx nm))), none, none, none, none]) (by simp [ix0]) ?_
    refine fin_step (env1 := [some (.d RW), some (.d (.int (M : Nat))), some (.d (.int (lv : Nat))), some (.d (.str (tx nm))), some (.d (.bool kp)), some (.d (.int ad)), none, none]) (by simp [mk]) ?_
    refine fin_step (env1 := [some (.d RW), some (.d (.int (M : Nat))), some (.d (.int (lv : Nat))), some (.d (.str (tx nm))), some (.d (.bool kp)), some (.d (.int ad)), some (.l []), none]) (by simp [sizeLine_eq]) ?_
    have plM : (pre ++ nm :: (ekW kp ++ adW ad z)).length = M := by rw [hM, hP]; simp; omega
    obtain ⟨E, hE⟩ : ∃ E : Nat, E = P + (wT (.put nm kp ad z bs)).length := ⟨_, rfl⟩
    have hE2 : E = M + (brw (wTs bs)).length := by rw [hE, hM, wT]; simp; omega
    have step7 : ∃ y7, (sIf (tAndE (eB (eBin gLt (eVar 1) (eM (eCa gLen (aCons (eVar 0) aNil)) viewD)) asB) (eB (eBin gEq (eBin gIx (eVar 0) (eVar 1)) (eC (.str "("))) asB))
    (sSeq (sIf (eB (eBin gEq (eVar 2) (eC (.int 8))) asB)
    (sRaise "NoText")
    sSkip)
    (sSeq (sAug gAddA 1 (eC (.int 1)))
    (sSeq (whileN tmC (tmB (mir (n + 2))) 1000000)
    (sSeq (sIf (eB (eBin gEq (eM (eVarO 6) viewD) (eM (eLst aNil) viewD)) asB)
    (sRaise "NoText")
    sSkip)
    (sAug gAddA 1 (eC (.int 1)))))))
    sSkip) [some (.d RW), some (.d (.int (M : Nat))), some (.d (.int (lv : Nat))), some (.d (.str (tx nm))), some (.d (.bool kp)), some (.d (.int ad)), some (.l []), none] = .nx [some (.d RW), some (.d (.int (E : Nat))), some (.d (.int (lv : Nat))), some (.d (.str (tx nm))), some (.d (.bool kp)), some (.d (.int ad)), some (.l (bs.map fun T => .d (encNT T))), y7] := by
      by_cases hb : bs = []
      · subst hb
        rw [wTs] at e0 hE2
        rw [show brw [] = [] from rfl] at e0 hE2
        rw [List.nil_append] at e0
        rw [List.length_nil, Nat.add_zero] at hE2
        rw [hE2]
        refine ⟨none, ?_⟩
        cases hr : post with
        | nil =>
          rw [hr] at e0
          have : W = M := by rw [hW, ← plM, e0]; simp
          have nl : ¬ ((M : Int) < (W : Int)) := by omega
          simp [gl, nl]
        | cons w r =>
          rw [hr] at e0
          have e1 : ws = (pre ++ nm :: (ekW kp ++ adW ad z)) ++ w :: r := by rw [e0]; simp
          have ix1 := gIx_rw e1
          rw [plM, ← hRW] at ix1
          have nw : w ≠ [40] := by
            rcases he w (by rw [hr]; rfl) with rfl | rfl | h
            · decide
            · decide
            · exact nm_ne_sig h (by decide)
          have eq := gEq_tx w [40]
          rw [decide_eq_false nw] at eq
          simp [gl, ix1, opn_is, eq]
      · have hne : wTs bs ≠ [] := by
          obtain ⟨U, cs, e⟩ : ∃ U cs, bs = U :: cs := by
            cases bs with
            | nil => exact absurd rfl hb
            | cons U cs => exact ⟨U, cs, rfl⟩
          rw [e]; exact wTs_ne U cs
        have hlv : lv < 8 := by
          cases bs with
          | nil => exact absurd rfl hb
          | cons U cs =>
            rw [levNTs] at h9
            have : 1 ≤ levNT U := by cases U <;> rw [levNT] <;> omega
            omega
        rw [brwT_some hne] at e0 hE2
        have e1 : ws = (pre ++ nm :: (ekW kp ++ adW ad z)) ++ [40] :: (wTs bs ++ [41] :: post) := by rw [e0]; simp
        have ix1 := gIx_rw e1
        rw [plM, ← hRW] at ix1
        have eq := gEq_tx [40] [40]
        have hlt : M < W := by rw [hW, ← plM, e1]; simp
        have e2 : ws = (pre ++ nm :: (ekW kp ++ adW ad z) ++ [[40]]) ++ (wTs bs ++ [41] :: post) := by rw [e1]; simp
        have bl := wTs_len bs
        have wl : (wTs bs).length ≤ ws.length := by rw [e2]; simp; omega
        obtain ⟨y7, lp⟩ := tm_loop (mir (n + 2)) ws hws lv (some (.d (.str (tx nm)))) (some (.d (.bool kp))) (some (.d (.int ad))) bs [] (pre ++ nm :: (ekW kp ++ adW ad z) ++ [[40]]) post 1000000 none e2 okb (fun T hT => by
          have := levNTs_le (ps := bs) (n := levNTs bs) (Nat.le_refl _) T hT
          exact termAt_ok n T (lv + 1) (by omega) (by omega) ((okNTs_iff _).mp okb T hT)) (by omega) (by simp; omega)
        have l1 : (pre ++ nm :: (ekW kp ++ adW ad z) ++ [[40]]).length = M + 1 := by rw [List.length_append, plM]; rfl
        rw [l1, ← hRW, List.nil_append, List.map_nil] at lp
        refine ⟨y7, ?_⟩
        have hE3 : E = M + 1 + (wTs bs).length + 1 := by rw [hE2]; simp; omega
        have nn : gEq (.list (bs.map fun T => encNT T)) (.list []) = some (.bool false) := by
          have okT' : ∀ d ∈ (bs.map fun T => encNT T), d.canLay0 = true ∧ d.depth ≤ 100 := fun d hd => by
            obtain ⟨T, hT, rfl⟩ := List.mem_map.mp hd
            have a := (okNTs_iff _).mp okb T hT
            have := levNTs_le (ps := bs) (n := levNTs bs) (Nat.le_refl _) T hT
            have hl := depth_encNT T
            exact ⟨can_encNT _ a, by omega⟩
          have n1 : Nice (.list (bs.map fun T => encNT T)) := by
            refine ⟨?_, ?_⟩
            · rw [PyData.canLay0]; exact canAll_of _ fun d hd => (okT' d hd).1
            · rw [PyData.depth]
              have := depthAll_of (n := 100) _ fun d hd => (okT' d hd).2
              omega
          have n0 : Nice (.list []) := ⟨rfl, by simp [PyData.depth, PyData.depthAll]⟩
          rw [gEq_nice n1 n0]
          cases bs with
          | nil => exact absurd rfl hb
          | cons U cs => simp [PyData.eqv, PyData.eqvAll]
        have vw : viewD (.l (bs.map fun T => .d (encNT T))) = .list (bs.map fun T => encNT T) := viewD_of (fun T => encNT T) bs
        have lv8 : gEq (.int (lv : Int)) (.int 8) = some (.bool false) := by
          rw [gEq_int]
          simp
          omega
        generalize (bs.map fun T => Ow.d (encNT T)) = os at lp vw
        generalize (1000000 : Nat) = big at lp
        have lp' : whileN tmC (tmB (mir (n + 2))) big [some (.d RW), some (.d (.int ((M : Int) + 1))), some (.d (.int (lv : Nat))), some (.d (.str (tx nm))), some (.d (.bool kp)), some (.d (.int ad)), some (.l []), none] = .nx [some (.d RW), some (.d (.int ((M + 1 + (wTs bs).length : Nat) : Int))), some (.d (.int (lv : Nat))), some (.d (.str (tx nm))), some (.d (.bool kp)), some (.d (.int ad)), some (.l os), y7] := lp
        have vn : viewD (.l []) = .list [] := by simp
        simp [gl, ix1, opn_is, eq, hlt, lv8, lp', vw, vn, nn, sizeLine_eq, hE3]
    obtain ⟨y7, step7⟩ := step7
    refine fin_step step7 ?_
    have sh := unDs_of (fun T => encNT T) bs
    rw [encNT_put]
    rw [← hE]
    generalize (bs.map fun T => Ow.d (encNT T)) = os at sh
    have hm : bs.map encNT = bs.map fun T => encNT T := rfl
    rw [hm]
    generalize (bs.map fun T => encNT T) = ds at sh
    simp [sh, sizeLine_eq]
theorem termBy_ok (n : Nat) (T : NT) (h : levNT T ≤ n) (h9 : levNT T ≤ 9) (ok : okNT T) (hl : (wT T).length ≤ 100000) : mir (n + 3) 16 [rowWD (wT T)] = .ok (.d (encNT T)) := by
  rw [mir_term_by, run_term_by]
  have rd := termAt_ok n T 0 h (by omega) ok (wT T) [] [] hl (by simp) (fun w hw => by cases hw)
  have gl := gLen_rw (wT T)
  have env0 : envOf 2 [rowWD (wT T)] = [some (.d (rowWD (wT T))), none, none] := rfl
  rw [env0]
  rw [List.length_nil, Nat.zero_add] at rd
  have rd : mir (n + 2) 15 [rowWD (wT T), .int 0, .int 0] = .ok (.d (.tuple [encNT T, .int ((wT T).length : Nat)])) := rd
  generalize rowWD (wT T) = RW at *
  generalize encNT T = ed at *
  have ne : gNe (.int ((wT T).length : Nat)) (.int ((wT T).length : Nat)) = some (.bool false) := by
    rw [gNe_int]
    simp
  simp [rd, gl, ne]
end G
set_option Elab.async false
set_option linter.all false
set_option maxRecDepth 100000
set_option maxHeartbeats 4000000
namespace G
open PySem PySem.Spec L2 Mir
theorem ruleBy_ok (n : Nat) {a b c : List Nat} (ha : NmW a) (hb : NmW b) (hc : NmW c) (T : NT) (h : levNT T ≤ n) (h9 : levNT T ≤ 9) (ok : okNT T) (hl : (wT T).length ≤ 100000) :
    mir (n + 4) 17 [rowWD (a :: b :: c :: [58] :: wT T)] = .ok (.d (.tuple [.str (tx a), .str (tx b), .str (tx c), encNT T])) := by
  rw [mir_rule_by, run_rule_by]
  have tb := termBy_ok n T h h9 ok hl
  have env0 : envOf 1 [rowWD (a :: b :: c :: [58] :: wT T)] = [some (.d (rowWD (a :: b :: c :: [58] :: wT T))), none] := rfl
  rw [env0]
  have gl := gLen_rw (a :: b :: c :: [58] :: wT T)
  have i0 := gIx_rw (ws := a :: b :: c :: [58] :: wT T) (pre := []) (w := a) rfl
  have i1 := gIx_rw (ws := a :: b :: c :: [58] :: wT T) (pre := [a]) (w := b) rfl
  have i2 := gIx_rw (ws := a :: b :: c :: [58] :: wT T) (pre := [a, b]) (w := c) rfl
  have i3 := gIx_rw (ws := a :: b :: c :: [58] :: wT T) (pre := [a, b, c]) (w := [58]) rfl
  have s3 : gSl (rowWD (a :: b :: c :: [58] :: wT T)) none (some 3) = some (.l [.d (.str (tx a)), .d (.str (tx b)), .d (.str (tx c))]) := by
    show some (Ow.l ((cutL ((a :: b :: c :: [58] :: wT T).map fun w => PyData.str (tx w)) none (some 3)).map Ow.d)) = _
    rw [List.map_cons, List.map_cons, List.map_cons]
    have := cutL_take ((.str (tx a) : D) :: .str (tx b) :: .str (tx c) :: (([58] : List Nat) :: wT T).map fun w => PyData.str (tx w)) 3
    rw [show ((3 : Nat) : Int) = 3 from rfl] at this
    rw [this]
    rfl
  have s4 : gSl (rowWD (a :: b :: c :: [58] :: wT T)) (some 4) none = some (.l ((wT T).map fun w => .d (.str (tx w)))) := by
    show some (Ow.l ((cutL ((a :: b :: c :: [58] :: wT T).map fun w => PyData.str (tx w)) (some 4) none).map Ow.d)) = _
    rw [List.map_cons, List.map_cons, List.map_cons, List.map_cons]
    have := cutL_drop ((.str (tx a) : D) :: .str (tx b) :: .str (tx c) :: .str (tx [58]) :: (wT T).map fun w => PyData.str (tx w)) 4
    rw [show ((4 : Nat) : Int) = 4 from rfl] at this
    rw [this]
    simp [Function.comp_def]
  have vl : viewD (.l ((wT T).map fun w => .d (.str (tx w)))) = rowWD (wT T) := viewD_of (fun w : List Nat => PyData.str (tx w)) (wT T)
  have l5 : 5 ≤ (a :: b :: c :: [58] :: wT T).length := by
    obtain ⟨s, ss, e⟩ := wT_ne T
    rw [e]; simp
  generalize (a :: b :: c :: [58] :: wT T).length = L at gl l5
  generalize rowWD (a :: b :: c :: [58] :: wT T) = RD at *
  generalize rowWD (wT T) = RT at *
  generalize ((wT T).map fun w => Ow.d (PyData.str (tx w))) = os at *
  have n1 := isName_ok (n + 2) ha
  have n2 := isName_ok (n + 2) hb
  have n3 := isName_ok (n + 2) hc
  have nl : ¬ ((L : Int) < 5) := by omega
  have i0 : gIx RD (.int 0) = some (.str (tx a)) := i0
  have i1 : gIx RD (.int 1) = some (.str (tx b)) := i1
  have i2 : gIx RD (.int 2) = some (.str (tx c)) := i2
  have i3 : gIx RD (.int 3) = some (.str (tx [58])) := i3
  have ne := gNe_txW [58] [58]
  generalize encNT T = et at *
  simp [gl, i0, i1, i2, i3, s3, s4, vl, tb, n1, n2, n3, nl, cln_is, ne, sizeLine_eq, forL]
end G
set_option Elab.async false
set_option linter.all false
set_option maxRecDepth 100000
set_option maxHeartbeats 4000000
namespace G
open PySem PySem.Spec L2 Mir
theorem build_app : ∀ (a b : List (Nat × List Nat)) (t : Nat), build (a ++ b) t = build a 0 ++ build b t
  | [], b, t => rfl
  | (g, w) :: a, b, t => by rw [List.cons_append, build, build, build_app a b t]; simp
theorem build_one (g : Nat) (w : List Nat) (r : List (Nat × List Nat)) (t : Nat) : build ((g, w) :: r) t = List.replicate g 32 ++ (w ++ build r t) := rfl
theorem build_zero : ∀ ws : List (List Nat), build (ws.map fun w => (0, w)) 0 = ws.flatten
  | [] => rfl
  | w :: ws => by rw [List.map_cons, build_one, build_zero ws]; rfl
theorem build_brS {ss : List (Nat × List Nat)} (h : ss ≠ []) : build (brS ss) 0 = 40 :: (build ss 0 ++ [41]) := by
  cases ss with
  | nil => exact absurd rfl h
  | cons s ss =>
    rw [brS, build_one, build_app]
    rfl
def gluG (g : Nat) : List (List Nat) → List Nat
  | [] => []
  | w :: ws => List.replicate g 32 ++ (w ++ (ws.map fun b => [32] ++ b).flatten)
theorem gluG_one (ws : List (List Nat)) : gluG 1 ws = (ws.map fun b => [32] ++ b).flatten := by
  cases ws with
  | nil => rfl
  | cons w ws => rw [gluG]; simp
mutual
theorem build_sgT : ∀ (T : NT) (g : Nat), build (sgT g T) 0 = List.replicate g 32 ++ txT T
  | .call nm k, g => by
    rw [sgT, txT]
    simp [build]
  | .put nm kp ad z ps, g => by
    rw [sgT, txT, build_one, build_app, build_app, build_zero, build_zero]
    have hb := build_sgTs ps 0
    cases ps with
    | nil => rw [sgTs, txTs]; rfl
    | cons p ps =>
      obtain ⟨w, ss, e⟩ := sgT_ne 0 p
      have ne : sgTs 0 (p :: ps) ≠ [] := by rw [sgTs, e]; simp
      rw [build_brS ne, hb, txTs, brT]
      rfl
theorem build_sgTs : ∀ (ps : List NT) (g : Nat), build (sgTs g ps) 0 = gluG g (txTs ps)
  | [], g => by rw [sgTs, txTs]; rfl
  | p :: ps, g => by
    rw [sgTs, build_app, build_sgT p g, build_sgTs ps 1, gluG_one, txTs, gluG]
    simp
end
def notL (l : List Nat) : Prop := ∀ c, l.head? = some c → isL c = false
def calmT (l : List Nat) : Prop := ∀ c, l.head? = some c → isL c = false ∧ isF c = false
theorem calmT.nl {l : List Nat} (h : calmT l) : notL l := fun c hc => (h c hc).1
theorem fol_nm {w l : List Nat} (h : NmW w) (hl : notL l) : Fol w l := fun p x c e hc => by
  have hx := h.2.1 x (by rw [e]; simp)
  exact ⟨fun _ => hl c hc, fun z => by rw [(isL_sig hx).2.1] at z; cases z⟩
theorem fol_calmT {w l : List Nat} (h : calmT l) : Fol w l := fun p x c _ hc => ⟨fun _ => (h c hc).1, fun _ => (h c hc).2⟩
theorem fol_sgn {c : Nat} {l : List Nat} (h : isL c = false ∧ isF c = false) : Fol [c] l := fun p x d e _ => by
  have ex : x = c := by
    have := congrArg List.getLast? e
    simpa using this.symm
  subst ex
  refine ⟨fun z => ?_, fun z => ?_⟩
  · rw [h.1] at z; cases z
  · rw [h.2] at z; cases z
theorem head_repT (b : Nat) (r : List Nat) (h : 0 < b) : (List.replicate b 32 ++ r).head? = some 32 := by
  obtain ⟨k, rfl⟩ : ∃ k, b = k + 1 := ⟨b - 1, by omega⟩
  simp [List.replicate_succ]
theorem calmT_gap {b : Nat} {w : List Nat} {r : List (Nat × List Nat)} {t : Nat} (h : 1 ≤ b) : calmT (build ((b, w) :: r) t) := by
  intro c hc
  rw [build_one, head_repT b _ h] at hc
  have : c = 32 := by simpa using hc.symm
  subst this; decide
theorem calmT_sgn {d : Nat} {r : List (Nat × List Nat)} {t b : Nat} (h : isL d = false ∧ isF d = false) : calmT (build ((b, [d]) :: r) t) := by
  by_cases z : b = 0
  · subst z
    intro c hc
    have : c = d := by simpa [build] using hc.symm
    subst this; exact h
  · exact calmT_gap (by omega)
theorem calmT_nil (t : Nat) : calmT (build [] t) := by
  intro c hc
  cases t with
  | zero => simp [build] at hc
  | succ t =>
    have : c = 32 := by simpa [build, List.replicate_succ] using hc.symm
    subst this; decide
theorem wd_numT {n : Nat} (h : n < 10 ^ 60) : Wd (TL.numL n) := by
  refine .inr (.inr (.inl ?_))
  have hl := TL.numL_len (n := n) (k := 60) (by decide) h
  have hf := numL_isF n
  by_cases z : n = 0
  · subst z
    rw [numL_zero] at hf hl ⊢
    exact ⟨48, [], rfl, hf, hl, fun _ => rfl⟩
  · obtain ⟨c, r, e, ne⟩ := numL_head n (by omega)
    exact ⟨c, r, e, hf, hl, fun z => absurd z ne⟩
theorem wd_ikT {k : Int} (h : k.natAbs < 10 ^ 60) : Wd (ik k) := by
  cases k with
  | ofNat n => exact wd_numT h
  | negSucc n =>
    have h : n + 1 < 10 ^ 60 := h
    refine .inr (.inr (.inr ?_))
    have hl := TL.numL_len (n := n + 1) (k := 60) (by decide) h
    have hf := numL_isF (n + 1)
    obtain ⟨c, r, e, ne⟩ := numL_head (n + 1) (by omega)
    rw [e] at hf hl
    exact ⟨c, r, by show 45 :: TL.numL (n + 1) = _; rw [e], hf, hl, ne⟩
theorem wd_sgT {c : Nat} (h : c ∈ sigs) : Wd [c] := .inl ⟨c, h, rfl⟩
theorem wd_nmT {w : List Nat} (h : NmW w) : Wd w := .inr (.inl h)
theorem notL_ik {k : Int} (b : Nat) (r : List (Nat × List Nat)) (t : Nat) : notL (build ((b, ik k) :: r) t) := by
  by_cases z : b = 0
  · subst z
    intro c hc
    obtain ⟨f, fs, e, hf⟩ := ik_head k
    have : c = f := by
      rw [build_one, e] at hc
      simpa using hc.symm
    subst this
    rcases hf with hf | rfl
    · exact (isF_sig hf).2.1
    · decide
  · exact (calmT_gap (by omega)).nl
mutual
theorem good_sgT : ∀ (T : NT) (b : Nat) (r : List (Nat × List Nat)) (t : Nat), okNT T → Good r t → calmT (build r t) → Good (sgT b T ++ r) t
  | .call nm k, b, r, t, ok, hg, hc => by
    rw [okNT] at ok
    rw [sgT]
    exact ⟨wd_sgT (by decide), fol_sgn (by decide), wd_nmT ok.1, fol_nm ok.1 (notL_ik _ _ _), wd_ikT ok.2, fol_calmT hc, hg⟩
  | .put nm kp ad z ps, b, r, t, ok, hg, hc => by
    rw [okNT] at ok
    obtain ⟨hn, ha, _, okp⟩ := ok
    have h3 : Good (brS (sgTs 0 ps) ++ r) t ∧ calmT (build (brS (sgTs 0 ps) ++ r) t) := by
      cases ps with
      | nil => rw [sgTs]; exact ⟨hg, hc⟩
      | cons p ps =>
        obtain ⟨w, ss, e⟩ := sgT_ne 0 p
        have cl : Good ((0, [41]) :: r) t := ⟨wd_sgT (by decide), fol_sgn (by decide), hg⟩
        have ih := good_sgTs (p :: ps) 0 ((0, [41]) :: r) t okp cl (calmT_sgn (by decide))
        have e2 : brS (sgTs 0 (p :: ps)) ++ r = (0, [40]) :: (sgTs 0 (p :: ps) ++ ((0, [41]) :: r)) := by rw [sgTs, e, List.cons_append, brS]; simp
        rw [e2]
        exact ⟨⟨wd_sgT (by decide), fol_sgn (by decide), ih⟩, calmT_sgn (by decide)⟩
    have e1 : sgT b (.put nm kp ad z ps) ++ r = (b, nm) :: ((ekW kp).map (fun w => (0, w)) ++ ((adW ad z).map (fun w => (0, w)) ++ (brS (sgTs 0 ps) ++ r))) := by rw [sgT]; simp
    rw [e1]
    generalize brS (sgTs 0 ps) ++ r = R3 at h3
    have h2 : Good ((adW ad z).map (fun w => (0, w)) ++ R3) t ∧ notL (build ((adW ad z).map (fun w => (0, w)) ++ R3) t) := by
      unfold adW
      split
      · exact ⟨h3.1, h3.2.nl⟩
      · exact ⟨⟨wd_ikT ha, fol_calmT h3.2, h3.1⟩, notL_ik _ _ _⟩
    generalize (adW ad z).map (fun w => (0, w)) ++ R3 = R2 at h2
    cases kp with
    | true => exact ⟨wd_nmT hn, fol_nm hn (calmT_sgn (by decide)).nl, wd_sgT (by decide), fol_sgn (by decide), h2.1⟩
    | false => exact ⟨wd_nmT hn, fol_nm hn h2.2, h2.1⟩
theorem good_sgTs : ∀ (ps : List NT) (g : Nat) (r : List (Nat × List Nat)) (t : Nat), okNTs ps → Good r t → calmT (build r t) → Good (sgTs g ps ++ r) t
  | [], g, r, t, _, hg, _ => by rw [sgTs]; exact hg
  | p :: ps, g, r, t, ok, hg, hc => by
    rw [okNTs] at ok
    have ih := good_sgTs ps 1 r t ok.2 hg hc
    rw [sgTs, List.append_assoc]
    refine good_sgT p g _ t ok.1 ih ?_
    cases ps with
    | nil => rw [sgTs]; exact hc
    | cons q ps =>
      obtain ⟨w, ss, e⟩ := sgT_ne 1 q
      rw [sgTs, e]
      exact calmT_gap (Nat.le_refl 1)
end
end G
set_option Elab.async false
set_option linter.all false
set_option maxRecDepth 100000
set_option maxHeartbeats 4000000
namespace G
open PySem PySem.Spec L2 Mir
theorem modeWord_ok (n : Nat) {k : Nat} (h : k < 676) : mir (n + 1) 22 [.int (k : Nat)] = .ok (.d (.str (tx (mw k)))) := by
  rw [mir_mode_word, run_mode_word]
  exact modeWord_fin h
theorem showMark_ok (n : Nat) (kp : Bool) {ad : Int} (h : ad.natAbs < 10 ^ 60) : mir (n + 1) 23 [.bool kp, .int ad] = .ok (.d (.str (tx (mrkT kp ad)))) := by
  rw [mir_show_mark, run_show_mark]
  exact showMark_fin kp h
/-- calls name their modes by the modes' words -/
def NamesOk (ix : List Nat → Int) (ns : List (List Nat)) : Prop := ∀ nm ∈ ns, ∃ k : Nat, k < 676 ∧ mw k = nm ∧ ix nm = (k : Nat)
theorem showTerm_ok (ix : List Nat → Int) : ∀ (n : Nat) (T : NT), levNT T ≤ n → okNT T → noZ T → sizeNT T ≤ 1000 → NamesOk ix (callsNT T) → mir (n + 1) 24 [encM (ntM ix T)] = .ok (.d (.str (tx (txT T))))
  | 0, .call nm k, h, _, _, _, _ => by rw [levNT] at h; omega
  | 0, .put nm kp ad z bs, h, _, _, _, _ => by rw [levNT] at h; omega
  | n + 1, .call nm b, h, ok, _, _, hn => by
    rw [okNT] at ok
    obtain ⟨k, k1, k2, k3⟩ := hn nm (by rw [callsNT]; exact List.mem_singleton.mpr rfl)
    rw [ntM_call, encM_call, k3, txT]
    rw [mir_show_term, run_show_term]
    have mk := modeWord_ok n k1
    rw [k2] at mk
    have env0 : envOf 2 [(.tuple [.str "call", .int (k : Nat), .int b] : D)] = [some (.d (.tuple [.str "call", .int (k : Nat), .int b])), none, none] := rfl
    rw [env0]
    have ec : gEq (.str "call") (.str "call") = some (.bool true) := by rw [gEq_str]; rfl
    have st := gStr_ik (k := b) (Nat.lt_trans ok.2 pow60)
    have il := ik_len ok.2
    have nl := ok.1.2.2
    have a1 := gAdd_tx (a := [42]) (b := nm) (by simp; omega)
    have a2 := gAdd_tx (a := 42 :: nm) (b := ik b) (by simp; omega)
    simp [ec, star_is, mk, st, a1, a2]
  | n + 1, .put nm kp ad z ps, h, ok, hz, hs, hn => by
    rw [okNT] at ok
    obtain ⟨onm, oad, ol, ops⟩ := ok
    rw [noZ] at hz
    obtain ⟨rfl, hzs⟩ := hz
    rw [levNT] at h
    rw [sizeNT] at hs
    rw [mir_show_term, run_show_term, ntM_put, encM_put, List.map_map]
    have mk := showMark_ok n kp oad
    obtain ⟨ES, hES⟩ : ∃ l, l = ps.map (encM ∘ ntM ix) := ⟨_, rfl⟩
    rw [← hES]
    have env0 : envOf 2 [(.tuple [.str "put", .str (tx nm), .bool kp, .int ad, .tuple ES] : D)] = [some (.d (.tuple [.str "put", .str (tx nm), .bool kp, .int ad, .tuple ES])), none, none] := rfl
    rw [env0]
    have ec : gEq (.str "put") (.str "call") = some (.bool false) := by rw [gEq_str]; rfl
    have nl := onm.2.2
    have l1 := ekW_len kp
    have l2 := adW_len oad false
    have ml : (mrkT kp ad).length ≤ 62 := by unfold mrkT; rw [List.length_append]; omega
    have a1 := gAdd_tx (a := nm) (b := mrkT kp ad) (by omega)
    refine fin_step (env1 := [some (.d (.tuple [.str "put", .str (tx nm), .bool kp, .int ad, .tuple ES])), none, none]) (by simp [ec]) ?_
    refine fin_step (env1 := [some (.d (.tuple [.str "put", .str (tx nm), .bool kp, .int ad, .tuple ES])), some (.d (.str (tx (nm ++ mrkT kp ad)))), none]) (by simp [mk, a1]) ?_
    have gl : gLen [(.tuple ES : D)] = some (.d (.int (ps.length : Nat))) := by
      show some (Ow.d (.int ES.length)) = _
      rw [hES, List.length_map]
    have tt : txT (.put nm kp ad false ps) = (nm ++ mrkT kp ad) ++ brT (txTs ps) := by rw [txT]; unfold mrkT; simp
    rw [tt]
    refine fin_step (env1 := [some (.d (.tuple [.str "put", .str (tx nm), .bool kp, .int ad, .tuple ES])), some (.d (.str (tx ((nm ++ mrkT kp ad) ++ brT (txTs ps))))), none]) ?_ rfl
    generalize hB : nm ++ mrkT kp ad = B
    have bl : B.length ≤ 70 := by rw [← hB, List.length_append]; omega
    cases hp : ps with
    | nil =>
      subst hp
      rw [txTs]
      have gl0 : gLen [(.tuple ES : D)] = some (.d (.int 0)) := gl
      simp [gl0, brT]
    | cons q qs =>
      have lc : eLc (eB (eBin gIx (eVar 0) (eC (.int 4))) itD) (gtName 2) cYes (eB (aCons (eVar 2) aNil) (mir (n + 1) 24)) [2] [some (.d (.tuple [.str "put", .str (tx nm), .bool kp, .int ad, .tuple ES])), some (.d (.str (tx B))), none] = .ok (.l (ps.map fun p => .d (.str (tx (txT p))))) := by
        refine eLc_of (ds := ps.map fun p => encM (ntM ix p)) (by rw [hES]; rfl) (by rw [List.length_map, sizeLine_eq]; omega) (lcR_map (fun p => encM (ntM ix p)) (fun p => Ow.d (.str (tx (txT p)))) ps fun p hpm => ⟨[some (.d (.tuple [.str "put", .str (tx nm), .bool kp, .int ad, .tuple ES])), some (.d (.str (tx B))), some (.d (encM (ntM ix p)))], rfl, rfl, ?_⟩)
        have lv := levNTs_le (ps := ps) (n := levNTs ps) (Nat.le_refl _) p hpm
        have sz : sizeNT p ≤ sizeNTs ps := sizeNTs_le hpm
        exact showTerm_ok ix n p (by omega) ((okNTs_iff _).mp ops p hpm) ((noZs_iff _).mp hzs p hpm) (by omega) fun nm' hm => hn nm' (by rw [callsNT, callsNTs_flat]; exact List.mem_flatten.mpr ⟨_, List.mem_map_of_mem hpm, hm⟩)
      have sh := unDs_of (fun p => PyData.str (tx (txT p))) ps
      have tl := txTs_len ps ops
      rw [sum_plusW] at tl
      have jn := gJoin_tx [32] (txTs ps) (by simp; omega)
      have gll := glueW_len [32] (by decide) (txTs ps)
      rw [sum_plusW] at gll
      rw [txTs_map, List.map_map] at jn
      have jn : gJoin (.str (tx [32])) (.list (ps.map fun p => .str (tx (txT p)))) = some (.str (tx (glue [32] (txTs ps)))) := by rw [txTs_map]; exact jn
      have be : brT (txTs ps) = 40 :: (glue [32] (txTs ps) ++ [41]) := by rw [hp, txTs]; rfl
      rw [← hp, be]
      have pos : 0 < ps.length := by rw [hp]; simp
      have a2 := gAdd_tx (a := [40]) (b := glue [32] (txTs ps)) (by simp; omega)
      have a3 := gAdd_tx (a := 40 :: glue [32] (txTs ps)) (b := [41]) (by simp; omega)
      have a4 := addT (a := B) (b := 40 :: (glue [32] (txTs ps) ++ [41])) (by simp; omega)
      generalize (ps.map fun p => Ow.d (PyData.str (tx (txT p)))) = os at lc sh
      generalize (ps.map fun p => PyData.str (tx (txT p))) = ds at jn sh
      have ej : eJoin (eC (.str " ")) (eB (eLc (eB (eBin gIx (eVar 0) (eC (.int 4))) itD) (gtName 2) cYes (eB (aCons (eVar 2) aNil) (mir (n + 1) 24)) [2]) shD) [some (.d (.tuple [.str "put", .str (tx nm), .bool kp, .int ad, .tuple ES])), some (.d (.str (tx B))), none] = R.of (some (.str (tx (glue [32] (txTs ps))))) := by
        rw [← jn]
        exact eJoin_eq (a := tx [32]) (by rw [← sp_is]; rfl) (by rw [eB_eq, lc, R.bind_ok]; simp [sh])
      generalize glue [32] (txTs ps) = G at *
      clear lc
      simp [gl, ej, pos, opn_is, cls_is, a2, a3, a4]
end G
set_option Elab.async false
set_option linter.all false
set_option maxRecDepth 100000
set_option maxHeartbeats 4000000
namespace G
open PySem PySem.Spec L2 Mir
theorem rowsW_ok (n : Nat) (w : Wood) (k : Str) : ∃ o, mir (n + 1) 9 [encWd w, .str k] = .ok o ∧ viewD o = .list ((rowsOf w k).map encRw) := by
  obtain ⟨o, h1, h2⟩ := rowsOf_fin w k
  refine ⟨o, ?_, h2⟩
  rw [mir_rows_of, run_rows_of]
  exact h1
theorem names_ok1 (P : MnP) {k : Nat} (h : k < P.L) : NamesOk P.ix [mw k] := fun nm hm => by
  rw [List.mem_singleton.mp hm]
  have := P.l2
  exact ⟨k, by omega, rfl, P.ix_mw h⟩
theorem show_leaf (n : Nat) (P : MnP) (k : Nat) : mir (n + 5) 24 [encM (ntM P.ix (P.leafN k))] = .ok (.d (.str (tx (txT (P.leafN k))))) := by
  have l := P.leaf_lev k
  exact showTerm_ok P.ix (n + 4) _ (by rw [l.1]; omega) (P.leaf_ok k) (P.noz k).1 (by rw [l.2]; omega) (fun nm hm => by rw [P.names_leaf] at hm; cases hm)
theorem show_f (n : Nat) (P : MnP) {k : Nat} (h : k < P.L) : mir (n + 5) 24 [encM (ntM P.ix (P.fN k))] = .ok (.d (.str (tx (txT (P.fN k))))) := by
  have l := P.f_lev k
  have := P.l2
  exact showTerm_ok P.ix (n + 4) _ (by rw [l.1]; omega) (P.f_ok (by omega)) (P.noz k).2.1 (by rw [l.2]; omega) (by rw [P.names_f]; exact names_ok1 P (P.haft k))
theorem show_st (n : Nat) (P : MnP) : mir (n + 5) 24 [encM (ntM P.ix P.stN)] = .ok (.d (.str (tx (txT P.stN)))) := by
  have l := P.st_lev
  exact showTerm_ok P.ix (n + 4) _ (by rw [l.1]; omega) P.st_ok (P.noz 0).2.2 (by rw [l.2]; omega) (by rw [P.names_st]; exact names_ok1 P P.hf)
theorem lines_len (P : MnP) : ∀ w ∈ txT P.stN :: linesUp 0 P.mds, w.length ≤ 400 := by
  have h2 := P.l2
  have up : ∀ (ps : List SMd) (k : Nat), k + ps.length ≤ 676 → (∀ p ∈ ps, p.1.length ≤ 8 ∧ ∀ q ∈ p.2, q.1.length ≤ 8 ∧ (txT q.2.2).length ≤ 240) → ∀ w ∈ linesUp k ps, w.length ≤ 400 := by
    intro ps
    induction ps with
    | nil => intro k _ _ w hw; rw [linesUp] at hw; cases hw
    | cons p ps ih =>
      intro k hk h w hw
      rw [linesUp] at hw
      rcases List.mem_append.mp hw with hw | hw
      · obtain ⟨q, hq, rfl⟩ := List.mem_map.mp hw
        obtain ⟨a, b⟩ := h p List.mem_cons_self
        have := b q hq
        have ml := (mw_nm (k := k) (by rw [List.length_cons] at hk; omega)).2.2
        unfold lineT
        simp only [List.length_append, List.length_cons, List.length_nil]
        omega
      · exact ih (k + 1) (by rw [List.length_cons] at hk; omega) (fun p hp => h p (List.mem_cons_of_mem _ hp)) w hw
  intro w hw
  rcases List.mem_cons.mp hw with rfl | hw
  · have := P.st_len; omega
  · refine up P.mds 0 (by unfold MnP.mds; rw [List.length_map, List.length_range]; omega) (fun p hp => ?_) w hw
    obtain ⟨k, hk, rfl⟩ := List.mem_map.mp hp
    have hk := List.mem_range.mp hk
    refine ⟨by unfold MnP.md; simp, fun q hq => ?_⟩
    have hq : q ∈ [([110], [], P.leafN k), ([115], [tx [107]], P.fN k)] := hq
    rcases List.mem_cons.mp hq with rfl | hq
    · have := P.leaf_len k
      exact ⟨by simp, by show (txT (P.leafN k)).length ≤ 240; omega⟩
    · rw [List.mem_singleton.mp hq]
      exact ⟨by simp, P.f_len (by omega)⟩
theorem lines_few (P : MnP) : (linesUp 0 P.mds).length < 1000 := by
  have h2 := P.l2
  have up : ∀ (ps : List SMd) (k : Nat), (∀ p ∈ ps, p.2.length = 2) → (linesUp k ps).length = 2 * ps.length := by
    intro ps
    induction ps with
    | nil => intro k _; rw [linesUp]; rfl
    | cons p ps ih =>
      intro k h
      rw [linesUp, List.length_append, ih (k + 1) fun q hq => h q (List.mem_cons_of_mem _ hq), List.length_cons]
      unfold linesAt
      rw [List.length_map, h p List.mem_cons_self]
      omega
  rw [up P.mds 0 fun p hp => by obtain ⟨k, _, rfl⟩ := List.mem_map.mp hp; rfl]
  unfold MnP.mds
  rw [List.length_map, List.length_range]
  omega
theorem showMn_ok (n : Nat) (P : MnP) : mir (n + 6) 25 [encTn P.tn] = .ok (.d (.str (tx (tnT P.stN P.mds)))) := by
  have h2 := P.l2
  rw [mir_show_turning, run_show_turning, P.enc_tn]
  refine showTn_fin P.stN P.mds (by unfold MnP.mds; rw [List.length_map, List.length_range]; omega) (show_st n P) (fun k p hp => ?_) 400 (by omega) (lines_len P) (lines_few P)
  obtain ⟨hk, rfl⟩ := MnP.mds_get P hp
  have rw1 := rowsW_ok (n + 4) MnP.wood (tx [107])
  have mem : ∀ q ∈ (P.md k).2, q = ([110], [], P.leafN k) ∨ q = ([115], [tx [107]], P.fN k) := fun q hq => by
    have hq : q ∈ [([110], [], P.leafN k), ([115], [tx [107]], P.fN k)] := hq
    rcases List.mem_cons.mp hq with h | h
    · exact .inl h
    · exact .inr (List.mem_singleton.mp h)
  have ll := P.leaf_len k
  have fl := P.f_len (k := k) (by omega)
  refine ⟨by omega, rw1, modeWord_ok (n + 4) (by omega), fun q hq => ?_, by unfold MnP.md; simp, fun q hq => ?_, by unfold MnP.md; simp⟩
  · rcases mem q hq with rfl | rfl
    · exact show_leaf n P k
    · exact show_f n P hk
  · rcases mem q hq with rfl | rfl
    · exact ⟨by simp, by show (txT (P.leafN k)).length ≤ 9000; omega⟩
    · exact ⟨by simp, by show (txT (P.fN k)).length ≤ 9000; omega⟩
end G
set_option Elab.async false
set_option linter.all false
set_option maxRecDepth 100000
set_option maxHeartbeats 4000000
namespace G
open PySem PySem.Spec L2 Mir
def TmOk (t : Trm) : Prop := okM t ∧ levM t ≤ 12 ∧ sizeM t ≤ 200
theorem calls_len : ∀ t : Trm, (callsM t).length ≤ sizeM t
  | .call m b => by rw [callsM, sizeM]; simp
  | .put nm kp ad ps => by
    rw [callsM, sizeM]
    have := go ps
    omega
where go : ∀ ps : List Trm, (callsMs ps).length ≤ sizeMs ps
  | [] => by simp [callsMs]
  | p :: ps => by
    rw [callsMs, sizeMs, List.length_append]
    have := calls_len p
    have := go ps
    omega
theorem sizeMs_mem : ∀ {ps : List Trm} {p : Trm}, p ∈ ps → sizeM p ≤ sizeMs ps
  | q :: ps, p, h => by
    rw [sizeMs]
    rcases List.mem_cons.mp h with rfl | h
    · omega
    · have := sizeMs_mem h
      omega
theorem calls_ok : ∀ (n : Nat) (t : Trm), levM t ≤ n → okM t → sizeM t ≤ 1000 → mir n 1 [encM t] = .ok (encCs (callsM t))
  | 0, .call m b, h, _, _ => by rw [levM] at h; omega
  | 0, .put nm kp ad ps, h, _, _ => by rw [levM] at h; omega
  | n + 1, .call m b, h, _, _ => by
    rw [mir_calls_of, run_calls_of]
    exact calls_call _ m b
  | n + 1, .put nm kp ad ps, h, ok, hs => by
    rw [mir_calls_of, run_calls_of]
    rw [levM] at h
    rw [okM, okMs_iff] at ok
    rw [sizeM] at hs
    refine calls_put _ (by have := calls_len.go ps; omega) fun p hp => calls_ok n p (levMs_le (by omega) p hp) (ok.2.2 p hp) (by have := sizeMs_mem hp; omega)
theorem keeps_ok : ∀ (n : Nat) (t : Trm), levM t ≤ n → okM t → mir n 2 [encM t] = .ok (.d (.bool (keepsM t)))
  | 0, .call m b, h, _ => by rw [levM] at h; omega
  | 0, .put nm kp ad ps, h, _ => by rw [levM] at h; omega
  | n + 1, t, h, ok => by
    rw [mir_keeps_mark, run_keeps_mark]
    refine keeps_fin t fun nm kp ad ps e => ?_
    subst e
    rw [levM] at h
    rw [okM, okMs_iff] at ok
    exact ⟨ok.2.1, fun p hp => keeps_ok n p (levMs_le (by omega) p hp) (ok.2.2 p hp)⟩
theorem rows_ok (n : Nat) (w : Wood) (k : Str) : ∃ o, mir (n + 1) 9 [encWd w, .str k] = .ok o ∧ viewD o = rwsD (rowsOf w k) := by
  obtain ⟨o, h1, h2⟩ := rowsOf_fin w k
  refine ⟨o, ?_, h2⟩
  rw [mir_rows_of, run_rows_of]
  exact h1
theorem fit_ok (n : Nat) (t : Trm) (ht : TmOk t) (bs : List Str) (ms : List (Str × List Trm)) : mir (n + 13) 11 [encM t, brD bs, moD ms] = .ok (.d (.bool (fitB (kdsOf ms) bs t))) := by
  obtain ⟨h1, h2, h3⟩ := ht
  rw [mir_calls_fit, run_calls_fit]
  exact fits_fin fitC_ok t bs ms (List.Perm.refl _) (calls_ok (n + 12) t (by omega) h1 (by omega))
theorem isSound_ok (n : Nat) {w : Wood} {s : Trm} {ms : List (Str × List Trm)} (ok : SndOk w s ms) {p0 : Str × List Rw} (h0 : w[0]? = some p0) (hs : TmOk s) (hm : ∀ p ∈ ms, ∀ t ∈ p.2, TmOk t) : mir (n + 14) 12 [encWd w, encM s, moD ms] = .ok (.d (.bool (soundB w p0.1 s ms))) := by
  rw [mir_is_sound, run_is_sound]
  refine isSound_fin ok h0 (keeps_ok (n + 13) s (by have := hs.2.1; omega) hs.1) (fun t ht bs => ?_) fun k => rows_ok (n + 12) w k
  rcases ht with rfl | ⟨p, hp, ht⟩
  · exact fit_ok n _ hs bs ms
  · exact fit_ok n t (hm p hp t ht) bs ms
end G
set_option Elab.async false
set_option linter.all false
set_option maxRecDepth 100000
set_option maxHeartbeats 4000000
namespace G
open PySem PySem.Spec L2 Mir
theorem termSize_ok : ∀ (n : Nat) (T : NT), levNT T ≤ n → okNT T → mir n 0 [encNT T] = .ok (.d (.int (sizeNT T : Nat)))
  | 0, .call nm k, h, _ => by rw [levNT] at h; omega
  | 0, .put nm kp ad z ps, h, _ => by rw [levNT] at h; omega
  | n + 1, .call nm k, _, _ => by
    rw [mir_term_size, run_term_size]
    exact tsize_call _ nm k
  | n + 1, .put nm kp ad z ps, h, ok => by
    rw [levNT] at h
    rw [okNT] at ok
    rw [mir_term_size, run_term_size]
    refine tsize_put _ nm kp ad z ps ok.2.2.1 fun p hp => ?_
    have lv := levNTs_le (ps := ps) (n := levNTs ps) (Nat.le_refl _) p hp
    exact termSize_ok n p (by omega) ((okNTs_iff _).mp ok.2.2.2 p hp)
theorem numbered_ok {ns : List Str} (hs : ∀ z ∈ ns, PyData.strOk z = true) : ∀ (n : Nat) (T : NT), levNT T ≤ n → okNT T → (∀ nm ∈ callsNT T, tx nm ∈ ns) → mir n 18 [encNT T, msD ns] = .ok (.d (encM (ntM (nix ns) T)))
  | 0, .call nm k, h, _, _ => by rw [levNT] at h; omega
  | 0, .put nm kp ad z ps, h, _, _ => by rw [levNT] at h; omega
  | n + 1, .call nm k, _, ok, hc => by
    rw [okNT] at ok
    rw [mir_numbered, run_numbered]
    exact num_call _ k ok.1 hs (hc nm (by rw [callsNT]; exact List.mem_singleton.mpr rfl))
  | n + 1, .put nm kp ad z ps, h, ok, hc => by
    rw [levNT] at h
    rw [okNT] at ok
    rw [mir_numbered, run_numbered]
    refine num_put _ kp ad z ps ok.2.2.1 fun p hp => ?_
    have lv := levNTs_le (ps := ps) (n := levNTs ps) (Nat.le_refl _) p hp
    exact numbered_ok hs n p (by omega) ((okNTs_iff _).mp ok.2.2.2 p hp) fun nm' hm => hc nm' (by rw [callsNT, callsNTs_flat]; exact List.mem_flatten.mpr ⟨_, List.mem_map_of_mem hp, hm⟩)
theorem build_lineS (k : Nat) (kd rn : List Nat) (T : NT) : build (lineS k kd rn T) 0 = [59, 32] ++ lineT k kd rn T := by
  unfold lineS lineT
  rw [build_one, build_one, build_one, build_one, build_one, build_sgT]
  simp
theorem build_linesS : ∀ (k : Nat) (ps : List SMd), build (linesS k ps) 0 = ((linesUp k ps).map fun w => [59, 32] ++ w).flatten
  | _, [] => by rw [linesS, linesUp]; rfl
  | k, p :: ps => by
    rw [linesS, linesUp, build_app, build_linesS (k + 1) ps, List.map_append, List.flatten_append]
    congr 1
    unfold linesAt
    induction p.2 with
    | nil => rfl
    | cons q qs ih =>
      rw [List.map_cons, List.flatten_cons, build_app, build_lineS, ih]
      rfl
theorem good_lineS {k : Nat} (hk : k < 676) {kd rn : List Nat} (h1 : NmW kd) (h2 : NmW rn) {T : NT} (h : okNT T) {r : List (Nat × List Nat)} {t : Nat} (hg : Good r t) (hc : calmT (build r t)) : Good (lineS k kd rn T ++ r) t ∧ calmT (build (lineS k kd rn T ++ r) t) := by
  have g0 := good_sgT T 1 r t h hg hc
  have c0 : calmT (build (sgT 1 T ++ r) t) := by
    obtain ⟨w, ss, e⟩ := sgT_ne 1 T
    rw [e]
    exact calmT_gap (Nat.le_refl 1)
  unfold lineS
  refine ⟨⟨wd_sgT (by decide), fol_sgn (by decide), wd_nmT (mw_nm hk), fol_calmT (calmT_gap (Nat.le_refl 1)), wd_nmT h1, fol_calmT (calmT_gap (Nat.le_refl 1)), wd_nmT h2, fol_calmT (calmT_gap (Nat.le_refl 1)), wd_sgT (by decide), fol_sgn (by decide), g0⟩, calmT_sgn (by decide)⟩
theorem good_linesS : ∀ (k : Nat) (ps : List SMd), k + ps.length ≤ 676 → (∀ p ∈ ps, NmW p.1 ∧ ∀ q ∈ p.2, NmW q.1 ∧ okNT q.2.2) → Good (linesS k ps) 0 ∧ calmT (build (linesS k ps) 0)
  | _, [], _, _ => by rw [linesS]; exact ⟨trivial, calmT_nil 0⟩
  | k, p :: ps, hk, h => by
    have ih := good_linesS (k + 1) ps (by rw [List.length_cons] at hk; omega) fun q hq => h q (List.mem_cons_of_mem _ hq)
    rw [linesS]
    obtain ⟨h1, h2⟩ := h p List.mem_cons_self
    generalize p.2 = qs at h2
    induction qs with
    | nil => exact ih
    | cons q qs ih2 =>
      have r := ih2 fun q' hq' => h2 q' (List.mem_cons_of_mem _ hq')
      rw [List.map_cons, List.flatten_cons, List.append_assoc]
      exact good_lineS (by rw [List.length_cons] at hk; omega) h1 (h2 q List.mem_cons_self).1 (h2 q List.mem_cons_self).2 r.1 r.2
theorem tnT_build (st : NT) (ms : List SMd) : tnT st ms = build (sgT 0 st ++ linesS 0 ms) 0 := by
  rw [build_app, build_sgT, build_linesS]
  rfl
/-- the words of a turning's text, parted -/
theorem wordsTn_ok (n : Nat) (st : NT) (ms : List SMd) (ok : okNT st) (hk : ms.length ≤ 400) (h : ∀ p ∈ ms, NmW p.1 ∧ ∀ q ∈ p.2, NmW q.1 ∧ okNT q.2.2) (hl : (sgT 0 st ++ linesS 0 ms).length ≤ 1000) (hb : (tnT st ms).length ≤ 900000) :
    mir (n + 3) 5 [.str (tx (tnT st ms))] = .ok (.l ((wT st ++ ((linesW 0 ms).map fun w => [59] :: w).flatten).map fun w => .d (.str (tx w)))) := by
  obtain ⟨g, c⟩ := good_linesS 0 ms (by omega) h
  have gd := good_sgT st 0 (linesS 0 ms) 0 ok g c
  have := words_ok n (sgT 0 st ++ linesS 0 ms) 0 gd hl (by rw [← tnT_build]; exact hb)
  rw [← tnT_build] at this
  rw [this]
  have e : (sgT 0 st ++ linesS 0 ms).map (·.2) = wT st ++ ((linesW 0 ms).map fun w => [59] :: w).flatten := by rw [List.map_append, sgT_w, linesS_w]
  rw [← e, List.map_map]
  rfl
end G
set_option Elab.async false
set_option linter.all false
set_option maxRecDepth 100000
set_option maxHeartbeats 4000000
namespace G
open PySem PySem.Spec L2 Mir
theorem parted_ok (n : Nat) (ws : List (List Nat)) (hl : ws.length ≤ 100000) : mir (n + 1) 8 [rowWD ws, .str ";"] = .ok (.l ((splitA [59] [] ws).map rowWO)) := by
  rw [mir_parted, run_parted, smc_is]
  exact parted_fin ws [59] hl
theorem view_rows (pcs : List (List (List Nat))) : viewD (.l (pcs.map rowWO)) = .list (pcs.map fun p => rowWD p) := by
  rw [viewD_l, viewAll_map, List.map_map]
  congr 1
  refine List.map_congr_left fun p _ => ?_
  exact viewD_of (fun w : List Nat => PyData.str (tx w)) p
theorem segs_len (P : MnP) (hL : P.L ≤ 20) : (sgT 0 P.stN ++ linesS 0 P.mds).length ≤ 1000 := by
  have tl : ∀ T : NT, okNT T → ∀ g, (sgT g T).length ≤ 6 * sizeNT T := by
    intro T ok g
    have := sgT_small T g
    omega
  have h0 := tl _ P.st_ok 0
  rw [P.st_lev.2] at h0
  have up : ∀ (ps : List SMd) (k : Nat), (∀ p ∈ ps, ∃ j, j < P.L ∧ p = P.md j) → (linesS k ps).length ≤ 34 * ps.length := by
    intro ps
    induction ps with
    | nil => intro k _; rw [linesS]; simp
    | cons p ps ih =>
      intro k h
      rw [linesS, List.length_append, List.length_cons]
      have := ih (k + 1) fun q hq => h q (List.mem_cons_of_mem _ hq)
      obtain ⟨j, hj, rfl⟩ := h p List.mem_cons_self
      have a := tl _ (P.leaf_ok j) 1
      have b := tl _ (P.f_ok (k := j) (by have := P.l2; omega)) 1
      rw [(P.leaf_lev j).2] at a
      rw [(P.f_lev j).2] at b
      have : (((P.md j).2.map fun q => lineS k (P.md j).1 q.1 q.2.2).flatten).length ≤ 34 := by
        show (([lineS k [107] [110] (P.leafN j), lineS k [107] [115] (P.fN j)] : List (List (Nat × List Nat))).flatten).length ≤ 34
        unfold lineS
        simp only [List.flatten_cons, List.flatten_nil, List.length_append, List.length_cons, List.length_nil]
        omega
      omega
  have := up P.mds 0 fun p hp => P.mds_mem hp
  rw [P.mds_len] at this
  rw [List.length_append]
  omega
theorem text_len (P : MnP) : (tnT P.stN P.mds).length ≤ 900000 := by
  have := (gJoinL [59, 32] (by decide) (txT P.stN :: linesUp 0 P.mds) 400 (by rw [List.length_cons]; have := lines_few P; omega) (lines_len P) (by omega)).2
  have h2 := lines_few P
  unfold tnT
  rw [List.length_cons] at this
  omega
theorem pieces (P : MnP) : splitA [59] [] (wT P.stN ++ ((linesW 0 P.mds).map fun w => [59] :: w).flatten) = wT P.stN :: linesW 0 P.mds := by
  have := split_join (s := [59]) (ps := wT P.stN :: linesW 0 P.mds) (fun p hp => by
    rcases List.mem_cons.mp hp with rfl | hp
    · exact wT_nosemi _ P.st_ok
    · rw [linesW_q] at hp
      obtain ⟨q, hq, rfl⟩ := List.mem_map.mp hp
      obtain ⟨i, p, h1, h2, h3, x, hx, h4, h5⟩ := quads_mem hq
      obtain ⟨hi, rfl⟩ := P.mds_get h1
      obtain ⟨m1, m2⟩ := P.md_rows hi
      have := P.l2
      unfold qdW
      rw [h2, h3, h4, h5]
      exact line_nosemi (by omega) m1 (m2 x hx).1 (m2 x hx).2) (by simp)
  exact this
theorem quad_ok (P : MnP) (n : Nat) {q : Qd} (hq : q ∈ quads 0 P.mds) : mir (n + 6) 17 [rowWD (qdW q)] = .ok (.d (qdD q)) ∧ mir (n + 6) 0 [encNT q.2.2.2] = .ok (.d (.int (sizeNT q.2.2.2 : Nat))) := by
  obtain ⟨i, p, h1, h2, h3, x, hx, h4, h5⟩ := quads_mem hq
  obtain ⟨hi, rfl⟩ := P.mds_get h1
  obtain ⟨m1, m2⟩ := P.md_rows hi
  have := P.l2
  obtain ⟨a, b, c, T⟩ := q
  simp only at h2 h3 h4 h5
  subst h2 h3 h4 h5
  have ok := m2 x hx
  have lev : levNT x.2.2 ≤ 2 := by
    have hx : x ∈ [([110], [], P.leafN i), ([115], [tx [107]], P.fN i)] := hx
    rcases List.mem_cons.mp hx with rfl | hx
    · show levNT (P.leafN i) ≤ 2
      rw [(P.leaf_lev i).1]; omega
    · rw [List.mem_singleton.mp hx]
      show levNT (P.fN i) ≤ 2
      rw [(P.f_lev i).1]; omega
  have sz := wT_small x.2.2
  have szn : sizeNT x.2.2 ≤ 3 := by
    have hx : x ∈ [([110], [], P.leafN i), ([115], [tx [107]], P.fN i)] := hx
    rcases List.mem_cons.mp hx with rfl | hx
    · show sizeNT (P.leafN i) ≤ 3
      rw [(P.leaf_lev i).2]; omega
    · rw [List.mem_singleton.mp hx]
      show sizeNT (P.fN i) ≤ 3
      rw [(P.f_lev i).2]; omega
  have iw : 0 + i < 676 := by omega
  exact ⟨ruleBy_ok (n + 2) (mw_nm iw) m1 ok.1 x.2.2 (by omega) (by omega) ok.2 (by omega), termSize_ok (n + 6) x.2.2 (by omega) ok.2⟩
theorem tableMn_ok (P : MnP) (n : Nat) : mir (n + 2) 19 [encWd MnP.wood, .list (rusD P.tb)] = .ok (tbK P.tb) := by
  have h2 := P.l2
  have rl : (rusD P.tb).length ≤ 100000 := by
    unfold MnP.tb
    rw [rusD_q, List.length_map, quads_len (c := 2) 0 P.mds fun p hp => by obtain ⟨k, _, rfl⟩ := P.mds_mem hp; rfl, P.mds_len]
    omega
  rw [mir_table_by, run_table_by]
  refine tableBy_fin P.tb (fun e he => ?_) (by rw [P.tb_names]; exact P.ns_nd) (by rw [P.tb_len]; omega) rl
  obtain ⟨i, hi⟩ := List.mem_iff_getElem?.mp he
  obtain ⟨hk, rfl⟩ := P.tb_get hi
  obtain ⟨o, o1, o2⟩ := rowsW_ok n MnP.wood (tx [107])
  have rw1 : rowsOf MnP.wood (tx [107]) = [⟨tx [110], []⟩, ⟨tx [115], [tx [107]]⟩] := by
    show (bif (tx [107] == tx [107]) then _ else _) = _
    rw [beq_self_eq_true]
    rfl
  rw [rw1] at o2
  have sok : ∀ c, isL c = true → PyData.strOk (tx [c]) = true := fun c hc => (MnP.nm_one hc).ok
  have ne : tx [110] ≠ tx [115] := fun z => by have := tx_inj z; cases this
  refine ⟨sok 107 (by decide), ⟨_, ⟨o, o1, o2⟩, fun p hp => ?_, fun r hr => ?_, by simp⟩, by simp [ne], by simp, by simp⟩
  · have hp : p ∈ [(tx [110], encNT (P.leafN i)), (tx [115], encNT (P.fN i))] := hp
    rcases List.mem_cons.mp hp with rfl | hp
    · exact List.mem_cons_self
    · rw [List.mem_singleton.mp hp]
      exact List.mem_cons_of_mem _ List.mem_cons_self
  · rcases List.mem_cons.mp hr with rfl | hr
    · exact sok 110 (by decide)
    · rw [List.mem_singleton.mp hr]
      exact sok 115 (by decide)
theorem num_leaf (P : MnP) (n : Nat) (k : Nat) : mir (n + 2) 18 [encNT (P.leafN k), msD P.ns] = .ok (.d (encM (ntM P.ix (P.leafN k)))) :=
  numbered_ok P.ns_ok (n + 2) _ (by rw [(P.leaf_lev k).1]; omega) (P.leaf_ok k) fun nm h => by rw [P.names_leaf] at h; cases h
theorem num_f (P : MnP) (n : Nat) {k : Nat} (hk : k < P.L) : mir (n + 2) 18 [encNT (P.fN k), msD P.ns] = .ok (.d (encM (ntM P.ix (P.fN k)))) :=
  numbered_ok P.ns_ok (n + 2) _ (by rw [(P.f_lev k).1]; omega) (P.f_ok (by have := P.l2; omega)) fun nm h => by
    rw [P.names_f, List.mem_singleton] at h
    rw [h]
    exact P.ns_mem (P.haft k)
theorem num_st (P : MnP) (n : Nat) : mir (n + 2) 18 [encNT P.stN, msD P.ns] = .ok (.d (encM (ntM P.ix P.stN))) :=
  numbered_ok P.ns_ok (n + 2) _ (by rw [P.st_lev.1]; omega) P.st_ok fun nm h => by
    rw [P.names_st, List.mem_singleton] at h
    rw [h]
    exact P.ns_mem P.hf
theorem modesMn_ok (P : MnP) (n : Nat) : ∃ os, mir (n + 3) 20 [encWd MnP.wood, .dict (P.tb.map teP)] = .ok (.l os) ∧ viewD (.l os) = .list (P.mds.map (mdS P.ix)) := by
  have h2 := P.l2
  have h1 := P.l1
  have ne : P.tb ≠ [] := fun z => by have := P.tb_len; rw [z] at this; simp at this; omega
  have rw1 : rowsOf MnP.wood (tx [107]) = [⟨tx [110], []⟩, ⟨tx [115], [tx [107]]⟩] := by
    show (bif (tx [107] == tx [107]) then _ else _) = _
    rw [beq_self_eq_true]
    rfl
  have nsne : (tx [110] == tx [115]) = false := by
    rw [beq_eq_false_iff_ne]
    intro z
    have := tx_inj z
    cases this
  have fin := modesBy_fin (f9 := mir (n + 2) 9) (f18 := mir (n + 2) 18) (WD := encWd MnP.wood) P.tb (P.mds.map (rulesS P.ix)) (by rw [List.length_map, P.mds_len, P.tb_len]) ne (by rw [P.tb_len]; omega) (fun i e ts hi ht => by
    obtain ⟨hk, rfl⟩ := P.tb_get hi
    rw [List.getElem?_map, P.mds_at hk] at ht
    have ht : [encM (ntM P.ix (P.leafN i)), encM (ntM P.ix (P.fN i))] = ts := Option.some.inj ht
    subst ht
    obtain ⟨o, o1, o2⟩ := rowsW_ok (n + 1) MnP.wood (tx [107])
    rw [rw1] at o2
    rw [P.tb_names]
    refine ⟨⟨_, ⟨o, o1, o2⟩, rfl, fun j r t hr ht => ?_⟩, by simp, by simp⟩
    cases j with
    | zero =>
      have hr : (⟨tx [110], []⟩ : Rw) = r := by simpa using hr
      have ht : encM (ntM P.ix (P.leafN i)) = t := by simpa using ht
      subst hr ht
      refine ⟨encNT (P.leafN i), ?_, num_leaf P n i⟩
      unfold getP tbP
      simp [keyEq_str]
    | succ j =>
      cases j with
      | zero =>
        have hr : (⟨tx [115], [tx [107]]⟩ : Rw) = r := by simpa using hr
        have ht : encM (ntM P.ix (P.fN i)) = t := by simpa using ht
        subst hr ht
        refine ⟨encNT (P.fN i), ?_, num_f P n hk⟩
        unfold getP tbP
        simp [keyEq_str, nsne]
      | succ j => simp at hr)
  refine ⟨_, by rw [mir_modes_by, run_modes_by]; exact fin, ?_⟩
  rw [viewD_l, viewAll_mapd]
  congr 1
  refine List.ext_getElem? fun i => ?_
  rw [List.getElem?_zipWith, List.getElem?_map, List.getElem?_map]
  by_cases c : i < P.L
  · rw [P.mds_at c]
    cases hi : P.tb[i]? with
    | none =>
      have := List.getElem?_eq_none_iff.mp hi
      rw [P.tb_len] at this
      omega
    | some e =>
      obtain ⟨_, rfl⟩ := P.tb_get hi
      rfl
  · rw [List.getElem?_eq_none (by rw [P.tb_len]; omega), List.getElem?_eq_none (by rw [P.mds_len]; omega)]
    rfl
theorem soundMn_ok (P : MnP) (n : Nat) : mir (n + 14) 12 [encWd MnP.wood, encM (ntM P.ix P.stN), .list (P.mds.map (mdS P.ix))] = .ok (.d (.bool true)) := by
  have h2 := P.l2
  have tmok : ∀ T : NT, okNT T → levNT T ≤ 12 → sizeNT T ≤ 200 → TmOk (ntM P.ix T) := fun T h1 h3 h4 => ⟨okM_nt _ T h1, by rw [levM_nt]; exact h3, by rw [sizeM_nt]; exact h4⟩
  have so : SndOk MnP.wood P.tn.start P.tn.modes := {
    kinds := fun p hp => by rw [List.mem_singleton.mp hp]; exact (MnP.nm_one (by decide)).ok
    few := by unfold MnP.wood; simp
    dist := by unfold MnP.wood; simp
    mkinds := fun p hp => by
      obtain ⟨k, _, rfl⟩ := List.mem_map.mp hp
      exact (MnP.nm_one (by decide)).ok }
  have := isSound_ok n so (p0 := (tx [107], [⟨tx [110], []⟩, ⟨tx [115], [tx [107]]⟩])) rfl (tmok _ P.st_ok (by rw [P.st_lev.1]; omega) (by rw [P.st_lev.2]; omega)) (fun p hp t ht => by
    obtain ⟨k, hk, rfl⟩ := List.mem_map.mp hp
    have hk := List.mem_range.mp hk
    have ht : t ∈ [ntM P.ix (P.leafN k), ntM P.ix (P.fN k)] := ht
    rcases List.mem_cons.mp ht with rfl | ht
    · exact tmok _ (P.leaf_ok k) (by rw [(P.leaf_lev k).1]; omega) (by rw [(P.leaf_lev k).2]; omega)
    · rw [List.mem_singleton.mp ht]
      exact tmok _ (P.f_ok (by omega)) (by rw [(P.f_lev k).1]; omega) (by rw [(P.f_lev k).2]; omega))
  rw [P.sound, P.mo_eq] at this
  exact this
theorem woodAgain_ok (n : Nat) : ∃ o, mir (n + 1) 10 [encWd MnP.wood] = .ok o ∧ viewD o = encWd MnP.wood := by
  rw [mir_wood_again, run_wood_again]
  have lc : eLc (eB (eVar 0) itD) (gtTup 2 (gtCons (gtName 1) (gtCons (gtName 2) gtNil))) cYes (eM (eTup (aCons (eVar 1) (aCons (eM (eCa gList (aCons (eVar 2) aNil)) viewD) aNil))) Ow.d) [1, 2] [some (.d (encWd MnP.wood)), none, none] = .ok (.l (MnP.wood.map fun p => .d (encKd p))) := by
    refine eLc_of (ds := MnP.wood.map encKd) rfl (by unfold MnP.wood; rw [sizeLine_eq]; simp) (lcR_map encKd (fun p => Ow.d (encKd p)) MnP.wood fun p hp => ⟨[some (.d (encWd MnP.wood)), some (.d (.str p.1)), some (.d (.list (p.2.map encRw)))], rfl, rfl, ?_⟩)
    have gl : gList [.list (p.2.map encRw)] = some (.l ((p.2.map encRw).map Ow.d)) := rfl
    have vl : viewD (.l ((p.2.map encRw).map Ow.d)) = .list (p.2.map encRw) := by rw [viewD_l, viewAll_mapd]
    generalize (p.2.map encRw).map Ow.d = os at *
    unfold encKd
    simp [gl, vl, sizeLine_eq]
  refine ⟨.l (MnP.wood.map fun p => .d (encKd p)), ?_, ?_⟩
  · have he : envOf 2 [encWd MnP.wood] = [some (.d (encWd MnP.wood)), none, none] := rfl
    rw [he]
    generalize (MnP.wood.map fun p => Ow.d (encKd p)) = os at *
    generalize encWd MnP.wood = WD at *
    simp [lc]
  · exact viewD_of encKd MnP.wood
end G
set_option Elab.async false
set_option linter.all false
set_option maxRecDepth 100000
set_option maxHeartbeats 4000000
namespace G
open PySem PySem.Spec L2 Mir
theorem readMn_ok (P : MnP) (hL : P.L ≤ 20) (n : Nat) : mir (n + 20) 21 [encWd MnP.wood, .str (tx (tnT P.stN P.mds))] = .ok (.d (encTn P.tn)) := by
  have h1 := P.l1
  rw [mir_read_turning, run_read_turning]
  obtain ⟨TX, hTX⟩ : ∃ l, l = tnT P.stN P.mds := ⟨_, rfl⟩
  obtain ⟨WD, hWD⟩ : ∃ d, d = encWd MnP.wood := ⟨_, rfl⟩
  obtain ⟨ws, hws⟩ : ∃ ws, ws = wT P.stN ++ ((linesW 0 P.mds).map fun w => [59] :: w).flatten := ⟨_, rfl⟩
  have wl : ws.length ≤ 1000 := by
    have := segs_len P hL
    have e : (sgT 0 P.stN ++ linesS 0 P.mds).map (·.2) = ws := by rw [List.map_append, sgT_w, linesS_w, hws]
    have e2 := congrArg List.length e
    rw [List.length_map] at e2
    omega
  have wo := wordsTn_ok (n + 16) P.stN P.mds P.st_ok (by rw [P.mds_len]; omega) (fun p hp => by obtain ⟨k, hk, rfl⟩ := P.mds_mem hp; exact P.md_rows hk) (segs_len P hL) (text_len P)
  rw [← hws, ← hTX] at wo
  have vw : viewD (.l (ws.map fun w => .d (.str (tx w)))) = rowWD ws := viewD_of (fun w : List Nat => PyData.str (tx w)) ws
  have pa := parted_ok (n + 18) ws (by omega)
  have pc : splitA [59] [] ws = wT P.stN :: linesW 0 P.mds := by rw [hws]; exact pieces P
  rw [pc] at pa
  have vp := view_rows (wT P.stN :: linesW 0 P.mds)
  obtain ⟨PD, hPD⟩ : ∃ d : D, d = .list ((wT P.stN :: linesW 0 P.mds).map fun p => rowWD p) := ⟨_, rfl⟩
  rw [← hPD] at vp
  have he : envOf 8 [WD, .str (tx TX)] = [some (.d WD), some (.d (.str (tx TX))), none, none, none, none, none, none, none, none] := rfl
  rw [← hWD, ← hTX, he]
  refine fin_step (env1 := [some (.d WD), some (.d (.str (tx TX))), some (.d PD), none, none, none, none, none, none, none]) ?_ ?_
  · generalize (wT P.stN :: linesW 0 P.mds).map rowWO = os at pa vp
    generalize (ws.map fun w => Ow.d (PyData.str (tx w))) = os2 at wo vw
    generalize rowWD ws = RW at vw pa
    simp [wo, vw, pa, vp]
  -- the start
  have i0 : gIx PD (.int 0) = some (rowWD (wT P.stN)) := by
    rw [hPD, List.map_cons]
    exact atI_0 _ _
  have ts := termBy_ok (n + 16) P.stN (by rw [P.st_lev.1]; omega) (by rw [P.st_lev.1]; omega) P.st_ok (by have := wT_small P.stN; rw [P.st_lev.2] at this; omega)
  refine fin_step (env1 := [some (.d WD), some (.d (.str (tx TX))), some (.d PD), some (.d (encNT P.stN)), none, none, none, none, none, none]) ?_ ?_
  · generalize rowWD (wT P.stN) = RS at *
    generalize encNT P.stN = SD at *
    simp [i0, ts]
  -- the rules
  obtain ⟨RD, hRD⟩ : ∃ d : D, d = .list ((quads 0 P.mds).map qdD) := ⟨_, rfl⟩
  have ql : (quads 0 P.mds).length = 2 * P.L := by rw [quads_len (c := 2) 0 P.mds fun p hp => by obtain ⟨k, _, rfl⟩ := P.mds_mem hp; rfl, P.mds_len]
  have s1 : gSl PD (some 1) none = some (.l ((quads 0 P.mds).map fun q => .d (rowWD (qdW q)))) := by
    rw [hPD, List.map_cons]
    show some (Ow.l ((cutL (rowWD (wT P.stN) :: (linesW 0 P.mds).map fun p => rowWD p) (some 1) none).map Ow.d)) = _
    have := cutL_drop (rowWD (wT P.stN) :: (linesW 0 P.mds).map fun p => rowWD p) 1
    rw [show ((1 : Nat) : Int) = 1 from rfl] at this
    rw [this, List.drop_one, List.tail_cons, linesW_q, List.map_map, List.map_map]
    rfl
  have v1 : viewD (.l ((quads 0 P.mds).map fun q => .d (rowWD (qdW q)))) = .list ((quads 0 P.mds).map fun q => rowWD (qdW q)) := viewD_of (fun q : Qd => rowWD (qdW q)) _
  have lc : eLc (eB (eM (eSl (eVar 2) (eB (eC (.int 1)) asI) oNone) viewD) itD) (gtName 5) cYes (eB (aCons (eVar 5) aNil) (mir (n + 19) 17)) [5] [some (.d WD), some (.d (.str (tx TX))), some (.d PD), some (.d (encNT P.stN)), none, none, none, none, none, none] = .ok (.l ((quads 0 P.mds).map fun q => .d (qdD q))) := by
    refine eLc_of (ds := (quads 0 P.mds).map fun q => rowWD (qdW q)) ?_ (by rw [List.length_map, ql, sizeLine_eq]; omega) (lcR_map (fun q => rowWD (qdW q)) (fun q => Ow.d (qdD q)) (quads 0 P.mds) fun q hq => ⟨[some (.d WD), some (.d (.str (tx TX))), some (.d PD), some (.d (encNT P.stN)), none, some (.d (rowWD (qdW q))), none, none, none, none], rfl, rfl, ?_⟩)
    · generalize ((quads 0 P.mds).map fun q => Ow.d (rowWD (qdW q))) = os at *
      generalize ((quads 0 P.mds).map fun q => rowWD (qdW q)) = ds at *
      simp [s1, v1]
    · exact (quad_ok P (n + 13) hq).1
  have v2 : viewD (.l ((quads 0 P.mds).map fun q => .d (qdD q))) = RD := by rw [hRD]; exact viewD_of qdD _
  refine fin_step (env1 := [some (.d WD), some (.d (.str (tx TX))), some (.d PD), some (.d (encNT P.stN)), some (.d RD), none, none, none, none, none]) ?_ ?_
  · generalize ((quads 0 P.mds).map fun q => Ow.d (qdD q)) = os at *
    simp [lc, v2]
  -- how many puts and calls
  have lc2 : eLc (eB (eVar 4) itD) (gtName 7) cYes (eB (aCons (eBin gIx (eVar 7) (eC (.int 3))) aNil) (mir (n + 19) 0)) [7] [some (.d WD), some (.d (.str (tx TX))), some (.d PD), some (.d (encNT P.stN)), some (.d RD), none, none, none, none, none] = .ok (.l ((quads 0 P.mds).map fun q => .d (.int (sizeNT q.2.2.2 : Nat)))) := by
    refine eLc_of (ds := (quads 0 P.mds).map qdD) (by rw [hRD]; rfl) (by rw [List.length_map, ql, sizeLine_eq]; omega) (lcR_map qdD (fun q => Ow.d (.int (sizeNT q.2.2.2 : Nat))) (quads 0 P.mds) fun q hq => ⟨[some (.d WD), some (.d (.str (tx TX))), some (.d PD), some (.d (encNT P.stN)), some (.d RD), none, none, some (.d (qdD q)), none, none], rfl, rfl, ?_⟩)
    exact (quad_ok P (n + 13) hq).2
  have sh := unDs_of (fun q : Qd => PyData.int ((sizeNT q.2.2.2 : Nat) : Int)) (quads 0 P.mds)
  have sm := gSum_intsM ((quads 0 P.mds).map fun q => ((sizeNT q.2.2.2 : Nat) : Int))
  rw [List.map_map] at sm
  have sm : gSum [.list ((quads 0 P.mds).map fun q => PyData.int ((sizeNT q.2.2.2 : Nat) : Int))] = some (.d (.int (((quads 0 P.mds).map fun q => ((sizeNT q.2.2.2 : Nat) : Int)).sum))) := sm
  have tot : ((quads 0 P.mds).map fun q => ((sizeNT q.2.2.2 : Nat) : Int)).sum = ((4 * P.L : Nat) : Int) := by
    have h := quads_sum (c := 4) 0 P.mds fun p hp => by
      obtain ⟨k, _, rfl⟩ := P.mds_mem hp
      show ([sizeNT (P.leafN k), sizeNT (P.fN k)] : List Nat).sum = 4
      rw [(P.leaf_lev k).2, (P.f_lev k).2]
      rfl
    rw [P.mds_len] at h
    rw [← h]
    generalize quads 0 P.mds = qs
    induction qs with
    | nil => rfl
    | cons q qs ih => rw [List.map_cons, List.sum_cons, List.map_cons, List.sum_cons, ih]; omega
  rw [tot] at sm
  have tz := termSize_ok (n + 19) P.stN (by rw [P.st_lev.1]; omega) P.st_ok
  rw [P.st_lev.2] at tz
  refine fin_step (env1 := [some (.d WD), some (.d (.str (tx TX))), some (.d PD), some (.d (encNT P.stN)), some (.d RD), none, some (.d (.int (2 + ((4 * P.L : Nat) : Int)))), none, none, none]) ?_ ?_
  · generalize ((quads 0 P.mds).map fun q => Ow.d (PyData.int ((sizeNT q.2.2.2 : Nat) : Int))) = os at *
    generalize ((quads 0 P.mds).map fun q => PyData.int ((sizeNT q.2.2.2 : Nat) : Int)) = ds at *
    generalize ((4 * P.L : Nat) : Int) = K at *
    generalize encNT P.stN = SD at *
    simp [tz, lc2, sh, sm]
  have rl : gLen [RD] = some (.d (.int ((2 * P.L : Nat) : Int))) := by
    rw [hRD]
    show some (Ow.d (.int ((quads 0 P.mds).map qdD).length)) = _
    rw [List.length_map, ql]
  refine fin_step (env1 := [some (.d WD), some (.d (.str (tx TX))), some (.d PD), some (.d (encNT P.stN)), some (.d RD), none, some (.d (.int (2 + ((4 * P.L : Nat) : Int)))), none, none, none]) ?_ ?_
  · have c1 : ¬ (40 : Int) < ((2 * P.L : Nat) : Int) := by omega
    have c2 : ¬ (120 : Int) < 2 + ((4 * P.L : Nat) : Int) := by omega
    generalize ((2 * P.L : Nat) : Int) = K2 at *
    generalize ((4 * P.L : Nat) : Int) = K4 at *
    generalize encNT P.stN = SD at *
    simp [rl, c1, c2]
  -- the table, the modes
  have tb := tableMn_ok P (n + 17)
  have erd : .list (rusD P.tb) = RD := by
    rw [hRD]
    unfold MnP.tb
    rw [rusD_q]
  rw [erd, ← hWD] at tb
  have vt := view_tbK P.tb
  obtain ⟨TD, hTD⟩ : ∃ d : D, d = .dict (P.tb.map teP) := ⟨_, rfl⟩
  rw [← hTD] at vt
  refine fin_step (env1 := [some (.d WD), some (.d (.str (tx TX))), some (.d PD), some (.d (encNT P.stN)), some (.d RD), none, some (.d (.int (2 + ((4 * P.L : Nat) : Int)))), none, some (.d TD), none]) ?_ ?_
  · generalize ((4 * P.L : Nat) : Int) = K4 at *
    generalize encNT P.stN = SD at *
    generalize tbK P.tb = TO at *
    simp [tb, vt]
  obtain ⟨os, md, vm⟩ := modesMn_ok P (n + 16)
  rw [← hWD, ← hTD] at md
  obtain ⟨MD, hMD⟩ : ∃ d : D, d = .list (P.mds.map (mdS P.ix)) := ⟨_, rfl⟩
  rw [← hMD] at vm
  refine fin_step (env1 := [some (.d WD), some (.d (.str (tx TX))), some (.d PD), some (.d (encNT P.stN)), some (.d RD), none, some (.d (.int (2 + ((4 * P.L : Nat) : Int)))), none, some (.d TD), some (.d MD)]) ?_ ?_
  · generalize ((4 * P.L : Nat) : Int) = K4 at *
    generalize encNT P.stN = SD at *
    simp [md, vm]
  -- the start by numbers
  have lk : gListKD TD = some (.l (P.ns.map fun z => .d (.str z))) := by
    rw [hTD]
    have ks : (P.tb.map teP).all (fun p => isKey p.1) = true := by
      rw [List.all_eq_true]
      intro p hp
      obtain ⟨e, _, rfl⟩ := List.mem_map.mp hp
      rfl
    rw [← P.tb_names]
    cases ht : P.tb with
    | nil => have := P.tb_len; rw [ht] at this; simp at this; omega
    | cons e tb =>
      rw [ht] at ks
      rw [List.map_cons] at ks ⊢
      rw [gListKD_dict, if_pos ks, ← List.map_cons, List.map_map, List.map_map, List.map_map]
      rfl
  have vl : viewD (.l (P.ns.map fun z => .d (.str z))) = msD P.ns := viewD_of (fun z : Str => PyData.str z) P.ns
  have nu := num_st P (n + 17)
  refine fin_step (env1 := [some (.d WD), some (.d (.str (tx TX))), some (.d PD), some (.d (encM (ntM P.ix P.stN))), some (.d RD), none, some (.d (.int (2 + ((4 * P.L : Nat) : Int)))), none, some (.d TD), some (.d MD)]) ?_ ?_
  · generalize ((4 * P.L : Nat) : Int) = K4 at *
    generalize encNT P.stN = SD at *
    generalize (P.ns.map fun z => Ow.d (.str z)) = osn at *
    generalize msD P.ns = NL at *
    generalize encM (ntM P.ix P.stN) = MS at *
    simp [eListKD, lk, vl, nu]
  have sd := soundMn_ok P (n + 5)
  rw [← hWD, ← hMD] at sd
  obtain ⟨wo2, wa, vwa⟩ := woodAgain_ok (n + 18)
  rw [← hWD] at wa vwa
  have et : encTn P.tn = .tuple [WD, encM (ntM P.ix P.stN), MD] := by rw [P.enc_tn, ← hWD, ← hMD]
  rw [et]
  generalize ((4 * P.L : Nat) : Int) = K4 at *
  generalize encM (ntM P.ix P.stN) = MS at *
  simp [sd, wa, vwa, sizeLine_eq]
end G
set_option Elab.async false
set_option linter.all false
set_option maxRecDepth 100000
set_option maxHeartbeats 4000000
namespace G
open PySem PySem.Spec L2 Mir
theorem cell_ok (n : Nat) (ns : List Int) (k : Nat) : mir (n + 1) 26 [scD ns, .int (k : Nat)] = .ok (.d (.int (scCell ns k))) := by
  rw [mir__law_cell_at, run__law_cell_at]
  exact cell_fin ns k
theorem lawMode_ok (n : Nat) {k : Nat} (h : k < 676) : mir (n + 1) 27 [.int (k : Nat)] = .ok (.d (.str (tx (mw k)))) := by
  rw [mir__law_mode, run__law_mode]
  exact lawMode_fin h
theorem lawMark_ok (n : Nat) (kp : Bool) {ad : Int} (h : ad.natAbs < 10 ^ 60) : mir (n + 1) 28 [.bool kp, .int ad] = .ok (.d (.str (tx (mrkT kp ad)))) := by
  rw [mir__law_mark, run__law_mark]
  exact lawMark_fin kp h
theorem law_loop (n : Nat) (cs : List Int) (x2 x3 x4 x5 x8 x9 x10 x11 x12 x13 : Option Ow) :
    ∃ y8 y9 y10 y11 y12 y13, (sFor (eB (aCons (eVar 1) aNil) rg1) (gtName 8) (sSeq (sSet 9 (eM (eIf (eB (eBin gGt (eM (eCa gLen (aCons (eVar 0) aNil)) viewD) (eC (.int 0))) asB) (eBin gMod (eBin gIx (eVar 0) (eBin gMod (eM (eBinO gAdd (eC (.int 3)) (eVar 8)) viewD) (eM (eCa gLen (aCons (eVar 0) aNil)) viewD))) (eBin gPow (eC (.int 10)) (eC (.int 60)))) (eVar 8)) Ow.d)) (mnStep (mir (n + 1) 27) (mir (n + 1) 28)))) [some (.d (scD cs)), some (.d (.int ((lawMn cs).L : Nat))), x2, x3, x4, x5, some (.l []), some (.d (.str (tx (upT (lawMn cs) 0)))), x8, x9, x10, x11, x12, x13, none, none] =
      .nx [some (.d (scD cs)), some (.d (.int ((lawMn cs).L : Nat))), x2, x3, x4, x5, some (.l ((lawMn cs).mds.map fun p => .d (mdS (lawMn cs).ix p))), some (.d (.str (tx (tnT (lawMn cs).stN (lawMn cs).mds)))), y8, y9, y10, y11, y12, y13, none, none] := by
  obtain ⟨P, hP⟩ : ∃ P, P = lawMn cs := ⟨_, rfl⟩
  have hA := lawMn_aft cs
  have hnum : ∀ k, (lawMn cs).num k = numI cs k := fun k => rfl
  rw [← hP] at hA hnum ⊢
  have h2 := P.l2
  obtain ⟨env', lp, y8, y9, y10, y11, y12, y13, rfl⟩ := forL_map (g := gtName 8) (f := sSeq (sSet 9 (eM (eIf (eB (eBin gGt (eM (eCa gLen (aCons (eVar 0) aNil)) viewD) (eC (.int 0))) asB) (eBin gMod (eBin gIx (eVar 0) (eBin gMod (eM (eBinO gAdd (eC (.int 3)) (eVar 8)) viewD) (eM (eCa gLen (aCons (eVar 0) aNil)) viewD))) (eBin gPow (eC (.int 10)) (eC (.int 60)))) (eVar 8)) Ow.d)) (mnStep (mir (n + 1) 27) (mir (n + 1) 28))) (fun k : Nat => PyData.int (k : Nat)) (List.range P.L)
    (fun i env => ∃ y8 y9 y10 y11 y12 y13, env = [some (.d (scD cs)), some (.d (.int (P.L : Nat))), x2, x3, x4, x5, some (.l ((P.mds.take i).map fun p => .d (mdS P.ix p))), some (.d (.str (tx (upT P i)))), y8, y9, y10, y11, y12, y13, none, none]) (fun i k env hk hI => by
      obtain ⟨y8, y9, y10, y11, y12, y13, rfl⟩ := hI
      have hiL := (List.getElem?_eq_some_iff.mp hk).1
      rw [List.length_range] at hiL
      rw [List.getElem?_range hiL] at hk
      have hk : i = k := Option.some.inj hk
      subst hk
      have s0 := num_at cs (k := i) (by omega) (some (.d (.int (P.L : Nat)))) x2 x3 x4 x5 (some (.l ((P.mds.take i).map fun p => .d (mdS P.ix p)))) (some (.d (.str (tx (upT P i))))) y9 y10 y11 y12 y13 none none
      rw [← hnum i] at s0
      have ul := upT_len P i (by omega)
      have st := P.mn_step (f27 := mir (n + 1) 27) (f28 := mir (n + 1) 28) (fun k hk => lawMode_ok n hk) (fun kp ad h => lawMark_ok n kp h) hiL (hA i) (some (.d (scD cs))) x2 x3 x4 x5 y10 y11 y12 y13 none none ((P.mds.take i).map fun p => .d (mdS P.ix p)) (by rw [List.length_map, List.length_take]; omega) (upT P i) (by omega)
      refine ⟨_, rfl, _, .inl (seq_nx s0 st), some (.d (.int (i : Nat))), some (.d (.int (P.num i))), some (.d (.bool (P.kp i))), some (.d (.int (P.aft i : Nat))), some (.d (P.leafD i)), some (.d (.str (tx (txT (P.leafN i))))), ?_⟩
      rw [upT_succ P hiL, take_mds P hiL, List.map_append]
      rfl) [some (.d (scD cs)), some (.d (.int (P.L : Nat))), x2, x3, x4, x5, some (.l []), some (.d (.str (tx (upT P 0)))), x8, x9, x10, x11, x12, x13, none, none] ⟨x8, x9, x10, x11, x12, x13, rfl⟩
  rw [List.length_range, upT_all, List.take_of_length_le (by rw [P.mds_len]; omega)] at lp
  refine ⟨y8, y9, y10, y11, y12, y13, ?_⟩
  have rg : rg1 [.int (P.L : Nat)] = .ok ((List.range P.L).map fun k : Nat => PyData.int (k : Nat)) := by
    rw [rg1_nat P.L (by omega), rangeD_map]
  unfold sFor
  have it : (eB (aCons (eVar 1) aNil) rg1) [some (.d (scD cs)), some (.d (.int (P.L : Nat))), x2, x3, x4, x5, some (.l []), some (.d (.str (tx (upT P 0)))), x8, x9, x10, x11, x12, x13, none, none] = .ok ((List.range P.L).map fun k : Nat => PyData.int (k : Nat)) := by
    rw [← rg]
    rfl
  rw [it, R.st_ok]
  exact lp
theorem law_true (L : Nat) (hL : 30 ≤ L) (ns : List Int) (h : ns.length ≤ 63) : mir L 29 [.list (ns.map PyData.int)] = .ok (.d (.bool true)) := by
  obtain ⟨n, rfl⟩ : ∃ n, L = n + 30 := ⟨L - 30, by omega⟩
  rw [mir_law, run_law]
  obtain ⟨P, hP⟩ : ∃ P, P = lawMn ns := ⟨_, rfl⟩
  have hl := lawMn_L ns
  have hfi := lawMn_first ns
  have hadd : (lawMn ns).add = scCell ns 2 % 10 ^ 60 - 10 ^ 59 := rfl
  have lo := lots_ok ns
  have c0 := cell_ok (n + 28) ns 0
  have c1 := cell_ok (n + 28) ns 1
  have c2 := cell_ok (n + 28) ns 2
  have c0 : mir (n + 29) 26 [scD ns, .int 0] = .ok (.d (.int (scCell ns 0))) := c0
  have c1 : mir (n + 29) 26 [scD ns, .int 1] = .ok (.d (.int (scCell ns 1))) := c1
  have c2 : mir (n + 29) 26 [scD ns, .int 2] = .ok (.d (.int (scCell ns 2))) := c2
  have he : envOf 15 [.list (ns.map PyData.int)] = [some (.d (scD ns)), none, none, none, none, none, none, none, none, none, none, none, none, none, none, none] := rfl
  rw [he]
  have m200 : gMod (.int (scCell ns 0)) (.int 200) = some (.int (scCell ns 0 % 200)) := gMod_int (by decide)
  have d200 : gDiv (.int (scCell ns 0)) (.int 200) = some (.int (scCell ns 0 / 200)) := gDiv_small (by decide) (by decide)
  have m2 : gMod (.int (scCell ns 0 / 200)) (.int 2) = some (.int (scCell ns 0 / 200 % 2)) := gMod_int (by decide)
  have m20 : gMod (.int (lots0 ns)) (.int 20) = some (.int (lots0 ns % 20)) := gMod_int (by decide)
  obtain ⟨S, hS⟩ : ∃ S, S = scD ns := ⟨_, rfl⟩
  rw [← hS] at c0 c1 c2 ⊢
  refine fin_step (env1 := [some (.d S), some (.d (.int (lots0 ns))), none, none, none, none, none, none, none, none, none, none, none, none, none, none]) ?_ ?_
  · unfold lots0
    simp [c0, m200]
  refine fin_step (env1 := [some (.d S), some (.d (.int (lotsI ns))), none, none, none, none, none, none, none, none, none, none, none, none, none, none]) ?_ ?_
  · unfold lotsI
    by_cases c : scCell ns 0 / 200 % 2 = 0
    · rw [if_pos c]
      simp [c0, d200, m2, c, m20]
    · rw [if_neg c]
      have c' : (scCell ns 0 / 200 % 2 == 0) = false := by simpa using c
      simp [c0, d200, m2, c, c']
  have mf : gMod (.int (scCell ns 1)) (.int (lotsI ns)) = some (.int (scCell ns 1 % lotsI ns)) := gMod_int (by omega)
  rw [← hfi] at mf
  rw [← hl] at mf ⊢
  refine fin_step (env1 := [some (.d S), some (.d (.int ((lawMn ns).L : Nat))), some (.d (.int ((lawMn ns).first : Nat))), none, none, none, none, none, none, none, none, none, none, none, none, none]) ?_ ?_
  · generalize (((lawMn ns).L : Nat) : Int) = LI at *
    generalize (((lawMn ns).first : Nat) : Int) = FI at *
    simp [c1, mf]
  have m60 : ∀ E : Int, 0 < E → gMod (.int (scCell ns 2)) (.int E) = some (.int (scCell ns 2 % E)) := fun E h => gMod_int h
  have m60 := m60 (10 ^ 60) (by decide)
  have p60 : gPow (.int 10) (.int 60) = some (.int (10 ^ 60)) := gPow10 60 (by decide)
  have p59 : gPow (.int 10) (.int 59) = some (.int (10 ^ 59)) := gPow10 59 (by decide)
  refine fin_step (env1 := [some (.d S), some (.d (.int ((lawMn ns).L : Nat))), some (.d (.int ((lawMn ns).first : Nat))), some (.d (.int (lawMn ns).add)), none, none, none, none, none, none, none, none, none, none, none, none]) ?_ ?_
  · rw [hadd]
    obtain ⟨E, hE⟩ : ∃ E : Int, E = 10 ^ 60 := ⟨_, rfl⟩
    obtain ⟨E9, hE9⟩ : ∃ E : Int, E = 10 ^ 59 := ⟨_, rfl⟩
    rw [← hE] at m60 p60 ⊢
    rw [← hE9] at p59 ⊢
    clear hE hE9
    generalize (((lawMn ns).L : Nat) : Int) = LI at *
    generalize (((lawMn ns).first : Nat) : Int) = FI at *
    simp [c2, m60, p60, p59]
  rw [← hP] at hl hfi hadd mf ⊢
  obtain ⟨LI, hLI⟩ : ∃ i : Int, i = ((P.L : Nat) : Int) := ⟨_, rfl⟩
  obtain ⟨FI, hFI⟩ : ∃ i : Int, i = ((P.first : Nat) : Int) := ⟨_, rfl⟩
  have hw : encWd MnP.wood = .list [.tuple [.str (tx [107]), .list [.tuple [.str (tx [110]), .tuple []], .tuple [.str (tx [115]), .tuple [.str (tx [107])]]]]] := rfl
  refine fin_step (env1 := [some (.d S), some (.d (.int ((P.L : Nat) : Int))), some (.d (.int ((P.first : Nat) : Int))), some (.d (.int P.add)), some (.d (encWd MnP.wood)), none, none, none, none, none, none, none, none, none, none, none]) ?_ ?_
  · rw [hw]
    simp [kw_is, nw_is, sw_is, sizeLine_eq]
  refine fin_step (env1 := [some (.d S), some (.d (.int ((P.L : Nat) : Int))), some (.d (.int ((P.first : Nat) : Int))), some (.d (.int P.add)), some (.d (encWd MnP.wood)), some (.d P.startD), none, none, none, none, none, none, none, none, none, none]) ?_ ?_
  · unfold MnP.startD
    generalize encWd MnP.wood = WD
    simp [bw_is, sizeLine_eq]
  refine fin_step (env1 := [some (.d S), some (.d (.int ((P.L : Nat) : Int))), some (.d (.int ((P.first : Nat) : Int))), some (.d (.int P.add)), some (.d (encWd MnP.wood)), some (.d P.startD), some (.l []), none, none, none, none, none, none, none, none, none]) ?_ ?_
  · generalize encWd MnP.wood = WD
    generalize P.startD = SD
    simp [sizeLine_eq]
  have h2 := P.l2
  have hf := P.hf
  refine fin_step (env1 := [some (.d S), some (.d (.int ((P.L : Nat) : Int))), some (.d (.int ((P.first : Nat) : Int))), some (.d (.int P.add)), some (.d (encWd MnP.wood)), some (.d P.startD), some (.l []), some (.d (.str (tx (upT P 0)))), none, none, none, none, none, none, none, none]) ?_ ?_
  · have mk := lawMark_ok (n + 28) false P.ha
    have mo := lawMode_ok (n + 28) (k := P.first) (by omega)
    obtain ⟨M, hM⟩ : ∃ M, M = mrkT false P.add := ⟨_, rfl⟩
    have ml : M.length ≤ 62 := by
      rw [hM]; unfold mrkT
      have := ekW_len false
      have := adW_len P.ha false
      rw [List.length_append]; omega
    have wl := (mw_nm (k := P.first) (by omega)).2.2
    obtain ⟨W, hW⟩ : ∃ W, W = mw P.first := ⟨_, rfl⟩
    have ts := P.txt_st
    rw [← hM, ← hW] at ts
    rw [← hM] at mk
    rw [← hW] at mo wl
    rw [upT_zero]
    obtain ⟨A1, hA1⟩ : ∃ A, A = [98] ++ M := ⟨_, rfl⟩
    obtain ⟨A2, hA2⟩ : ∃ A, A = A1 ++ [40, 42] := ⟨_, rfl⟩
    obtain ⟨A3, hA3⟩ : ∃ A, A = A2 ++ W := ⟨_, rfl⟩
    have l1 : A1.length ≤ 63 := by rw [hA1, List.length_append]; simp; omega
    have l2 : A2.length ≤ 65 := by rw [hA2, List.length_append]; simp; omega
    have l3 : A3.length ≤ 73 := by rw [hA3, List.length_append]; omega
    have a1 := gAdd_tx (a := [98]) (b := M) (by simp; omega)
    have a2 := gAdd_tx (a := A1) (b := [40, 42]) (by simp; omega)
    have a3 := gAdd_tx (a := A2) (b := W) (by omega)
    have a4 := gAdd_tx (a := A3) (b := [48, 41]) (by simp; omega)
    rw [← hA1] at a1 ts
    rw [← hA2] at a2 ts
    rw [← hA3] at a3 ts
    rw [← ts] at a4
    generalize encWd MnP.wood = WD
    generalize P.startD = SD
    generalize ((P.first : Nat) : Int) = FI at *
    generalize txT P.stN = TS at *
    simp [bw_is, ops_is, nuc_is, mk, a1, a2, mo, a3, a4]
  obtain ⟨y8, y9, y10, y11, y12, y13, lp⟩ := law_loop (n + 28) ns (some (.d (.int ((P.first : Nat) : Int)))) (some (.d (.int P.add))) (some (.d (encWd MnP.wood))) (some (.d P.startD)) none none none none none none
  rw [← hP, ← hS] at lp
  refine fin_step lp ?_
  -- shown
  have sh := showMn_ok (n + 23) P
  have et : encTn P.tn = .tuple [encWd MnP.wood, P.startD, .list (P.mds.map (mdS P.ix))] := by rw [P.enc_tn, P.startD_is]
  have vm : viewD (.l (P.mds.map fun p => .d (mdS P.ix p))) = .list (P.mds.map (mdS P.ix)) := viewD_of (mdS P.ix) P.mds
  obtain ⟨MD, hMD⟩ : ∃ d : D, d = .list (P.mds.map (mdS P.ix)) := ⟨_, rfl⟩
  rw [← hMD] at vm et
  obtain ⟨TX, hTX⟩ : ∃ l, l = tnT P.stN P.mds := ⟨_, rfl⟩
  have tl := text_len P
  rw [← hTX] at sh tl ⊢
  have sh' := sh
  rw [et] at sh'
  have sh' : mir (n + 29) 25 [.tuple [encWd MnP.wood, P.startD, MD]] = .ok (.d (.str (tx TX))) := sh'
  refine fin_step (env1 := [some (.d S), some (.d (.int ((P.L : Nat) : Int))), some (.d (.int ((P.first : Nat) : Int))), some (.d (.int P.add)), some (.d (encWd MnP.wood)), some (.d P.startD), some (.d MD), some (.d (.str (tx TX))), y8, y9, y10, y11, y12, y13, some (.d (.str (tx TX))), none]) ?_ ?_
  · generalize (P.mds.map fun p => Ow.d (mdS P.ix p)) = os at *
    generalize encWd MnP.wood = WD at *
    generalize P.startD = SD at *
    simp [sFrz, frzV, vm, sh', sizeLine_eq]
  have isi : gIsi "str" (.str (tx TX)) = .ok (.bool true) := rfl
  have ne := gNe_txW TX TX
  rw [decide_eq_true rfl] at ne
  refine fin_step (env1 := [some (.d S), some (.d (.int ((P.L : Nat) : Int))), some (.d (.int ((P.first : Nat) : Int))), some (.d (.int P.add)), some (.d (encWd MnP.wood)), some (.d P.startD), some (.d MD), some (.d (.str (tx TX))), y8, y9, y10, y11, y12, y13, some (.d (.str (tx TX))), none]) ?_ ?_
  · generalize encWd MnP.wood = WD at *
    generalize P.startD = SD at *
    simp [isi, ne]
  have gl := gLen_tx TX (by omega)
  by_cases big : 20 < P.L
  · have b1 : (20 : Int) < ((P.L : Nat) : Int) := by omega
    generalize encWd MnP.wood = WD at *
    generalize P.startD = SD at *
    generalize ((P.L : Nat) : Int) = LI2 at *
    simp [b1]
  · by_cases long : 4000 < TX.length
    · have b1 : ¬ (20 : Int) < ((P.L : Nat) : Int) := by omega
      have b2 : (4000 : Int) < ((TX.length : Nat) : Int) := by omega
      generalize encWd MnP.wood = WD at *
      generalize P.startD = SD at *
      generalize ((P.L : Nat) : Int) = LI2 at *
      generalize ((TX.length : Nat) : Int) = LT at *
      simp [b1, gl, b2]
    · have b1 : ¬ (20 : Int) < ((P.L : Nat) : Int) := by omega
      have b2 : ¬ (4000 : Int) < ((TX.length : Nat) : Int) := by omega
      have rd := readMn_ok P (by omega) (n + 9)
      rw [← hTX] at rd
      have rd : mir (n + 29) 21 [encWd MnP.wood, .str (tx TX)] = .ok (.d (encTn P.tn)) := rd
      have sh2 : mir (n + 29) 25 [encTn P.tn] = .ok (.d (.str (tx TX))) := sh
      have eq := gEq_self (nice_mn P)
      have eq2 : gEq (encTn P.tn) (.tuple [encWd MnP.wood, P.startD, MD]) = some (.bool true) := by rw [← et]; exact eq
      have eqt := gEq_tx TX TX
      rw [decide_eq_true rfl] at eqt
      generalize encTn P.tn = TND at *
      generalize encWd MnP.wood = WD at *
      generalize P.startD = SD at *
      generalize ((P.L : Nat) : Int) = LI2 at *
      generalize ((TX.length : Nat) : Int) = LT at *
      refine fin_step (env1 := [some (.d S), some (.d (.int LI2)), some (.d (.int ((P.first : Nat) : Int))), some (.d (.int P.add)), some (.d WD), some (.d SD), some (.d MD), some (.d (.str (tx TX))), y8, y9, y10, y11, y12, y13, some (.d (.str (tx TX))), none]) (by simp [b1, gl, b2]) ?_
      refine fin_step (env1 := [some (.d S), some (.d (.int LI2)), some (.d (.int ((P.first : Nat) : Int))), some (.d (.int P.add)), some (.d WD), some (.d SD), some (.d MD), some (.d (.str (tx TX))), y8, y9, y10, y11, y12, y13, some (.d (.str (tx TX))), some (.d TND)]) (by simp [rd]) ?_
      simp [sFrz, frzV, eq2, sh2, eqt, sizeLine_eq]
end G
open PySem PySem.W PyProof.Rows
set_option maxRecDepth 100000 in
set_option maxHeartbeats 0 in
theorem PySem.Challenge.cw_turnery_k14_many_modes_shown_holds : PySem.Challenge.rw_turnery_k14_many_modes_shown.Holds := by
  w_on; o_law; k_head; (case hw => w_witness2)
  k_fill
  refine Mir.law_end (l := PySem.Challenge.rw_turnery_k14_many_modes_shown) (m := G.mir 60 29) 60 "_law_script" rfl rfl ⟨rfl, by decide, by decide⟩ (fun w h Y => PySem.W.kIn_of Y) (fun ns h _ => G.law_true 60 (by decide) ns h) ?F
  case F =>
    intro w mg fa h KX Gn hmg
    refine' G.all_mk 60 KX Gn hmg ?a0 ?l0 ?c0 ?k0 ?a1 ?l1 ?c1 ?k1 ?a2 ?l2 ?c2 ?k2 ?a3 ?l3 ?c3 ?k3 ?a4 ?l4 ?c4 ?k4 ?a5 ?l5 ?c5 ?k5 ?a6 ?l6 ?c6 ?k6 ?a7 ?l7 ?c7 ?k7 ?a8 ?l8 ?c8 ?k8 ?a9 ?l9 ?c9 ?k9 ?a10 ?l10 ?c10 ?k10 ?a11 ?l11 ?c11 ?k11 ?a12 ?l12 ?c12 ?k12 ?a13 ?l13 ?c13 ?k13 ?a14 ?l14 ?c14 ?k14 ?a15 ?l15 ?c15 ?k15 ?a16 ?l16 ?c16 ?k16 ?a17 ?l17 ?c17 ?k17 ?a18 ?l18 ?c18 ?k18 ?a19 ?l19 ?c19 ?k19 ?a20 ?l20 ?c20 ?k20 ?a21 ?l21 ?c21 ?k21 ?a22 ?l22 ?c22 ?k22 ?a23 ?l23 ?c23 ?k23 ?a24 ?l24 ?c24 ?k24 ?a25 ?l25 ?c25 ?k25 ?a26 ?l26 ?c26 ?k26 ?a27 ?l27 ?c27 ?k27 ?a28 ?l28 ?c28 ?k28 ?a29 ?l29 ?c29 ?k29 ?z_any ?z_enumerate ?z_int ?z_isinstance ?z_len ?z_list ?z_range ?z_str ?z_sum ?z_tuple ?z_zip ?e_NoText ?e_NoTurning ?xb_NoText ?xt_NoText ?xd_NoText ?xs_NoText ?xb_NoTurning ?xt_NoTurning ?xd_NoTurning ?xs_NoTurning ?xe_NoText ?xk_NoText ?xe_NoTurning ?xk_NoTurning ?g_FIGURES ?r_FIGURES ?g_LETTERS ?r_LETTERS ?g_SIGNS ?r_SIGNS
    (case a0 => k_is)
    (case l0 => k_is)
    (case c0 => k_is)
    (case k0 => k_is)
    (case a1 => k_is)
    (case l1 => k_is)
    (case c1 => k_is)
    (case k1 => k_is)
    (case a2 => k_is)
    (case l2 => k_is)
    (case c2 => k_is)
    (case k2 => k_is)
    (case a3 => k_is)
    (case l3 => k_is)
    (case c3 => k_is)
    (case k3 => k_is)
    (case a4 => k_is)
    (case l4 => k_is)
    (case c4 => k_is)
    (case k4 => k_is)
    (case a5 => k_is)
    (case l5 => k_is)
    (case c5 => k_is)
    (case k5 => k_is)
    (case a6 => k_is)
    (case l6 => k_is)
    (case c6 => k_is)
    (case k6 => k_is)
    (case a7 => k_is)
    (case l7 => k_is)
    (case c7 => k_is)
    (case k7 => k_is)
    (case a8 => k_is)
    (case l8 => k_is)
    (case c8 => k_is)
    (case k8 => k_is)
    (case a9 => k_is)
    (case l9 => k_is)
    (case c9 => k_is)
    (case k9 => k_is)
    (case a10 => k_is)
    (case l10 => k_is)
    (case c10 => k_is)
    (case k10 => k_is)
    (case a11 => k_is)
    (case l11 => k_is)
    (case c11 => k_is)
    (case k11 => k_is)
    (case a12 => k_is)
    (case l12 => k_is)
    (case c12 => k_is)
    (case k12 => k_is)
    (case a13 => k_is)
    (case l13 => k_is)
    (case c13 => k_is)
    (case k13 => k_is)
    (case a14 => k_is)
    (case l14 => k_is)
    (case c14 => k_is)
    (case k14 => k_is)
    (case a15 => k_is)
    (case l15 => k_is)
    (case c15 => k_is)
    (case k15 => k_is)
    (case a16 => k_is)
    (case l16 => k_is)
    (case c16 => k_is)
    (case k16 => k_is)
    (case a17 => k_is)
    (case l17 => k_is)
    (case c17 => k_is)
    (case k17 => k_is)
    (case a18 => k_is)
    (case l18 => k_is)
    (case c18 => k_is)
    (case k18 => k_is)
    (case a19 => k_is)
    (case l19 => k_is)
    (case c19 => k_is)
    (case k19 => k_is)
    (case a20 => k_is)
    (case l20 => k_is)
    (case c20 => k_is)
    (case k20 => k_is)
    (case a21 => k_is)
    (case l21 => k_is)
    (case c21 => k_is)
    (case k21 => k_is)
    (case a22 => k_is)
    (case l22 => k_is)
    (case c22 => k_is)
    (case k22 => k_is)
    (case a23 => k_is)
    (case l23 => k_is)
    (case c23 => k_is)
    (case k23 => k_is)
    (case a24 => k_is)
    (case l24 => k_is)
    (case c24 => k_is)
    (case k24 => k_is)
    (case a25 => k_is)
    (case l25 => k_is)
    (case c25 => k_is)
    (case k25 => k_is)
    (case a26 => k_is)
    (case l26 => k_is)
    (case c26 => k_is)
    (case k26 => k_is)
    (case a27 => k_is)
    (case l27 => k_is)
    (case c27 => k_is)
    (case k27 => k_is)
    (case a28 => k_is)
    (case l28 => k_is)
    (case c28 => k_is)
    (case k28 => k_is)
    (case a29 => k_is)
    (case l29 => k_is)
    (case c29 => k_is)
    (case k29 => k_is)
    (case z_any => k_is)
    (case z_enumerate => k_is)
    (case z_int => k_is)
    (case z_isinstance => k_is)
    (case z_len => k_is)
    (case z_list => k_is)
    (case z_range => k_is)
    (case z_str => k_is)
    (case z_sum => k_is)
    (case z_tuple => k_is)
    (case z_zip => k_is)
    (case e_NoText => k_is)
    (case e_NoTurning => k_is)
    (case xb_NoText => k_is)
    (case xt_NoText => k_is)
    (case xd_NoText => k_is)
    (case xs_NoText => k_is)
    (case xb_NoTurning => k_is)
    (case xt_NoTurning => k_is)
    (case xd_NoTurning => k_is)
    (case xs_NoTurning => k_is)
    (case xe_NoText => k_exc)
    (case xk_NoText => k_is)
    (case xe_NoTurning => k_exc)
    (case xk_NoTurning => k_is)
    (case g_FIGURES => k_is)
    (case g_LETTERS => k_is)
    (case g_SIGNS => k_is)
    (case r_FIGURES => exact ⟨_, rfl⟩)
    (case r_LETTERS => exact ⟨_, rfl⟩)
    (case r_SIGNS => exact ⟨_, rfl⟩)


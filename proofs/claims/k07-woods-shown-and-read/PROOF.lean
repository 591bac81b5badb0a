import PyProof.Rows.All
import Wide.All
import OpenK.AllK
import Wide.FinOn
import HandS.ForMost
import HandS.ForExc
import HandS.Walk
import HandS.TupAny
import HandS.Wide
import HandS.IsInst
import KE.KDictKeyed
import PyProof.P3Eq
import PyProof.NeData
import PyProof.Rows.SeqMore
import KE.GoesNew
import KE.GoesMore
import KE.GoesEnum
import HandS.Zip
import PyProof.AutoSeq1
import HandS.More
import KE.SortData
import HandS.EndBits
import HandS.Steps
import HandS.Rev
import PyProof.StrOps2
import HandS.Text
import HandS.Dict
import KE.KDictSum
import HandS.ExcIs
import HandS.TryOnly
import HandS.RevRange
import HandS.List
import PyProof.StrCalls
import KE.DataMinMax
import HandS.Style
import HandS.TupMul
import HandS.TupLen
import KE.KDictZip
import HandS.ListItems
import HandS.NoneIn
import HandS.Deep
import HandS.Conv
import HandS.SetKeys
import PyProof.Rows.SetFrom
import HandS.DictTup
import PySem.Challenge.RW_turnery_k07_woods_shown_and_read
set_option Elab.async false
set_option linter.all false
set_option maxRecDepth 100000
set_option maxHeartbeats 4000000
noncomputable section
namespace Mir
open PySem PySem.Spec L2

abbrev D := PyData
/-- what stands in the program's heap, and the world -/
structure Kw where
  K : PySem.W.Frag
  w : World
instance : CoeOut Kw PySem.W.Frag := ⟨Kw.K⟩
/-- a value in a mirror: data that stays, or a list or a dict that the def owns -/
inductive Ow where
  | d (x : D)
  | l (xs : List Ow)
  | m (kvs : List (D × D))
  /-- a tuple with own things in it -/
  | t (xs : List Ow)
  /-- a dict whose keys are whole numbers and texts, and one whose keys are tuples; its values may be own -/
  | k (ks : List D) (xs : List Ow)
  | n (ks : List D) (xs : List Ow)
  /-- an instance of a class, its fields by names -/
  | o (c : Str) (ns : List Str) (xs : List Ow)
abbrev Ev := List (Option Ow)
abbrev _root_.L2.Cx.KK (X : L2.Cx) : Kw := ⟨X.K, X.w⟩

/-- a pure outcome: none (not mirrored), a value, an exception's class -/
inductive R (α : Type) where
  | no
  | ok (a : α)
  | ex (c : Str)
def R.bind {α β : Type} : R α → (α → R β) → R β
  | .no, _ => .no
  | .ok a, f => f a
  | .ex c, _ => .ex c
@[simp] theorem R.bind_ok {α β : Type} (a : α) (f : α → R β) : (R.ok a).bind f = f a := rfl
@[simp] theorem R.bind_no {α β : Type} (f : α → R β) : (R.no : R α).bind f = .no := rfl
@[simp] theorem R.bind_ex {α β : Type} (c : Str) (f : α → R β) : (R.ex c : R α).bind f = .ex c := rfl
def R.map {α β : Type} (f : α → β) (r : R α) : R β := r.bind fun a => .ok (f a)
@[simp] theorem R.map_ok {α β : Type} (a : α) (f : α → β) : (R.ok a).map f = .ok (f a) := rfl
/-- r where c holds (by a choice that nothing reckons with) -/
def guard (c : Prop) {α : Type} (r : R α) : R α := @ite _ c (Classical.propDecidable c) r .no
@[simp] theorem guard_pos {c : Prop} {α : Type} {r : R α} (h : c) : guard c r = r := @if_pos _ (Classical.propDecidable c) h _ _ _

/-- how an exception of a class, and any instance, is told as data -/
def excD (c : Str) : D := .dict [(.none, .str c)]
def insD : D := .dict [(.none, .none)]
mutual
def viewD : Ow → D
  | .d x => x
  | .l xs => .list (viewAll xs)
  | .m kvs => .dict kvs
  | .t xs => .tuple (viewAll xs)
  | .k ks xs => .dict (ks.zip (viewAll xs))
  | .n ks xs => .dict (ks.zip (viewAll xs))
  | .o _ _ _ => insD
def viewAll : List Ow → List D
  | [] => []
  | x :: xs => viewD x :: viewAll xs
end
@[simp] theorem viewD_d (x : D) : viewD (.d x) = x := by unfold viewD; rfl
@[simp] theorem viewD_m (kvs : List (D × D)) : viewD (.m kvs) = .dict kvs := by rw [viewD]
@[simp] theorem viewD_l (xs : List Ow) : viewD (.l xs) = .list (viewAll xs) := by rw [viewD]
@[simp] theorem viewD_t (xs : List Ow) : viewD (.t xs) = .tuple (viewAll xs) := by rw [viewD]
@[simp] theorem viewD_k (ks : List D) (xs : List Ow) : viewD (.k ks xs) = .dict (ks.zip (viewAll xs)) := by rw [viewD]
@[simp] theorem viewD_n (ks : List D) (xs : List Ow) : viewD (.n ks xs) = .dict (ks.zip (viewAll xs)) := by rw [viewD]
@[simp] theorem viewD_o (c : Str) (ns : List Str) (xs : List Ow) : viewD (.o c ns xs) = insD := by rw [viewD]
@[simp] theorem viewAll_nil : viewAll [] = [] := by rw [viewAll]
@[simp] theorem viewAll_cons (x : Ow) (xs : List Ow) : viewAll (x :: xs) = viewD x :: viewAll xs := by rw [viewAll]
theorem viewAll_map : ∀ xs : List Ow, viewAll xs = xs.map viewD
  | [] => by rw [viewAll]; rfl
  | x :: xs => by rw [viewAll, viewAll_map xs]; rfl
@[simp] theorem viewAll_mapd : ∀ xs : List D, viewAll (xs.map Ow.d) = xs
  | [] => by simp
  | x :: xs => by simp [viewAll_mapd xs]

/-- a dict's key as data -/
def keyD : Key → D
  | .inl i => .int i
  | .inr z => .str z
/-- an exception of a class of the program's own -/
def excO (K : Kw) (a : Addr) (c : Str) : HO := .ext fun h => ∃ C oe vs, PySem.W.nsIn K.K mainGlobals c = some (some (.ref C)) ∧ h.get? a = some oe ∧ Zc (.ref C) none oe ∧ oe.data = .fields vs
/-- a dict whose keys are tuples, nested ones among them -/
def rowN (w : World) (x : NestedKey × Addr × Value) : DictEntry := ⟨x.1.hash w, .ref x.2.1, x.2.2⟩
def RelN (p : NestedKey × Addr × V) (q : NestedKey × Addr × Value) : Prop := p.1 = q.1 ∧ p.2.1 = q.2.1 ∧ RelV p.2.2 q.2.2
def dnO (w : World) (a : Addr) (kvs : List (NestedKey × Addr × V)) : HO := .ext fun h => kvs.length ≤ sizeLine ∧ (a == sysModules) = false ∧ ∃ xs : List (NestedKey × Addr × Value), Paired RelN kvs xs ∧
  ∃ o es ep, h.get? a = some o ∧ o.ExactDict ∧ o.data = .dict es ep ∧ es.toList = xs.map (rowN w) ∧ (xs.map (·.1)).Nodup
mutual
inductive Dp (K : Kw) (H : Hp) : V → PyData → Prop
  | non : Dp K H .non .none
  | bl (b : Bool) : Dp K H (.bl b) (.bool b)
  | int (i : Int) : Dp K H (.int i) (.int i)
  | str (x : Str) : Dp K H (.str x) (.str x)
  | lst {a : Addr} {xs : List V} {ds : List PyData} : SqL K.K H a xs → DpAll K H xs ds → Dp K H (.ref a) (.list ds)
  | tup {a : Addr} {xs : List V} {ds : List PyData} : SqT K.K H a xs → DpAll K H xs ds → Dp K H (.ref a) (.tuple ds)
  | dct {a : Addr} {kvs : List (Key × V)} {ps : List (PyData × PyData)} : Rd H a (.dK kvs) → DpKv K H kvs ps → Dp K H (.ref a) (.dict ps)
  | dcn {a : Addr} {kvs : List (NestedKey × Addr × V)} {ps : List (PyData × PyData)} : Rd H a (dnO K.w a kvs) → DpKn K H kvs ps → Dp K H (.ref a) (.dict ps)
  | exc {a : Addr} {c : Str} : Rd H a (excO K a c) → Dp K H (.ref a) (.dict [(.none, .str c)])
  | ins {a C dx : Addr} {fs : List (Str × V)} : H a = some (.ins C dx fs) → Dp K H (.ref a) (.dict [(.none, .none)])
inductive DpAll (K : Kw) (H : Hp) : List V → List PyData → Prop
  | nil : DpAll K H [] []
  | cons {v : V} {vs : List V} {d : PyData} {ds : List PyData} : Dp K H v d → DpAll K H vs ds → DpAll K H (v :: vs) (d :: ds)
inductive DpKv (K : Kw) (H : Hp) : List (Key × V) → List (PyData × PyData) → Prop
  | nil : DpKv K H [] []
  | cons {k : Key} {v : V} {kvs : List (Key × V)} {d : PyData} {ps : List (PyData × PyData)} : Dp K H v d → DpKv K H kvs ps → DpKv K H ((k, v) :: kvs) ((keyD k, d) :: ps)
inductive DpKn (K : Kw) (H : Hp) : List (NestedKey × Addr × V) → List (PyData × PyData) → Prop
  | nil : DpKn K H [] []
  | cons {k : NestedKey} {b : Addr} {v : V} {kvs : List (NestedKey × Addr × V)} {d : PyData} {ps : List (PyData × PyData)} : Dp K H (.ref b) k.data → k.depth ≤ 8 → Dp K H v d → DpKn K H kvs ps → DpKn K H ((k, b, v) :: kvs) ((k.data, d) :: ps)
end
section
variable {K : Kw}
theorem Same.rd {H H' : Hp} {a : Addr} {u : HO} (e : Same H H') (h : Rd H a u) : Rd H' a u := by
  rcases h with h | ⟨o, h⟩
  · exact .inl (e _ _ h)
  · exact .inr ⟨o, e _ _ h⟩
theorem SqT_mono {K : PySem.W.Frag} {H H' : Hp} {a : Addr} {xs : List V} (e : Same H H') (h : SqT K H a xs) : SqT K H' a xs := by
  rcases h with (h | ⟨o, h⟩) | h
  · exact .inl (.inl (e _ _ h))
  · exact .inl (.inr ⟨o, e _ _ h⟩)
  · exact .inr h
mutual
theorem Dp.mono {H H' : Hp} (e : Same H H') : ∀ (d : D) (v : V), Dp K H v d → Dp K H' v d
  | .none, _, h => by cases h; exact .non
  | .bool b, _, h => by cases h; exact .bl b
  | .int b, _, h => by cases h; exact .int b
  | .str b, _, h => by cases h; exact .str b
  | .list ds, _, h => by
    cases h with
    | lst hs ha => exact .lst (e.seq hs) (DpAll.mono e ds _ ha)
  | .tuple ds, _, h => by
    cases h with
    | tup hs ha => exact .tup (SqT_mono e hs) (DpAll.mono e ds _ ha)
  | .dict ps, _, h => by
    cases h with
    | dct hs ha => exact .dct (Same.rd e hs) (DpKv.mono e ps _ ha)
    | dcn hs ha => exact .dcn (Same.rd e hs) (DpKn.mono e ps _ ha)
    | exc hs => exact .exc (Same.rd e hs)
    | ins hs => exact .ins (e _ _ hs)
theorem DpAll.mono {H H' : Hp} (e : Same H H') : ∀ (ds : List D) (vs : List V), DpAll K H vs ds → DpAll K H' vs ds
  | [], _, h => by cases h; exact .nil
  | d :: ds, _, h => by
    cases h with
    | cons h1 h2 => exact .cons (Dp.mono e d _ h1) (DpAll.mono e ds _ h2)
theorem DpKv.mono {H H' : Hp} (e : Same H H') : ∀ (ps : List (D × D)) (kvs : List (Key × V)), DpKv K H kvs ps → DpKv K H' kvs ps
  | [], _, h => by cases h; exact .nil
  | (x, d) :: ps, _, h => by
    cases h with
    | cons h1 h2 => exact .cons (Dp.mono e d _ h1) (DpKv.mono e ps _ h2)
theorem DpKn.mono {H H' : Hp} (e : Same H H') : ∀ (ps : List (D × D)) (kvs : List (NestedKey × Addr × V)), DpKn K H kvs ps → DpKn K H' kvs ps
  | [], _, h => by cases h; exact .nil
  | (x, d) :: ps, _, h => by
    cases h with
    | cons h0 h1 h2 h3 => exact .cons (Dp.mono e _ _ h0) h1 (Dp.mono e d _ h2) (DpKn.mono e ps _ h3)
end
mutual
/-- as the kit has it, where no dict is within -/
theorem Dp.kit {H : Hp} : ∀ (d : D) (v : V), Dp K H v d → d.canLay0 = true → L2.Dp K.K H v d
  | .none, _, h, _ => by cases h; exact .non
  | .bool b, _, h, _ => by cases h; exact .bl b
  | .int b, _, h, _ => by cases h; exact .int b
  | .str b, _, h, _ => by cases h; exact .str b
  | .list ds, _, h, c => by
    cases h with
    | lst hs ha => exact .lst hs (DpAll.kit ds _ ha (by rw [PyData.canLay0] at c; exact c))
  | .tuple ds, _, h, c => by
    cases h with
    | tup hs ha => exact .tup hs (DpAll.kit ds _ ha (by rw [PyData.canLay0] at c; exact c))
  | .dict _, _, _, c => by rw [PyData.canLay0] at c; cases c
theorem DpAll.kit {H : Hp} : ∀ (ds : List D) (vs : List V), DpAll K H vs ds → PyData.canLayAll0 ds = true → L2.DpAll K.K H vs ds
  | [], _, h, _ => by cases h; exact .nil
  | d :: ds, _, h, c => by
    rw [PyData.canLayAll0, Bool.and_eq_true] at c
    cases h with
    | cons h1 h2 => exact .cons (Dp.kit d _ h1 c.1) (DpAll.kit ds _ h2 c.2)
end
theorem dpUp {H H' : Hp} {v : V} {d : D} (h : Dp K H v d) (e : Same H H') : Dp K H' v d := Dp.mono e d v h
theorem dpaUp {H H' : Hp} {v : List V} {d : List D} (h : DpAll K H v d) (e : Same H H') : DpAll K H' v d := DpAll.mono e d v h
theorem DpAll.len {H : Hp} : ∀ {vs : List V} {ds : List D}, DpAll K H vs ds → vs.length = ds.length
  | _, [], h => by cases h; rfl
  | _, d :: ds, h => by
    cases h with
    | cons h1 h2 => simp [DpAll.len h2]
theorem DpAll.get {H : Hp} : ∀ {vs : List V} {ds : List D} {i : Nat} {d : D}, DpAll K H vs ds → ds[i]? = some d → ∃ v, vs[i]? = some v ∧ Dp K H v d
  | _, [], i, d, h, e => by simp at e
  | _, x :: ds, 0, d, h, e => by
    cases h with
    | cons h1 h2 => simp at e; subst e; exact ⟨_, rfl, h1⟩
  | _, x :: ds, i + 1, d, h, e => by
    cases h with
    | cons h1 h2 =>
      obtain ⟨v, q, r⟩ := DpAll.get (i := i) h2 (by simpa using e)
      exact ⟨v, by simpa using q, r⟩
theorem DpAll.getV {H : Hp} : ∀ {vs : List V} {ds : List D} {i : Nat} {v : V}, DpAll K H vs ds → vs[i]? = some v → ∃ d, ds[i]? = some d ∧ Dp K H v d
  | _, [], i, v, h, e => by cases h; simp at e
  | _, x :: ds, 0, v, h, e => by
    cases h with
    | cons h1 h2 => simp at e; subst e; exact ⟨_, rfl, h1⟩
  | _, x :: ds, i + 1, v, h, e => by
    cases h with
    | cons h1 h2 =>
      obtain ⟨d, q, r⟩ := DpAll.getV (i := i) h2 (by simpa using e)
      exact ⟨d, by simpa using q, r⟩
theorem DpAll.append {H : Hp} : ∀ {vs ws : List V} {ds es : List D}, DpAll K H vs ds → DpAll K H ws es → DpAll K H (vs ++ ws) (ds ++ es)
  | _, _, [], _, h, g => by cases h; exact g
  | _, _, d :: ds, _, h, g => by
    cases h with
    | cons h1 h2 => exact .cons h1 (DpAll.append h2 g)
theorem DpAll.take {H : Hp} : ∀ {vs : List V} {ds : List D} (n : Nat), DpAll K H vs ds → DpAll K H (vs.take n) (ds.take n)
  | _, [], n, h => by cases h; simp; exact .nil
  | _, d :: ds, 0, h => by simp; exact .nil
  | _, d :: ds, n + 1, h => by
    cases h with
    | cons h1 h2 => exact .cons h1 (DpAll.take n h2)
theorem DpAll.drop {H : Hp} : ∀ {vs : List V} {ds : List D} (n : Nat), DpAll K H vs ds → DpAll K H (vs.drop n) (ds.drop n)
  | _, [], n, h => by cases h; simp; exact .nil
  | _, d :: ds, 0, h => h
  | _, d :: ds, n + 1, h => by
    cases h with
    | cons h1 h2 => exact DpAll.drop n h2
theorem DpAll.ints {H : Hp} : ∀ {vs : List V} (ns : List Int), DpAll K H vs (ns.map PyData.int) → vs = ns.map V.int
  | _, [], h => by cases h; rfl
  | _, n :: ns, h => by
    cases h with
    | cons h1 h2 => cases h1; simp [DpAll.ints ns h2]
theorem DpAll.of_ints {H : Hp} : ∀ (ns : List Int), DpAll K H (ns.map V.int) (ns.map PyData.int)
  | [] => .nil
  | n :: ns => .cons (.int n) (DpAll.of_ints ns)

/-- frozen facts F, the tracked heap H, behind a step that changes nothing that stood -/
structure Ext (F H F' H' : Hp) : Prop where
  ff : Same F F'
  hh : Same H H'
  fn : ∀ b o, F' b = some o → F b = some o ∨ H b = none
  fh : Same F' H'
theorem Ext.refl {F H : Hp} (h : Same F H) : Ext F H F H := ⟨Same.refl _, Same.refl _, fun _ _ h => .inl h, h⟩
theorem Ext.trans {F H F1 H1 F2 H2 : Hp} (a : Ext F H F1 H1) (b : Ext F1 H1 F2 H2) : Ext F H F2 H2 :=
  ⟨a.ff.trans b.ff, a.hh.trans b.hh, fun c o h => by
    rcases b.fn c o h with q | q
    · exact a.fn c o q
    · exact .inr (a.hh.free q), b.fh⟩
theorem free_of {F H : Hp} (s : Same F H) {p : Addr} (h : H p = none) : F p = none := s.free h
theorem same_upd {H : Hp} {p : Addr} (h : H p = none) (o : HO) : Same H (upd H p o) := fun b u q => by rw [upd_ne (ne_of_none q h)]; exact q
theorem same_upd2 {F H : Hp} (s : Same F H) {p : Addr} (h : H p = none) (o : HO) : Same (upd F p o) (upd H p o) := fun b u q => by
  by_cases e : b = p
  · subst e; rw [upd_same] at q ⊢; exact q
  · rw [upd_ne e] at q ⊢; exact s _ _ q
/-- a new object, frozen at once -/
theorem Ext.frz {F H : Hp} (s : Same F H) {p : Addr} (h : H p = none) (o : HO) : Ext F H (upd F p o) (upd H p o) :=
  ⟨same_upd (free_of s h) o, same_upd h o, fun b u q => by
    by_cases e : b = p
    · subst e; exact .inr h
    · rw [upd_ne e] at q; exact .inl q, same_upd2 s h o⟩
/-- a new object of the def's own -/
theorem Ext.own {F H : Hp} (s : Same F H) {p : Addr} (h : H p = none) (o : HO) : Ext F H F (upd H p o) :=
  ⟨Same.refl _, same_upd h o, fun _ _ q => .inl q, s.trans (same_upd h o)⟩

mutual
inductive OwnAt (K : Kw) (F H : Hp) : V → Ow → List Addr → Prop
  | d {v : V} {x : D} : Dp K F v x → OwnAt K F H v (.d x) []
  | l {a : Addr} {vs : List V} {os : List Ow} {fp : List Addr} : F a = none → H a = some (.lst vs) → OwnAll K F H vs os fp → OwnAt K F H (.ref a) (.l os) (a :: fp)
  | m {a : Addr} {kvs : List (Key × V)} {ps : List (D × D)} : F a = none → H a = some (.dK kvs) → DpKv K F kvs ps → OwnAt K F H (.ref a) (.m ps) [a]
  | t {a : Addr} {vs : List V} {os : List Ow} {fp : List Addr} : SqT K.K F a vs → OwnAll K F H vs os fp → OwnAt K F H (.ref a) (.t os) fp
  | k {a : Addr} {kvs : List (Key × V)} {os : List Ow} {fp : List Addr} : F a = none → H a = some (.dK kvs) → OwnAll K F H (kvs.map (·.2)) os fp → OwnAt K F H (.ref a) (.k (kvs.map fun p => keyD p.1) os) (a :: fp)
  | n {a : Addr} {kvs : List (NestedKey × Addr × V)} {os : List Ow} {fp : List Addr} : F a = none → H a = some (dnO K.w a kvs) → (∀ p ∈ kvs, Dp K F (.ref p.2.1) p.1.data ∧ p.1.depth ≤ 8) → OwnAll K F H (kvs.map (·.2.2)) os fp → OwnAt K F H (.ref a) (.n (kvs.map (·.1.data)) os) (a :: fp)
  | o {c : Str} {a C dx : Addr} {fs : List (Str × V)} {os : List Ow} {fp : List Addr} : PySem.W.nsIn K.K mainGlobals c = some (some (.ref C)) → F a = none → F dx = none → H a = some (.ins C dx fs) → H dx = some (.own a) → OwnAll K F H (fs.map (·.2)) os fp → OwnAt K F H (.ref a) (.o c (fs.map (·.1)) os) (a :: dx :: fp)
inductive OwnAll (K : Kw) (F H : Hp) : List V → List Ow → List Addr → Prop
  | nil : OwnAll K F H [] [] []
  | cons {v : V} {vs : List V} {o : Ow} {os : List Ow} {fp fps : List Addr} : OwnAt K F H v o fp → OwnAll K F H vs os fps → OwnAll K F H (v :: vs) (o :: os) (fp ++ fps)
end
/-- the step of a statement: what is owned (fp) may change -/
structure StepS (F H : Hp) (fp : List Addr) (F' H' : Hp) (fp' : List Addr) : Prop where
  ff : Same F F'
  fr : ∀ b o, H b = some o → b ∉ fp → H' b = some o
  fn : ∀ b o, F' b = some o → F b = some o ∨ b ∈ fp ∨ H b = none
  sub : ∀ b ∈ fp', b ∈ fp ∨ H b = none
theorem StepS.of_ext {F H F' H' : Hp} (e : Ext F H F' H') (fp : List Addr) : StepS F H fp F' H' fp :=
  ⟨e.ff, fun b o h _ => e.hh b o h, fun b o h => (e.fn b o h).imp id .inr, fun b h => .inl h⟩
theorem StepS.trans {F H F1 H1 F2 H2 : Hp} {fp fp1 fp2 : List Addr} (a : StepS F H fp F1 H1 fp1) (b : StepS F1 H1 fp1 F2 H2 fp2) : StepS F H fp F2 H2 fp2 := by
  have nn : ∀ c, H1 c = none → c ∈ fp ∨ H c = none := fun c h => by
    cases q : H c with
    | none => exact .inr rfl
    | some o =>
      by_cases hc : c ∈ fp
      · exact .inl hc
      · rw [a.fr c o q hc] at h; cases h
  refine ⟨a.ff.trans b.ff, fun c o h hc => b.fr c o (a.fr c o h hc) fun z => ?_, fun c o h => ?_, fun c h => ?_⟩
  · rcases a.sub c z with q | q
    · exact hc q
    · rw [h] at q; cases q
  · rcases b.fn c o h with q | q | q
    · exact a.fn c o q
    · exact .inr (a.sub c q)
    · exact .inr (nn c q)
  · rcases b.sub c h with q | q
    · exact a.sub c q
    · exact nn c q
theorem StepS.mono {F H F1 H1 : Hp} {fp fp' fp1 : List Addr} (a : StepS F H fp F1 H1 fp1) (h : ∀ b ∈ fp, b ∈ fp') : StepS F H fp' F1 H1 fp1 :=
  ⟨a.ff, fun b o q n => a.fr b o q fun z => n (h b z), fun b o q => (a.fn b o q).imp id (.imp (h b) id), fun b q => (a.sub b q).imp (h b) id⟩
theorem StepS.subset {F H F1 H1 : Hp} {fp fp1 fp2 : List Addr} (a : StepS F H fp F1 H1 fp1) (h : ∀ b ∈ fp2, b ∈ fp1) : StepS F H fp F1 H1 fp2 :=
  ⟨a.ff, a.fr, a.fn, fun b q => a.sub b (h b q)⟩
theorem StepS.none_of {F H F' H' : Hp} {fx fy : List Addr} {a : Addr} {o : HO} (s : StepS F H fx F' H' fy) (h1 : F a = none) (h2 : H a = some o) (na : a ∉ fx) : F' a = none := by
  cases q : F' a with
  | none => rfl
  | some u =>
    rcases s.fn a u q with z | z | z
    · rw [h1] at z; cases z
    · exact absurd z na
    · rw [h2] at z; cases z

mutual
/-- what is owned apart from what changes stays -/
theorem OwnAt.keep {F H F' H' : Hp} {fx fy : List Addr} (s : StepS F H fx F' H' fy) : ∀ (o : Ow) (v : V) (fp : List Addr), OwnAt K F H v o fp → (∀ b ∈ fp, b ∉ fx) → OwnAt K F' H' v o fp
  | .d x, v, fp, h, _ => by
    cases h with
    | d q => exact .d (dpUp q s.ff)
  | .l os, v, fp, h, n => by
    cases h with
    | @l a vs _ fps h1 h2 h3 =>
      have na : a ∉ fx := n a List.mem_cons_self
      refine .l ?_ (s.fr _ _ h2 na) (OwnAll.keep s os vs fps h3 fun b hb => n b (List.mem_cons_of_mem _ hb))
      cases q : F' a with
      | none => rfl
      | some u =>
        rcases s.fn a u q with z | z | z
        · rw [h1] at z; cases z
        · exact absurd z na
        · rw [h2] at z; cases z
  | .m ps, v, fp, h, n => by
    cases h with
    | @m a kvs _ h1 h2 h3 =>
      have na : a ∉ fx := n a List.mem_cons_self
      refine .m ?_ (s.fr _ _ h2 na) (DpKv.mono s.ff ps _ h3)
      cases q : F' a with
      | none => rfl
      | some u =>
        rcases s.fn a u q with z | z | z
        · rw [h1] at z; cases z
        · exact absurd z na
        · rw [h2] at z; cases z
  | .t os, v, fp, h, n => by
    cases h with
    | @t a vs _ _ h1 h2 => exact .t (SqT_mono s.ff h1) (OwnAll.keep s os vs fp h2 n)
  | .k _ os, v, fp, h, n => by
    cases h with
    | @k a kvs _ fps h1 h2 h3 =>
      have na : a ∉ fx := n a List.mem_cons_self
      refine .k (s.none_of h1 h2 na) (s.fr _ _ h2 na) (OwnAll.keep s os _ fps h3 fun b hb => n b (List.mem_cons_of_mem _ hb))
  | .n _ os, v, fp, h, n => by
    cases h with
    | @n a kvs _ fps h1 h2 h3 h4 =>
      have na : a ∉ fx := n a List.mem_cons_self
      refine .n (s.none_of h1 h2 na) (s.fr _ _ h2 na) (fun p hp => ⟨Dp.mono s.ff _ _ (h3 p hp).1, (h3 p hp).2⟩) (OwnAll.keep s os _ fps h4 fun b hb => n b (List.mem_cons_of_mem _ hb))
  | .o _ _ os, v, fp, h, n => by
    cases h with
    | @o c a C dx fs _ fps h0 h1 h2 h3 h4 h5 =>
      have na : a ∉ fx := n a List.mem_cons_self
      have nd : dx ∉ fx := n dx (List.mem_cons_of_mem _ List.mem_cons_self)
      exact .o h0 (s.none_of h1 h3 na) (s.none_of h2 h4 nd) (s.fr _ _ h3 na) (s.fr _ _ h4 nd) (OwnAll.keep s os _ fps h5 fun b hb => n b (List.mem_cons_of_mem _ (List.mem_cons_of_mem _ hb)))
theorem OwnAll.keep {F H F' H' : Hp} {fx fy : List Addr} (s : StepS F H fx F' H' fy) : ∀ (os : List Ow) (vs : List V) (fp : List Addr), OwnAll K F H vs os fp → (∀ b ∈ fp, b ∉ fx) → OwnAll K F' H' vs os fp
  | [], vs, fp, h, _ => by cases h; exact .nil
  | o :: os, vs, fp, h, n => by
    cases h with
    | cons h1 h2 => exact .cons (OwnAt.keep s o _ _ h1 fun b hb => n b (List.mem_append_left _ hb)) (OwnAll.keep s os _ _ h2 fun b hb => n b (List.mem_append_right _ hb))
end
theorem OwnAt.ext {F H F' H' : Hp} {v : V} {o : Ow} {fp : List Addr} (h : OwnAt K F H v o fp) (e : Ext F H F' H') : OwnAt K F' H' v o fp :=
  OwnAt.keep (StepS.of_ext e []) o v fp h fun _ _ => by simp
theorem OwnAll.ext {F H F' H' : Hp} {v : List V} {o : List Ow} {fp : List Addr} (h : OwnAll K F H v o fp) (e : Ext F H F' H') : OwnAll K F' H' v o fp :=
  OwnAll.keep (StepS.of_ext e []) o v fp h fun _ _ => by simp
mutual
theorem OwnAt.there {F H : Hp} : ∀ (o : Ow) (v : V) (fp : List Addr), OwnAt K F H v o fp → ∀ b ∈ fp, F b = none ∧ ∃ o, H b = some o
  | .d x, v, fp, h, b, hb => by cases h; cases hb
  | .l os, v, fp, h, b, hb => by
    cases h with
    | l h1 h2 h3 =>
      rcases List.mem_cons.mp hb with e | e
      · subst e; exact ⟨h1, _, h2⟩
      · exact OwnAll.there os _ _ h3 b e
  | .m ps, v, fp, h, b, hb => by
    cases h with
    | m h1 h2 h3 =>
      rw [List.mem_singleton] at hb
      subst hb; exact ⟨h1, _, h2⟩
  | .t os, v, fp, h, b, hb => by
    cases h with
    | t h1 h2 => exact OwnAll.there os _ _ h2 b hb
  | .k _ os, v, fp, h, b, hb => by
    cases h with
    | k h1 h2 h3 =>
      rcases List.mem_cons.mp hb with e | e
      · subst e; exact ⟨h1, _, h2⟩
      · exact OwnAll.there os _ _ h3 b e
  | .n _ os, v, fp, h, b, hb => by
    cases h with
    | n h1 h2 h3 h4 =>
      rcases List.mem_cons.mp hb with e | e
      · subst e; exact ⟨h1, _, h2⟩
      · exact OwnAll.there os _ _ h4 b e
  | .o _ _ os, v, fp, h, b, hb => by
    cases h with
    | o h0 h1 h2 h3 h4 h5 =>
      rcases List.mem_cons.mp hb with e | e
      · subst e; exact ⟨h1, _, h3⟩
      · rcases List.mem_cons.mp e with e | e
        · subst e; exact ⟨h2, _, h4⟩
        · exact OwnAll.there os _ _ h5 b e
theorem OwnAll.there {F H : Hp} : ∀ (o : List Ow) (v : List V) (fp : List Addr), OwnAll K F H v o fp → ∀ b ∈ fp, F b = none ∧ ∃ o, H b = some o
  | [], v, fp, h, b, hb => by cases h; cases hb
  | o :: os, v, fp, h, b, hb => by
    cases h with
    | cons h1 h2 =>
      rcases List.mem_append.mp hb with e | e
      · exact OwnAt.there o _ _ h1 b e
      · exact OwnAll.there os _ _ h2 b e
end
theorem dpKv_zip {H : Hp} : ∀ {kvs : List (Key × V)} {ds : List D}, DpAll K H (kvs.map (·.2)) ds → DpKv K H kvs ((kvs.map fun p => keyD p.1).zip ds)
  | [], _, h => by cases h; exact .nil
  | p :: kvs, _, h => by
    cases h with
    | cons h1 h2 => exact .cons h1 (dpKv_zip h2)
theorem dpKn_zip {H : Hp} : ∀ {kvs : List (NestedKey × Addr × V)} {ds : List D}, (∀ p ∈ kvs, Dp K H (.ref p.2.1) p.1.data ∧ p.1.depth ≤ 8) → DpAll K H (kvs.map (·.2.2)) ds → DpKn K H kvs ((kvs.map (·.1.data)).zip ds)
  | [], _, _, h => by cases h; exact .nil
  | p :: kvs, _, g, h => by
    cases h with
    | cons h1 h2 => exact .cons (g p List.mem_cons_self).1 (g p List.mem_cons_self).2 h1 (dpKn_zip (fun q hq => g q (List.mem_cons_of_mem _ hq)) h2)
mutual
theorem OwnAt.view {F H : Hp} (s : Same F H) : ∀ (o : Ow) (v : V) (fp : List Addr), OwnAt K F H v o fp → Dp K H v (viewD o)
  | .d x, v, fp, h => by
    cases h with
    | d q => rw [viewD]; exact dpUp q s
  | .l os, v, fp, h => by
    cases h with
    | l h1 h2 h3 => rw [viewD]; exact .lst (SqL.of h2) (OwnAll.view s os _ _ h3)
  | .m ps, v, fp, h => by
    cases h with
    | m h1 h2 h3 => rw [viewD]; exact .dct (.inl h2) (DpKv.mono s ps _ h3)
  | .t os, v, fp, h => by
    cases h with
    | t h1 h2 => rw [viewD]; exact .tup (SqT_mono s h1) (OwnAll.view s os _ _ h2)
  | .k _ os, v, fp, h => by
    cases h with
    | k h1 h2 h3 => rw [viewD]; exact .dct (.inl h2) (dpKv_zip (OwnAll.view s os _ _ h3))
  | .n _ os, v, fp, h => by
    cases h with
    | n h1 h2 h3 h4 => rw [viewD]; exact .dcn (.inl h2) (dpKn_zip (fun p hp => ⟨Dp.mono s _ _ (h3 p hp).1, (h3 p hp).2⟩) (OwnAll.view s os _ _ h4))
  | .o _ _ os, v, fp, h => by
    cases h with
    | o h0 h1 h2 h3 h4 h5 => rw [viewD]; exact .ins h3
theorem OwnAll.view {F H : Hp} (s : Same F H) : ∀ (o : List Ow) (v : List V) (fp : List Addr), OwnAll K F H v o fp → DpAll K H v (viewAll o)
  | [], v, fp, h => by cases h; rw [viewAll]; exact .nil
  | o :: os, v, fp, h => by
    cases h with
    | cons h1 h2 => rw [viewAll]; exact .cons (OwnAt.view s o _ _ h1) (OwnAll.view s os _ _ h2)
end
theorem OwnAll.len {F H : Hp} : ∀ {os : List Ow} {vs : List V} {fp : List Addr}, OwnAll K F H vs os fp → vs.length = os.length
  | [], _, _, h => by cases h; rfl
  | o :: os, _, _, h => by
    cases h with
    | cons h1 h2 => simp [OwnAll.len h2]
/-- F with the objects at fp as they stand in H -/
def frzAt (F H : Hp) (fp : List Addr) : Hp := fun b => if b ∈ fp then H b else F b
theorem frzAt_same {F H : Hp} {fp : List Addr} (n : ∀ b ∈ fp, F b = none) : Same F (frzAt F H fp) := fun b o h => by
  have : b ∉ fp := fun z => by rw [n b z] at h; cases h
  simp [frzAt, this, h]
theorem frzAt_in {F H : Hp} {fp : List Addr} (s : Same F H) : Same (frzAt F H fp) H := fun b o h => by
  unfold frzAt at h
  split at h
  · exact h
  · exact s _ _ h
theorem frzAt_of {F H : Hp} {fp : List Addr} {b : Addr} {o : HO} (h : frzAt F H fp b = some o) : F b = some o ∨ b ∈ fp := by
  unfold frzAt at h
  split at h
  · exact .inr ‹_›
  · exact .inl h
mutual
theorem OwnAt.frz {F H : Hp} {fx : List Addr} (nx : ∀ b ∈ fx, F b = none) : ∀ (o : Ow) (v : V) (fp : List Addr), OwnAt K F H v o fp → (∀ b ∈ fp, b ∈ fx) → Dp K (frzAt F H fx) v (viewD o)
  | .d x, v, fp, h, _ => by
    cases h with
    | d q => rw [viewD]; exact dpUp q (frzAt_same nx)
  | .l os, v, fp, h, hs => by
    cases h with
    | @l a _ _ _ h1 h2 h3 =>
      rw [viewD]
      have e : frzAt F H fx a = some (.lst _) := (if_pos (hs a List.mem_cons_self)).trans h2
      exact .lst (SqL.of e) (OwnAll.frz nx os _ _ h3 fun b hb => hs b (List.mem_cons_of_mem _ hb))
  | .m ps, v, fp, h, hs => by
    cases h with
    | @m a _ _ h1 h2 h3 =>
      rw [viewD]
      have e : frzAt F H fx a = some (.dK _) := (if_pos (hs a List.mem_cons_self)).trans h2
      exact .dct (.inl e) (DpKv.mono (frzAt_same nx) ps _ h3)
  | .t os, v, fp, h, hs => by
    cases h with
    | t h1 h2 => rw [viewD]; exact .tup (SqT_mono (frzAt_same nx) h1) (OwnAll.frz nx os _ _ h2 hs)
  | .k _ os, v, fp, h, hs => by
    cases h with
    | @k a _ _ _ h1 h2 h3 =>
      rw [viewD]
      have e : frzAt F H fx a = some (.dK _) := (if_pos (hs a List.mem_cons_self)).trans h2
      exact .dct (.inl e) (dpKv_zip (OwnAll.frz nx os _ _ h3 fun b hb => hs b (List.mem_cons_of_mem _ hb)))
  | .n _ os, v, fp, h, hs => by
    cases h with
    | @n a _ _ _ h1 h2 h3 h4 =>
      rw [viewD]
      have e : frzAt F H fx a = some (dnO _ _ _) := (if_pos (hs a List.mem_cons_self)).trans h2
      exact .dcn (.inl e) (dpKn_zip (fun p hp => ⟨Dp.mono (frzAt_same nx) _ _ (h3 p hp).1, (h3 p hp).2⟩) (OwnAll.frz nx os _ _ h4 fun b hb => hs b (List.mem_cons_of_mem _ hb)))
  | .o _ _ os, v, fp, h, hs => by
    cases h with
    | @o c a C dx fs _ _ h0 h1 h2 h3 h4 h5 =>
      rw [viewD]
      have e : frzAt F H fx a = some (.ins _ _ _) := (if_pos (hs a List.mem_cons_self)).trans h3
      exact .ins e
theorem OwnAll.frz {F H : Hp} {fx : List Addr} (nx : ∀ b ∈ fx, F b = none) : ∀ (o : List Ow) (v : List V) (fp : List Addr), OwnAll K F H v o fp → (∀ b ∈ fp, b ∈ fx) → DpAll K (frzAt F H fx) v (viewAll o)
  | [], v, fp, h, _ => by cases h; rw [viewAll]; exact .nil
  | o :: os, v, fp, h, hs => by
    cases h with
    | cons h1 h2 => rw [viewAll]; exact .cons (OwnAt.frz nx o _ _ h1 fun b hb => hs b (List.mem_append_left _ hb)) (OwnAll.frz nx os _ _ h2 fun b hb => hs b (List.mem_append_right _ hb))
end
/-- a fresh owned value made data -/
theorem Ext.freeze {F H F' H' : Hp} {v : V} {o : Ow} {fp : List Addr} (e : Ext F H F' H') (h : OwnAt K F' H' v o fp) (n : ∀ b ∈ fp, H b = none) :
    ∃ F2, Ext F H F2 H' ∧ Dp K F2 v (viewD o) := by
  have nx : ∀ b ∈ fp, F' b = none := fun b hb => (OwnAt.there o v fp h b hb).1
  refine ⟨frzAt F' H' fp, ⟨e.ff.trans (frzAt_same nx), e.hh, fun b u q => ?_, frzAt_in e.fh⟩, OwnAt.frz nx o v fp h fun _ z => z⟩
  rcases frzAt_of q with z | z
  · exact e.fn b u z
  · exact .inr (n b z)

inductive EnvAt (K : Kw) (F H : Hp) : St → Ev → List Addr → Prop
  | nil : EnvAt K F H [] [] []
  | non {x : Option V} {σ : St} {env : Ev} {fp : List Addr} : EnvAt K F H σ env fp → EnvAt K F H (x :: σ) (none :: env) fp
  | som {v : V} {o : Ow} {σ : St} {env : Ev} {fp fps : List Addr} : OwnAt K F H v o fp → EnvAt K F H σ env fps → EnvAt K F H (some v :: σ) (some o :: env) (fp ++ fps)
theorem EnvAt.keep {F H F' H' : Hp} {fx fy : List Addr} (s : StepS F H fx F' H' fy) : ∀ {σ : St} {env : Ev} {fp : List Addr}, EnvAt K F H σ env fp → (∀ b ∈ fp, b ∉ fx) → EnvAt K F' H' σ env fp := by
  intro σ env fp h
  induction h with
  | nil => intro _; exact .nil
  | non h ih => intro n; exact .non (ih n)
  | som h1 h2 ih => intro n; exact .som (OwnAt.keep s _ _ _ h1 fun b hb => n b (List.mem_append_left _ hb)) (ih fun b hb => n b (List.mem_append_right _ hb))
theorem EnvAt.ext {F H F' H' : Hp} {σ : St} {env : Ev} {fp : List Addr} (h : EnvAt K F H σ env fp) (e : Ext F H F' H') : EnvAt K F' H' σ env fp :=
  h.keep (StepS.of_ext e []) fun _ _ => by simp
theorem EnvAt.there {F H : Hp} {σ : St} {env : Ev} {fp : List Addr} (h : EnvAt K F H σ env fp) : ∀ b ∈ fp, F b = none ∧ ∃ o, H b = some o := by
  induction h with
  | nil => intro b hb; cases hb
  | non h ih => exact ih
  | som h1 h2 ih =>
    intro b hb
    rcases List.mem_append.mp hb with e | e
    · exact OwnAt.there _ _ _ h1 b e
    · exact ih b e
theorem EnvAt.len {F H : Hp} {σ : St} {env : Ev} {fp : List Addr} (h : EnvAt K F H σ env fp) : σ.length = env.length := by
  induction h with
  | nil => rfl
  | non h ih => simp [ih]
  | som h1 h2 ih => simp [ih]
/-- a slot read: its own footprint, and the others' -/
theorem EnvAt.get {F H : Hp} {σ : St} {env : Ev} {fp : List Addr} (h : EnvAt K F H σ env fp) : ∀ {i : Nat} {o : Ow}, env[i]? = some (some o) → ∃ v fo, σ[i]? = some (some v) ∧ OwnAt K F H v o fo ∧ (∀ b ∈ fo, b ∈ fp) := by
  induction h with
  | nil => intro i o e; simp at e
  | non h ih =>
    intro i o e
    cases i with
    | zero => simp at e
    | succ i => simpa using ih (i := i) (by simpa using e)
  | @som v o' σ' env' fp1 fps h1 h2 ih =>
    intro i o e
    cases i with
    | zero =>
      simp at e; subst e
      exact ⟨v, fp1, rfl, h1, fun b hb => List.mem_append_left _ hb⟩
    | succ i =>
      obtain ⟨v2, fo, a, b, c⟩ := ih (i := i) (by simpa using e)
      exact ⟨v2, fo, by simpa using a, b, fun b hb => List.mem_append_right _ (c b hb)⟩
/-- a slot changed: the rest keeps; fo what stood there, fr the rest (F, H may have moved by a step within fo) -/
theorem EnvAt.put {F H : Hp} {σ : St} {env : Ev} {fp : List Addr} (h : EnvAt K F H σ env fp) : ∀ {i : Nat}, i < env.length → fp.Nodup → ∃ fr fo, (∀ b ∈ fr, b ∈ fp) ∧ (∀ b ∈ fo, b ∈ fp) ∧ fr.Nodup ∧ fo.Nodup ∧ (∀ b ∈ fo, b ∉ fr) ∧
    (∀ o, env[i]? = some (some o) → ∃ v, σ[i]? = some (some v) ∧ OwnAt K F H v o fo) ∧
    ∀ (F' H' : Hp) (fx fy : List Addr), StepS F H fx F' H' fy → (∀ b ∈ fr, b ∉ fx) → (∀ (x : Option V), EnvAt K F' H' (σ.set i x) (env.set i none) fr) ∧ ∀ (v : V) (o : Ow) (fn : List Addr), OwnAt K F' H' v o fn → fn.Nodup → (∀ b ∈ fn, b ∉ fr) → ∃ fp', fp'.Nodup ∧ (∀ b ∈ fp', b ∈ fn ∨ b ∈ fr) ∧ EnvAt K F' H' (σ.set i (some v)) (env.set i (some o)) fp' := by
  induction h with
  | nil => intro i hi; simp at hi
  | @non x σ' env' fps h ih =>
    intro i hi hn
    cases i with
    | zero =>
      refine ⟨fps, [], fun b z => z, (fun b z => nomatch z), hn, List.nodup_nil, fun b z => (nomatch z), fun o e => by simp at e, fun F' H' fx fy s n => ⟨fun x => .non (h.keep s n), fun v o fn ho hd hx => ?_⟩⟩
      refine ⟨fn ++ fps, ?_, fun b hb => List.mem_append.mp hb, .som ho (h.keep s n)⟩
      rw [List.nodup_append]
      exact ⟨hd, hn, fun a ha b hb e => hx a ha (e ▸ hb)⟩
    | succ i =>
      obtain ⟨fr, fo, a1, a2, a3, a3', a4, a5, a6⟩ := ih (i := i) (by simpa using hi) hn
      refine ⟨fr, fo, a1, a2, a3, a3', a4, by simpa using a5, fun F' H' fx fy s n => ⟨fun x => .non ((a6 F' H' fx fy s n).1 x), fun v o fn ho hd hx => ?_⟩⟩
      obtain ⟨fp', b1, b2, b3⟩ := (a6 F' H' fx fy s n).2 v o fn ho hd hx
      exact ⟨fp', b1, b2, .non b3⟩
  | @som v0 o0 σ' env' f1 fps h1 h2 ih =>
    intro i hi hn
    rw [List.nodup_append] at hn
    obtain ⟨n1, n2, n3⟩ := hn
    cases i with
    | zero =>
      refine ⟨fps, f1, fun b z => List.mem_append_right _ z, fun b z => List.mem_append_left _ z, n2, n1, fun b z q => n3 b z b q rfl, fun o e => ?_, fun F' H' fx fy s n => ⟨fun x => .non (h2.keep s n), fun v o fn ho hd hx => ?_⟩⟩
      · simp at e; subst e; exact ⟨v0, rfl, h1⟩
      · refine ⟨fn ++ fps, ?_, fun b hb => List.mem_append.mp hb, .som ho (h2.keep s n)⟩
        rw [List.nodup_append]
        exact ⟨hd, n2, fun a ha b hb e => hx a ha (e ▸ hb)⟩
    | succ i =>
      obtain ⟨fr, fo, a1, a2, a3, a3', a4, a5, a6⟩ := ih (i := i) (by simpa using hi) n2
      have dis : ∀ b ∈ f1, b ∉ fr := fun b z q => n3 b z b (a1 b q) rfl
      have key : ∀ (F' H' : Hp) (fx fy : List Addr), StepS F H fx F' H' fy → (∀ b ∈ f1 ++ fr, b ∉ fx) → OwnAt K F' H' v0 o0 f1 := fun F' H' fx fy s n => OwnAt.keep s _ _ _ h1 fun b hb => n b (List.mem_append_left _ hb)
      refine ⟨f1 ++ fr, fo, fun b z => ?_, fun b z => List.mem_append_right _ (a2 b z), ?_, a3', fun b z q => ?_, by simpa using a5, fun F' H' fx fy s n => ⟨fun x => .som (key F' H' fx fy s n) ((a6 F' H' fx fy s fun b hb => n b (List.mem_append_right _ hb)).1 x), fun v o fn ho hd hx => ?_⟩⟩
      · rcases List.mem_append.mp z with z | z
        · exact List.mem_append_left _ z
        · exact List.mem_append_right _ (a1 b z)
      · rw [List.nodup_append]; exact ⟨n1, a3, fun a ha b hb e => dis a ha (e ▸ hb)⟩
      · rcases List.mem_append.mp q with q | q
        · exact n3 b q b (a2 b z) rfl
        · exact a4 b z q
      · obtain ⟨fp', b1, b2, b3⟩ := (a6 F' H' fx fy s fun b hb => n b (List.mem_append_right _ hb)).2 v o fn ho hd fun b hb q => hx b hb (List.mem_append_right _ q)
        have dj : ∀ b ∈ f1, b ∉ fp' := fun b z q => by
          rcases b2 b q with r | r
          · exact hx b r (List.mem_append_left _ z)
          · exact dis b z r
        refine ⟨f1 ++ fp', ?_, fun b hb => ?_, .som (key F' H' fx fy s n) b3⟩
        · rw [List.nodup_append]; exact ⟨n1, b1, fun a ha b hb e => dj a ha (e ▸ hb)⟩
        · rcases List.mem_append.mp hb with r | r
          · exact .inr (List.mem_append_left _ r)
          · exact (b2 b r).imp id (List.mem_append_right _)

structure Sat (K : Kw) (F H : Hp) (σ : St) (env : Ev) (fp : List Addr) : Prop where
  fh : Same F H
  en : EnvAt K F H σ env fp
  nd : fp.Nodup
theorem Sat.ext {F H F' H' : Hp} {σ : St} {env : Ev} {fp : List Addr} (s : Sat K F H σ env fp) (e : Ext F H F' H') : Sat K F' H' σ env fp := ⟨e.fh, s.en.ext e, s.nd⟩
end
end Mir
end
set_option Elab.async false
set_option linter.all false
set_option maxRecDepth 100000
set_option maxHeartbeats 4000000
noncomputable section
namespace Mir
open PySem PySem.Spec L2

def Post (X : Cx) (W : WX) {α β : Type} (P : Hp → α → β → Hp → Hp → Prop) (F H : Hp) (σ : L2.St) : R α → (β → Hp → Prop) → Prop
  | .no, _ => False
  | .ok a, Q => ∀ v F' H', Ext F H F' H' → P H a v F' H' → Q v H'
  | .ex c, _ => ∀ C F' H', X.mg c = some (.ref C) → Ext F H F' H' → W (.ref C) none σ H'
class Anti {α β : Type} (P : Hp → α → β → Hp → Hp → Prop) : Prop where
  anti : ∀ {H H1 : Hp} {a : α} {v : β} {F' H' : Hp}, Same H H1 → P H1 a v F' H' → P H a v F' H'
def PVw (K : Kw) (_ : Hp) (d : D) (v : V) (_ H' : Hp) : Prop := Dp K H' v d
def PFz (K : Kw) (_ : Hp) (d : D) (v : V) (F' _ : Hp) : Prop := Dp K F' v d
def POw (K : Kw) (H : Hp) (r : Ow) (v : V) (F' H' : Hp) : Prop := ∃ fp, OwnAt K F' H' v r fp ∧ fp.Nodup ∧ ∀ b ∈ fp, H b = none
/-- a list or tuple whose items are frozen, though it may itself change; other data -/
def PSq (K : Kw) (_ : Hp) (d : D) (v : V) (F' H' : Hp) : Prop := match d with
  | .list ds => ∃ a vs, v = .ref a ∧ SqL K H' a vs ∧ DpAll K F' vs ds
  | d => Dp K F' v d
def PTb (_ : Hp) (b : Bool) (v : Bool) (_ _ : Hp) : Prop := v = b
def PAv (K : Kw) (_ : Hp) (ds : List D) (vs : List V) (_ H' : Hp) : Prop := DpAll K H' vs ds
def PAf (K : Kw) (_ : Hp) (ds : List D) (vs : List V) (F' _ : Hp) : Prop := DpAll K F' vs ds
variable {K : Kw}
instance : Anti (PVw K) := ⟨fun _ h => h⟩
instance : Anti (PFz K) := ⟨fun _ h => h⟩
instance : Anti (PSq K) := ⟨fun {_ _ _ _ _ _} _ h => h⟩
instance : Anti PTb := ⟨fun _ h => h⟩
instance : Anti (PAv K) := ⟨fun _ h => h⟩
instance : Anti (PAf K) := ⟨fun _ h => h⟩
instance : Anti (POw K) := ⟨fun s ⟨fp, a, b, c⟩ => ⟨fp, a, b, fun x hx => s.free (c x hx)⟩⟩

/-- the semantics: t (a reading) is implied by the mirror f -/
def Sm (X : Cx) (W : WX) {α β : Type} (P : Hp → α → β → Hp → Hp → Prop) (t : L2.St → Hp → (β → Hp → Prop) → Prop) (f : Ev → R α) : Prop :=
  ∀ F H σ env fp Q, Sat X.KK F H σ env fp → Post X W P F H σ (f env) Q → t σ H Q
section
variable {X : Cx} {W : WX} {α β γ δ : Type}
theorem Post.ext {P : Hp → α → β → Hp → Hp → Prop} [Anti P] {F H F1 H1 : Hp} {σ : L2.St} {r : R α} {Q : β → Hp → Prop} (h : Post X W P F H σ r Q) (e : Ext F H F1 H1) : Post X W P F1 H1 σ r Q := by
  cases r with
  | no => exact h
  | ok a => exact fun v F' H' e' p => h v F' H' (e.trans e') (Anti.anti e.hh p)
  | ex c => exact fun C F' H' m e' => h C F' H' m (e.trans e')
/-- evaluate one part, go on -/
theorem Sm.go {P : Hp → α → β → Hp → Hp → Prop} {P2 : Hp → γ → δ → Hp → Hp → Prop} [Anti P2] {t : L2.St → Hp → (β → Hp → Prop) → Prop} {f : Ev → R α} (s : Sm X W P t f) {g : α → R γ} {F H : Hp} {σ : L2.St} {env : Ev} {fp : List Addr} {Q : δ → Hp → Prop} {T : β → Hp → Prop}
    (sat : Sat X.KK F H σ env fp) (h : Post X W P2 F H σ ((f env).bind g) Q) (k : ∀ a v F1 H1, Sat X.KK F1 H1 σ env fp → P H a v F1 H1 → Ext F H F1 H1 → Post X W P2 F1 H1 σ (g a) Q → T v H1) : t σ H T := by
  refine s F H σ env fp T sat ?_
  cases e : f env with
  | no => rw [e] at h; exact h
  | ok a =>
    rw [e] at h
    exact fun v F' H' x p => k a v F' H' (sat.ext x) p x (Post.ext (show Post X W P2 F H σ (g a) Q from h) x)
  | ex c => rw [e] at h; exact h
theorem Post.thru {β' : Type} {P : Hp → α → β → Hp → Hp → Prop} {P2 : Hp → γ → β' → Hp → Hp → Prop} {F H : Hp} {σ : L2.St} {r : R α} {g : α → R γ} {Q : β → Hp → Prop} {Q2 : β' → Hp → Prop} (h : Post X W P2 F H σ (r.bind g) Q2)
    (k : ∀ a, r = .ok a → Post X W P2 F H σ (g a) Q2 → ∀ v F' H', Ext F H F' H' → P H a v F' H' → Q v H') : Post X W P F H σ r Q := by
  cases r with
  | no => exact h
  | ok a => exact k a rfl h
  | ex c => exact h
theorem Sm.map {P : Hp → α → β → Hp → Hp → Prop} {P2 : Hp → γ → β → Hp → Hp → Prop} {t : L2.St → Hp → (β → Hp → Prop) → Prop} {f : Ev → R α} (s : Sm X W P t f) {g : α → R γ} (k : ∀ H a v F' H', Same F' H' → P H a v F' H' → ∃ c, g a = .ok c ∧ P2 H c v F' H') :
    Sm X W P2 t fun env => (f env).bind g := by
  intro F H σ env fp Q sat h
  refine s F H σ env fp Q sat (Post.thru h fun a _ h' v F' H' x p => ?_)
  obtain ⟨c, hc, q⟩ := k H a v F' H' x.fh p
  rw [hc] at h'
  exact h' v F' H' x q
end

def eB {α β : Type} (f : Ev → R α) (g : α → R β) (env : Ev) : R β := (f env).bind g
def eM {α β : Type} (f : Ev → R α) (g : α → β) (env : Ev) : R β := (f env).map g

section
variable (X : Cx) (W : WX)
def DV (e : Expr) (f : Ev → R D) : Prop := ∃ t, PE X e t ∧ Sm X W (PVw X.KK) t f
def DF (e : Expr) (f : Ev → R D) : Prop := ∃ t, PE X e t ∧ Sm X W (PFz X.KK) t f
def DE (e : Expr) (f : Ev → R Ow) : Prop := ∃ t, PE X e t ∧ Sm X W (POw X.KK) t f
def DL (e : Expr) (f : Ev → R D) : Prop := ∃ t, PE X e t ∧ Sm X W (PSq X.KK) t f
def DT (e : Expr) (f : Ev → R Bool) : Prop := ∃ t, PT X e t ∧ Sm X W PTb t f
def DW (e : Expr) (f : Ev → R Bool) : Prop := ∃ t, PW X e t ∧ Sm X W PTb t f
def DA (es : List Expr) (f : Ev → R (List D)) : Prop := ∃ t, PA X es t ∧ Sm X W (PAf X.KK) t f
end
def unD : Ow → Option D
  | .d x => some x
  | .l _ => none
  | _ => none
def unDs : List Ow → Option (List D)
  | [] => some []
  | o :: os => (unD o).bind fun x => (unDs os).map fun xs => x :: xs
@[simp] theorem unDs_map : ∀ ds : List D, unDs (ds.map Ow.d) = some ds
  | [] => rfl
  | d :: ds => by simp [unDs, unD, unDs_map ds]
theorem unDs_eq : ∀ {os : List Ow} {ds : List D}, unDs os = some ds → os = ds.map Ow.d
  | [], ds, h => by simp [unDs] at h; subst h; rfl
  | .d x :: os, ds, h => by
    simp only [unDs, unD, Option.bind_some, Option.map_eq_some_iff] at h
    obtain ⟨xs, h1, h2⟩ := h
    subst h2
    rw [unDs_eq h1]; rfl
  | .l _ :: os, ds, h => by simp [unDs, unD] at h
  | .m _ :: os, ds, h => by simp [unDs, unD] at h
  | .t _ :: os, ds, h => by simp [unDs, unD] at h
  | .k _ _ :: os, ds, h => by simp [unDs, unD] at h
  | .n _ _ :: os, ds, h => by simp [unDs, unD] at h
  | .o _ _ _ :: os, ds, h => by simp [unDs, unD] at h
def shD : Ow → R D
  | .d x => .ok x
  | .l os => match unDs os with
    | some ds => .ok (.list ds)
    | none => .no
  | _ => .no
@[simp] theorem shD_d (x : D) : shD (.d x) = .ok x := rfl
@[simp] theorem shD_l (ds : List D) : shD (.l (ds.map Ow.d)) = .ok (.list ds) := by simp [shD]
@[simp] theorem shD_nil : shD (.l []) = .ok (.list []) := rfl
theorem OwnAll.dp {F H : Hp} : ∀ {ds : List D} {vs : List V} {fp : List Addr}, OwnAll K F H vs (ds.map Ow.d) fp → DpAll K F vs ds ∧ fp = []
  | [], _, _, h => by cases h; exact ⟨.nil, rfl⟩
  | d :: ds, _, _, h => by
    cases h with
    | cons h1 h2 =>
      cases h1 with
      | d q =>
        obtain ⟨a, b⟩ := OwnAll.dp (ds := ds) h2
        exact ⟨.cons q a, by rw [b]; rfl⟩
theorem OwnAll.of_dp {F H : Hp} : ∀ {ds : List D} {vs : List V}, DpAll K F vs ds → OwnAll K F H vs (ds.map Ow.d) []
  | [], _, h => by cases h; exact .nil
  | d :: ds, _, h => by
    cases h with
    | cons h1 h2 => exact .cons (fp := []) (.d h1) (OwnAll.of_dp h2)
theorem PSq.of {F H : Hp} {v : V} {d : D} {H0 : Hp} (s : Same F H) (h : Dp K F v d) : PSq K H0 d v F H := by
  cases d with
  | list ds =>
    cases h with
    | lst hs ha => exact ⟨_, _, rfl, s.seq hs, ha⟩
  | _ => exact h
theorem PSq.view {F H : Hp} {v : V} {d : D} {H0 : Hp} (s : Same F H) (h : PSq K H0 d v F H) : Dp K H v d := by
  cases d with
  | list ds =>
    obtain ⟨a, vs, rfl, h1, h2⟩ := h
    exact .lst h1 (dpaUp h2 s)
  | _ => exact dpUp (show Dp K F v _ from h) s
theorem PSq.ext {F H F1 H1 : Hp} {v : V} {d : D} {H0 H2 : Hp} (e : Ext F H F1 H1) (h : PSq K H0 d v F H) : PSq K H2 d v F1 H1 := by
  cases d with
  | list ds =>
    obtain ⟨a, vs, rfl, h1, h2⟩ := h
    exact ⟨_, _, rfl, e.hh.seq h1, dpaUp h2 e.ff⟩
  | _ => exact dpUp (show Dp K F v _ from h) e.ff
theorem own_seq {F H : Hp} {v : V} {o : Ow} {fp : List Addr} {d : D} {H0 : Hp} (s : Same F H) (h : OwnAt K F H v o fp) (e : shD o = .ok d) : PSq K H0 d v F H := by
  cases o with
  | d x =>
    cases h with
    | d p =>
      cases e
      exact .of s p
  | l os =>
    cases h with
    | l h1 h2 h3 =>
      have e' : (match unDs os with | some ds => (R.ok (.list ds) : R D) | none => .no) = .ok d := e
      clear e
      cases u : unDs os with
      | none => rw [u] at e'; cases e'
      | some ds =>
        rw [u] at e'
        cases e'
        rw [unDs_eq u] at h3
        exact ⟨_, _, rfl, SqL.of h2, (OwnAll.dp h3).1⟩
  | _ => cases e
theorem shD_ex (o : Ow) (c : Str) : shD o ≠ .ex c := fun e => by
  cases o with
  | d x => cases e
  | l os =>
    have e' : (match unDs os with | some ds => (R.ok (.list ds) : R D) | none => .no) = .ex c := e
    split at e' <;> cases e'
  | _ => cases e
theorem shD_ok {X : Cx} {W : WX} {β : Type} {P : Hp → D → β → Hp → Hp → Prop} {F H : Hp} {σ : L2.St} {o : Ow} {Q : β → Hp → Prop} (h : Post X W P F H σ (shD o) Q) : ∃ r, shD o = .ok r := by
  cases e2 : shD o with
  | no => rw [e2] at h; exact h.elim
  | ex c => exact absurd e2 (shD_ex o c)
  | ok r => exact ⟨r, rfl⟩
section
variable {X : Cx} {W : WX} {e a b : Expr} {es : List Expr} {pos : Pos}
theorem dv_df {f : Ev → R D} (h : DF X W e f) : DV X W e f := by
  obtain ⟨t, p, s⟩ := h
  refine ⟨t, p, fun F H σ env fp Q sat h => s F H σ env fp Q sat ?_⟩
  cases e : f env with
  | no => rw [e] at h; exact h
  | ex c => rw [e] at h; exact h
  | ok d => rw [e] at h; exact fun v F' H' x q => h v F' H' x (dpUp q x.fh)
theorem dv_de {f : Ev → R Ow} (h : DE X W e f) : DV X W e (eM f viewD) := by
  obtain ⟨t, p, s⟩ := h
  refine ⟨t, p, Sm.map s fun H o v F' H' sm ⟨fp, q, _⟩ => ⟨viewD o, rfl, OwnAt.view sm o v fp q⟩⟩
theorem de_df {f : Ev → R D} (h : DF X W e f) : DE X W e (eM f Ow.d) := by
  obtain ⟨t, p, s⟩ := h
  refine ⟨t, p, Sm.map s fun H d v F' H' sm q => ⟨.d d, rfl, [], .d q, List.nodup_nil, fun b z => nomatch z⟩⟩
theorem df_de {f : Ev → R Ow} (h : DE X W e f) : DF X W e (eM f viewD) := by
  obtain ⟨t, p, s⟩ := h
  refine ⟨t, p, fun F H σ env fp Q sat h => s F H σ env fp Q sat (Post.thru h fun d _ h' v F' H' x ⟨fp, q, _, n⟩ => ?_)⟩
  obtain ⟨F2, x2, q2⟩ := x.freeze q n
  exact h' v F2 H' x2 q2
theorem dl_df {f : Ev → R D} (h : DF X W e f) : DL X W e f := by
  obtain ⟨t, p, s⟩ := h
  refine ⟨t, p, fun F H σ env fp Q sat h => s F H σ env fp Q sat ?_⟩
  cases e : f env with
  | no => rw [e] at h; exact h
  | ex c => rw [e] at h; exact h
  | ok d => rw [e] at h; exact fun v F' H' x q => h v F' H' x (.of x.fh q)
theorem dl_de {f : Ev → R Ow} (h : DE X W e f) : DL X W e (eB f shD) := by
  obtain ⟨t, p, s⟩ := h
  refine ⟨t, p, fun F H σ env fp Q sat h => s F H σ env fp Q sat (Post.thru h fun d _ h' v F' H' x ⟨fp, q, _, n⟩ => ?_)⟩
  obtain ⟨r, e2⟩ := shD_ok h'
  rw [e2] at h'
  exact h' v F' H' x (own_seq x.fh q e2)
def eVar (i : Nat) (env : Ev) : R D := match env[i]? with
  | some (some (.d x)) => .ok x
  | _ => .no
def eVarO (i : Nat) (env : Ev) : R Ow := match env[i]? with
  | some (some o) => .ok o
  | _ => .no
theorem eVar_ok {P : Hp → D → V → Hp → Hp → Prop} {F H : Hp} {σ : L2.St} {i : Nat} {env : Ev} {Q : VK} (h : Post X W P F H σ (eVar i env) Q) : ∃ d, env[i]? = some (some (.d d)) ∧ eVar i env = .ok d := by
  unfold eVar at h ⊢
  split at h
  · rename_i d he
    exact ⟨d, he, rfl⟩
  · exact h.elim
theorem eVarO_ok {γ : Type} {P : Hp → γ → V → Hp → Hp → Prop} {F H : Hp} {σ : L2.St} {i : Nat} {env : Ev} {Q : VK} {g : Ow → R γ} (h : Post X W P F H σ ((eVarO i env).bind g) Q) : ∃ d, env[i]? = some (some d) ∧ eVarO i env = .ok d ∧ Post X W P F H σ (g d) Q := by
  unfold eVarO at h ⊢
  cases e : env[i]? with
  | none => rw [e] at h; exact h.elim
  | some o =>
    cases o with
    | none => rw [e] at h; exact h.elim
    | some o => rw [e] at h; exact ⟨o, rfl, rfl, h⟩
theorem df_var (i : Nat) {x : Str} (hN : X.N[i]? = some x := by rfl) (hv : Vis X.env.scope x := by first | exact Or.inl rfl | exact Or.inr (Or.inl rfl) | exact Or.inr (Or.inr rfl)) (hd : (x == ("__debug__" : Str)) = false := by decide)
    (hcd : (x == ("__classdict__" : Str)) = false := by decide) : DF X W (.Name x pos) (eVar i) := by
  refine ⟨_, pe_var hN hv hd hcd, fun F H σ env fp Q sat h => ?_⟩
  obtain ⟨d, he, e2⟩ := eVar_ok h
  rw [e2] at h
  obtain ⟨v, fo, h1, h2, _⟩ := sat.en.get he
  cases h2 with
  | d q => exact ⟨v, h1, h v F H (.refl sat.fh) q⟩
def eC (d : D) (_ : Ev) : R D := .ok d
theorem df_int {i j} : DF X W (.Constant (.int i) j pos) (eC (.int i)) := ⟨_, pe_int, fun F H σ env fp Q sat h => h _ F H (.refl sat.fh) (.int i)⟩
theorem df_bl {i j} : DF X W (.Constant (.bool i) j pos) (eC (.bool i)) := ⟨_, pe_bl, fun F H σ env fp Q sat h => h _ F H (.refl sat.fh) (.bl i)⟩
theorem df_str {i j} : DF X W (.Constant (.str i) j pos) (eC (.str i)) := ⟨_, pe_str, fun F H σ env fp Q sat h => h _ F H (.refl sat.fh) (.str i)⟩
/-- a text constant of the module's top -/
theorem df_gstr {x : Str} {z : Str} {u : Value} (hg : Gl X x) (hm : X.mg x = some u) (r : RelV (.str z) u) (hd : (x == ("__debug__" : Str)) = false := by decide) : DF X W (.Name x pos) (eC (.str z)) :=
  ⟨_, pe_glob hg hm r hd, fun F H σ env fp Q sat h => h _ F H (.refl sat.fh) (.str z)⟩
def aNil (_ : Ev) : R (List D) := .ok []
def aCons (f : Ev → R D) (g : Ev → R (List D)) (env : Ev) : R (List D) := (f env).bind fun d => (g env).map fun ds => d :: ds
theorem da_nil : DA X W [] aNil := ⟨_, pa_nil, fun F H σ env fp Q sat h => h _ F H (.refl sat.fh) .nil⟩
theorem da_cons {f : Ev → R D} {g : Ev → R (List D)} (hf : DF X W e f) (hg : DA X W es g) (hs : starEach (e :: es) X.env = (false, eval e X.env) :: starEach es X.env := by rfl) : DA X W (e :: es) (aCons f g) := by
  obtain ⟨t, p, s⟩ := hf
  obtain ⟨t', p', s'⟩ := hg
  refine ⟨_, pa_cons p p' hs, fun F H σ env fp Q sat h => ?_⟩
  refine s.go sat h fun d v F1 H1 sat1 q _ h1 => ?_
  refine s'.go sat1 h1 fun ds vs F2 H2 sat2 q' x2 h2 => ?_
  exact h2 _ F2 H2 (.refl sat2.fh) (.cons (dpUp q x2.ff) q')
def eTup (f : Ev → R (List D)) (env : Ev) : R D := (f env).bind fun ds => guard (ds.length ≤ sizeLine) (.ok (.tuple ds))
def eLst (f : Ev → R (List D)) (env : Ev) : R Ow := (f env).bind fun ds => guard (ds.length ≤ sizeLine) (.ok (.l (ds.map Ow.d)))
theorem guard_post {P : Hp → α → β → Hp → Hp → Prop} {F H : Hp} {σ : L2.St} {c : Prop} {r : R α} {Q : β → Hp → Prop} (h : Post X W P F H σ (guard c r) Q) : c ∧ Post X W P F H σ r Q := by
  unfold guard at h
  split at h
  · exact ⟨‹_›, h⟩
  · exact h.elim
theorem df_tup {x1} {f : Ev → R (List D)} (hf : DA X W es f) : DF X W (.Tuple es x1 pos) (eTup f) := by
  obtain ⟨t, p, s⟩ := hf
  refine ⟨_, pe_tup p, fun F H σ env fp Q sat h => ?_⟩
  refine s.go sat h fun ds vs F1 H1 sat1 q _ h1 => ?_
  obtain ⟨hl, h2⟩ := guard_post h1
  refine ⟨by rw [DpAll.len q]; exact hl, fun p hp => ?_⟩
  have x := Ext.frz sat1.fh hp (.tup vs)
  exact h2 _ _ _ x (.tup (SqT.of upd_same) (dpaUp q x.ff))
theorem de_lst {f : Ev → R (List D)} (hf : DA X W es f) : DE X W (.List es pos) (eLst f) := by
  obtain ⟨t, p, s⟩ := hf
  refine ⟨_, pe_lst p, fun F H σ env fp Q sat h => ?_⟩
  refine s.go sat h fun ds vs F1 H1 sat1 q _ h1 => ?_
  obtain ⟨hl, h2⟩ := guard_post h1
  refine ⟨by rw [DpAll.len q]; exact hl, fun p hp => ?_⟩
  have x := Ext.own sat1.fh hp (.lst vs)
  exact h2 _ _ _ x ⟨[p], .l (free_of sat1.fh hp) upd_same (OwnAll.of_dp q), by simp, by simpa using hp⟩

def R.of {α : Type} : Option α → R α
  | some a => .ok a
  | none => .no
@[simp] theorem R.of_some (a : α) : R.of (some a) = .ok a := rfl
@[simp] theorem R.of_none : R.of (none : Option α) = .no := rfl
/-- data in, flat data out, the heap as it was -/
def OpS (K : Kw) (r : R2) (g : D → D → Option D) : Prop := ∀ H x y dx dy d Q, Dp K H x dx → Dp K H y dy → g dx dy = some d → (∀ v, (∀ F, Dp K F v d) → Q v H) → r x y H Q
def eBin (g : D → D → Option D) (f h : Ev → R D) (env : Ev) : R D := (f env).bind fun x => (h env).bind fun y => R.of (g x y)
theorem post_of {P : Hp → α → β → Hp → Hp → Prop} {F H : Hp} {σ : L2.St} {o : Option α} {Q : β → Hp → Prop} (h : Post X W P F H σ (R.of o) Q) : ∃ a, o = some a ∧ ∀ v F' H', Ext F H F' H' → P H a v F' H' → Q v H' := by
  cases o with
  | none => exact h.elim
  | some a => exact ⟨a, rfl, h⟩
theorem op_sm {r : R2} {g : D → D → Option D} (hs : OpS X.KK r g) {ta tb : TE} {f h : Ev → R D} (sa : Sm X W (PVw X.KK) ta f) (sb : Sm X W (PVw X.KK) tb h) : Sm X W (PFz X.KK) (tOp r ta tb) (eBin g f h) := by
  intro F H σ env fp Q sat hp
  refine sa.go sat hp fun d v F1 H1 sat1 q _ h1 => ?_
  refine sb.go sat1 h1 fun d' v' F2 H2 sat2 q' x2 h2 => ?_
  obtain ⟨z, hz, h3⟩ := post_of h2
  exact hs H2 v v' d d' z Q (dpUp q x2.hh) q' hz fun u hu => h3 u F2 H2 (.refl sat2.fh) (hu _)
theorem df_bin {op : Operator} {r : R2} {g : D → D → Option D} (ho : OpR X (binaryOp op) r) (hs : OpS X.KK r g) {f h : Ev → R D} (ha : DV X W a f) (hb : DV X W b h) : DF X W (.BinOp a op b pos) (eBin g f h) := by
  obtain ⟨ta, pa, sa⟩ := ha
  obtain ⟨tb, pb, sb⟩ := hb
  exact ⟨_, pe_op ho pa pb, op_sm hs sa sb⟩
theorem df_cmp {op : CmpOp} {r : R2} {g : D → D → Option D} (ho : OpR X (compareOp op) r) (hs : OpS X.KK r g) {f h : Ev → R D} (ha : DV X W a f) (hb : DV X W b h) (hm : behindInMarks op b = false := by first | exact nomark _ | rfl) :
    DF X W (.Compare a [op] [b] pos) (eBin g f h) := by
  obtain ⟨ta, pa, sa⟩ := ha
  obtain ⟨tb, pb, sb⟩ := hb
  exact ⟨_, pe_cmpR ho pa pb hm, op_sm hs sa sb⟩
def asB : D → R Bool
  | .bool b => .ok b
  | _ => .no
@[simp] theorem asB_bool (b : Bool) : asB (.bool b) = .ok b := rfl
theorem tb_sm {t : TE} {f : Ev → R D} (s : Sm X W (PVw X.KK) t f) : Sm X W PTb (fun σ H Q => t σ H fun x H' => ∃ k, x = .bl k ∧ Q k H') (eB f asB) := by
  intro F H σ env fp Q sat hp
  refine s.go sat hp fun d v F1 H1 sat1 q _ h1 => ?_
  cases d with
  | bool b =>
    cases q
    exact ⟨b, rfl, h1 b F1 H1 (.refl sat1.fh) rfl⟩
  | _ => exact h1.elim
theorem dt_cmp {op : CmpOp} {r : R2} {g : D → D → Option D} (ho : OpR X (compareOp op) r) (hs : OpS X.KK r g) {f h : Ev → R D} (ha : DV X W a f) (hb : DV X W b h) (hm : behindInMarks op b = false := by first | exact nomark _ | rfl) :
    DT X W (.Compare a [op] [b] pos) (eB (eBin g f h) asB) := by
  obtain ⟨ta, pa, sa⟩ := ha
  obtain ⟨tb, pb, sb⟩ := hb
  refine ⟨_, pt_cmpR ho pa pb hm, tb_sm ?_⟩
  intro F H σ env fp Q sat hp
  refine op_sm hs sa sb F H σ env fp Q sat ?_
  cases e : eBin g f h env with
  | no => rw [e] at hp; exact hp
  | ex c => rw [e] at hp; exact hp
  | ok d => rw [e] at hp; exact fun v F' H' x q => hp v F' H' x (dpUp q x.fh)
theorem dt_val {f : Ev → R D} (h : DV X W e f) (he : ∀ whole, isTrue e X.env whole = (do let v ← whole; standAt e.pos; holding [v] (truthy v)) := by intro _; rfl) : DT X W e (eB f asB) := by
  obtain ⟨t, p, s⟩ := h
  exact ⟨_, pt_val p he, tb_sm s⟩
def tNotE (f : Ev → R Bool) (env : Ev) : R Bool := (f env).map (!·)
theorem dt_not {f : Ev → R Bool} (h : DT X W a f) : DT X W (.UnaryOp .Not a pos) (tNotE f) := by
  obtain ⟨t, p, s⟩ := h
  refine ⟨_, pt_not p, fun F H σ env fp Q sat hp => ?_⟩
  refine s.go sat hp fun b v F1 H1 sat1 q _ h1 => ?_
  obtain rfl : v = b := q
  exact h1 _ F1 H1 (.refl sat1.fh) rfl
def tAndE (f g : Ev → R Bool) (env : Ev) : R Bool := (f env).bind fun b => if b = true then g env else .ok false
def tOrE (f g : Ev → R Bool) (env : Ev) : R Bool := (f env).bind fun b => if b = true then .ok true else g env
theorem dw_and1 {f : Ev → R Bool} (h : DT X W a f) : DW X W (.BoolOp .And [a] pos) f := by
  obtain ⟨t, p, s⟩ := h
  exact ⟨_, pw_and1 p, s⟩
theorem dw_or1 {f : Ev → R Bool} (h : DT X W a f) : DW X W (.BoolOp .Or [a] pos) f := by
  obtain ⟨t, p, s⟩ := h
  exact ⟨_, pw_or1 p, s⟩
theorem dw_and {rest : List Expr} {f g : Ev → R Bool} (h : DT X W a f) (h2 : DW X W (.BoolOp .And (b :: rest) pos) g) : DW X W (.BoolOp .And (a :: b :: rest) pos) (tAndE f g) := by
  obtain ⟨t, p, s⟩ := h
  obtain ⟨t', p', s'⟩ := h2
  refine ⟨_, pw_and p p', fun F H σ env fp Q sat hp => ?_⟩
  refine s.go sat hp fun b v F1 H1 sat1 q _ h1 => ?_
  obtain rfl : v = b := q
  cases v with
  | true => exact s' F1 H1 σ env fp Q sat1 h1
  | false => exact h1 false F1 H1 (.refl sat1.fh) rfl
theorem dw_or {rest : List Expr} {f g : Ev → R Bool} (h : DT X W a f) (h2 : DW X W (.BoolOp .Or (b :: rest) pos) g) : DW X W (.BoolOp .Or (a :: b :: rest) pos) (tOrE f g) := by
  obtain ⟨t, p, s⟩ := h
  obtain ⟨t', p', s'⟩ := h2
  refine ⟨_, pw_or p p', fun F H σ env fp Q sat hp => ?_⟩
  refine s.go sat hp fun b v F1 H1 sat1 q _ h1 => ?_
  obtain rfl : v = b := q
  cases v with
  | false => exact s' F1 H1 σ env fp Q sat1 h1
  | true => exact h1 true F1 H1 (.refl sat1.fh) rfl
theorem dt_dw {f : Ev → R Bool} (h : DW X W a f) : DT X W a f := by
  obtain ⟨t, p, s⟩ := h
  exact ⟨_, p.pt, s⟩
def eAnd (f g : Ev → R D) (env : Ev) : R D := ((f env).bind asB).bind fun b => if b = true then g env else .ok (.bool false)
def eOr (f g : Ev → R D) (env : Ev) : R D := ((f env).bind asB).bind fun b => if b = true then .ok (.bool true) else g env
def eNot (f : Ev → R D) (env : Ev) : R D := ((f env).bind asB).bind fun b => .ok (.bool !b)
theorem R.bind_assoc {α β γ : Type} (r : R α) (f : α → R β) (g : β → R γ) : (r.bind f).bind g = r.bind fun a => (f a).bind g := by cases r <;> rfl
theorem df_one {op} {f : Ev → R D} (h : DF X W a f) : DF X W (.BoolOp op [a] pos) f := by
  obtain ⟨t, p, s⟩ := h
  exact ⟨_, pe_one p, s⟩
theorem df_and {rest : List Expr} {f g : Ev → R D} (h : DV X W a f) (h2 : DF X W (.BoolOp .And (b :: rest) pos) g) : DF X W (.BoolOp .And (a :: b :: rest) pos) (eAnd f g) := by
  obtain ⟨t, p, s⟩ := h
  obtain ⟨t', p', s'⟩ := h2
  refine ⟨_, pe_and p p', fun F H σ env fp Q sat hp => ?_⟩
  unfold eAnd at hp
  rw [R.bind_assoc] at hp
  refine s.go sat hp fun d v F1 H1 sat1 q _ h1 => ?_
  cases d with
  | bool b =>
    cases q
    refine ⟨b, rfl, ?_⟩
    cases b with
    | true => exact s' F1 H1 σ env fp Q sat1 h1
    | false => exact h1 _ F1 H1 (.refl sat1.fh) (.bl false)
  | _ => exact h1.elim
def eIf (c : Ev → R Bool) (f g : Ev → R D) (env : Ev) : R D := (c env).bind fun b => if b = true then f env else g env
end
end Mir
end
set_option Elab.async false
set_option linter.all false
set_option maxRecDepth 100000
set_option maxHeartbeats 4000000
noncomputable section
namespace Mir
open PySem PySem.Spec L2

section
variable {K : Kw}
theorem dp_int {H : Hp} {v : V} {i : Int} (h : Dp K H v (.int i)) : v = .int i := by cases h; rfl
theorem dp_str {H : Hp} {v : V} {z : Str} (h : Dp K H v (.str z)) : v = .str z := by cases h; rfl
theorem dp_bool {H : Hp} {v : V} {z : Bool} (h : Dp K H v (.bool z)) : v = .bl z := by cases h; rfl
theorem dp_none {H : Hp} {v : V} (h : Dp K H v .none) : v = .non := by cases h; rfl
theorem dp_tup {H : Hp} {v : V} {ds : List D} (h : Dp K H v (.tuple ds)) : ∃ a vs, v = .ref a ∧ SqT K H a vs ∧ DpAll K H vs ds := by cases h with | tup a b => exact ⟨_, _, rfl, a, b⟩
theorem dp_lst {H : Hp} {v : V} {ds : List D} (h : Dp K H v (.list ds)) : ∃ a vs, v = .ref a ∧ SqL K H a vs ∧ DpAll K H vs ds := by cases h with | lst a b => exact ⟨_, _, rfl, a, b⟩

open Classical in
def gI (C : Int → Int → Prop) (f : Int → Int → Int) : D → D → Option D
  | .int i, .int j => if C i j then some (.int (f i j)) else none
  | _, _ => none
def gI0 (f : Int → Int → Int) : D → D → Option D
  | .int i, .int j => some (.int (f i j))
  | _, _ => none
def gIB (f : Int → Int → Bool) : D → D → Option D
  | .int i, .int j => some (.bool (f i j))
  | _, _ => none
theorem opS_I {C : Int → Int → Prop} {f : Int → Int → Int} : OpS K (rI C fun i j => .int (f i j)) (gI C f) := by
  intro H x y dx dy d Q hx hy e q
  unfold gI at e
  split at e
  · rename_i i j
    split at e
    · rename_i c
      cases e
      cases dp_int hx
      cases dp_int hy
      exact ⟨i, j, rfl, rfl, c, q _ fun _ => .int _⟩
    · cases e
  · cases e
theorem opS_I0 {f : Int → Int → Int} : OpS K (rI0 fun i j => .int (f i j)) (gI0 f) := by
  intro H x y dx dy d Q hx hy e q
  unfold gI0 at e
  split at e
  · cases e
    cases dp_int hx
    cases dp_int hy
    exact ⟨_, _, rfl, rfl, q _ fun _ => .int _⟩
  · cases e
theorem opS_IB {f : Int → Int → Bool} : OpS K (rI0 fun i j => .bl (f i j)) (gIB f) := by
  intro H x y dx dy d Q hx hy e q
  unfold gIB at e
  split at e
  · cases e
    cases dp_int hx
    cases dp_int hy
    exact ⟨_, _, rfl, rfl, q _ fun _ => .bl _⟩
  · cases e
def gSub := gI0 fun i j => i - j
def gMul := gI (fun i j => CMul i j ∨ CMulW i j) fun i j => i * j
def gDiv := gI CDivW fun i j => i / j
def gMod := gI (fun _ j => 0 < j) fun i j => i % j
def gPow := gI CPow fun i j => i ^ j.toNat
def gLt := gIB fun i j => decide (i < j)
def gLe := gIB fun i j => decide (i ≤ j)
def gGt := gIB fun i j => decide (j < i)
def gGe := gIB fun i j => decide (j ≤ i)
@[simp] theorem gSub_int (i j : Int) : gSub (.int i) (.int j) = some (.int (i - j)) := rfl
theorem gMul_by {i j : Int} (h1 : -(2 ^ 64) < j) (h2 : j < 2 ^ 64) : gMul (.int i) (.int j) = some (.int (i * j)) := if_pos (.inl (.inr ⟨h1, h2⟩))
theorem gDiv_int {i j : Int} (h : CDivW i j) : gDiv (.int i) (.int j) = some (.int (i / j)) := if_pos h
theorem gMod_int {i j : Int} (h : 0 < j) : gMod (.int i) (.int j) = some (.int (i % j)) := if_pos h
theorem gPow_int {i j : Int} (h : CPow i j) : gPow (.int i) (.int j) = some (.int (i ^ j.toNat)) := if_pos h
@[simp] theorem gLt_int (i j : Int) : gLt (.int i) (.int j) = some (.bool (decide (i < j))) := rfl
@[simp] theorem gLe_int (i j : Int) : gLe (.int i) (.int j) = some (.bool (decide (i ≤ j))) := rfl
@[simp] theorem gGt_int (i j : Int) : gGt (.int i) (.int j) = some (.bool (decide (j < i))) := rfl
@[simp] theorem gGe_int (i j : Int) : gGe (.int i) (.int j) = some (.bool (decide (j ≤ i))) := rfl
end

section
variable {X : Cx} {W : WX} {e a b : Expr} {es : List Expr} {pos : Pos} {f g : Ev → R D}
theorem df_sub (ha : DV X W a f) (hb : DV X W b g) : DF X W (.BinOp a .Sub b pos) (eBin gSub f g) := df_bin op_sub opS_I0 ha hb
theorem op_mulV : OpR X (binaryOp .Mult) (rI (fun i j => CMul i j ∨ CMulW i j) fun i j => .int (i * j)) := by
  intro pins s σ H x y v u Q I rx ry h
  obtain ⟨i, j, e1, e2, c, q⟩ := h
  rcases c with c | c
  · exact op_mul pins s σ H x y v u Q I rx ry ⟨i, j, e1, e2, c, q⟩
  · exact op_mulW pins s σ H x y v u Q I rx ry ⟨i, j, e1, e2, c, q⟩
theorem df_mul (ha : DV X W a f) (hb : DV X W b g) : DF X W (.BinOp a .Mult b pos) (eBin gMul f g) := df_bin op_mulV opS_I ha hb
theorem df_div (ha : DV X W a f) (hb : DV X W b g) : DF X W (.BinOp a .FloorDiv b pos) (eBin gDiv f g) := df_bin op_fdivW opS_I ha hb
theorem df_mod (ha : DV X W a f) (hb : DV X W b g) : DF X W (.BinOp a .Mod b pos) (eBin gMod f g) := df_bin op_mod opS_I ha hb
theorem df_pow (ha : DV X W a f) (hb : DV X W b g) : DF X W (.BinOp a .Pow b pos) (eBin gPow f g) := df_bin op_pow opS_I ha hb
theorem df_gt (ha : DV X W a f) (hb : DV X W b g) : DF X W (.Compare a [.Gt] [b] pos) (eBin gGt f g) := df_cmp op_gt opS_IB ha hb
theorem dt_lt (ha : DV X W a f) (hb : DV X W b g) : DT X W (.Compare a [.Lt] [b] pos) (eB (eBin gLt f g) asB) := dt_cmp op_lt opS_IB ha hb
theorem dt_gt (ha : DV X W a f) (hb : DV X W b g) : DT X W (.Compare a [.Gt] [b] pos) (eB (eBin gGt f g) asB) := dt_cmp op_gt opS_IB ha hb
def gNeg : D → R D
  | .int i => .ok (.int (-i))
  | _ => .no
theorem df_neg (ha : DV X W a f) : DF X W (.UnaryOp .USub a pos) (eB f gNeg) := by
  obtain ⟨t, p, s⟩ := ha
  refine ⟨_, pe_un un_neg p, fun F H σ env fp Q sat hp => ?_⟩
  refine s.go sat hp fun d v F1 H1 sat1 q _ h1 => ?_
  cases d with
  | int i => cases dp_int q; exact ⟨i, rfl, h1 _ F1 H1 (.refl sat1.fh) (.int _)⟩
  | _ => exact h1.elim

def scalD : D → Bool
  | .none => true
  | .bool _ => true
  | .int _ => true
  | .str _ => true
  | _ => false
/-- a bool beside an int is left to the deep rule -/
def scal2 : D → D → Bool
  | .bool _, .int _ => false
  | .int _, .bool _ => false
  | a, b => scalD a && scalD b
def eqOk (a b : D) : Bool := a.canLay0 && b.canLay0 && decide (a.depth ≤ 130)
def gEq (a b : D) : Option D := if (scal2 a b || eqOk a b) = true then some (.bool (PyData.eqv a b)) else none
def gNe (a b : D) : Option D := if (scal2 a b || eqOk a b) = true then some (.bool (!PyData.eqv a b)) else none
def rEqA (K : Kw) (neg : Bool) : R2 := fun x y H Q => ∃ d e, Dp K H x d ∧ Dp K H y e ∧ eqOk d e = true ∧ Q (.bl (if neg then !PyData.eqv d e else PyData.eqv d e)) H
theorem eqOk_cases {a b : D} (h : eqOk a b = true) : a.canLay0 = true ∧ b.canLay0 = true ∧ a.depth ≤ 130 := by
  unfold eqOk at h
  simp only [Bool.and_eq_true, decide_eq_true_eq] at h
  exact ⟨h.1.1, h.1.2, h.2⟩
theorem op_eqA (hu : X.A.units + 140 < cLine) : OpR X (compareOp .Eq) (rEqA X.KK false) := by
  intro pins s σ H x y v u Q I rx ry h
  obtain ⟨d, e, hd, he, sd, q⟩ := h
  obtain ⟨as, r1⟩ := L2.Dp.reads I d x v (Dp.kit _ _ hd (eqOk_cases sd).1) rx
  obtain ⟨bs, r2⟩ := L2.Dp.reads I e y u (Dp.kit _ _ he (eqOk_cases sd).2.1) ry
  obtain ⟨c1, c2, c3⟩ := eqOk_cases sd
  exact SeqAt.compareEq_reads r1 r2 c1 c2 (by have := Nat.min_le_left d.depth e.depth; omega) ⟨.bl _, H, I, rfl, q⟩
theorem op_neA (hu : X.A.units + 140 < cLine) : OpR X (compareOp .NotEq) (rEqA X.KK true) := by
  intro pins s σ H x y v u Q I rx ry h
  obtain ⟨d, e, hd, he, sd, q⟩ := h
  obtain ⟨as, r1⟩ := L2.Dp.reads I d x v (Dp.kit _ _ hd (eqOk_cases sd).1) rx
  obtain ⟨bs, r2⟩ := L2.Dp.reads I e y u (Dp.kit _ _ he (eqOk_cases sd).2.1) ry
  obtain ⟨c1, c2, c3⟩ := eqOk_cases sd
  exact SeqAt.compareNe_reads r1 r2 c1 c2 (by have := Nat.min_le_left d.depth e.depth; omega) ⟨.bl _, H, I, rfl, q⟩
theorem scal_dp {K : Kw} {H : Hp} {x y : V} {a b : D} (ha : Dp K H x a) (hb : Dp K H y b) (h : scal2 a b = true) : scal x y = true ∧ decide (x = y) = PyData.eqv a b := by
  cases a <;> cases b <;> first
    | (cases h; done)
    | (cases ha; cases hb; refine ⟨rfl, ?_⟩; simp [PyData.eqv]; try rfl)
    | (cases ha; cases hb; refine ⟨rfl, ?_⟩; simp [PyData.eqv, dec_int, dec_bl, dec_str])
theorem opS_eq {K : Kw} : OpS K (fun x y H Q => rEq x y H Q ∨ rEqA K false x y H Q) gEq := by
  intro H x y dx dy d Q hx hy e q
  unfold gEq at e
  split at e
  · rename_i c
    cases e
    cases c1 : scal2 dx dy with
    | true =>
      obtain ⟨h1, h2⟩ := scal_dp hx hy c1
      exact .inl ⟨h1, by rw [h2]; exact q _ fun _ => .bl _⟩
    | false =>
      rw [c1, Bool.false_or] at c
      exact .inr ⟨dx, dy, hx, hy, c, q _ fun _ => .bl _⟩
  · cases e
theorem opS_ne {K : Kw} : OpS K (fun x y H Q => rNe x y H Q ∨ rEqA K true x y H Q) gNe := by
  intro H x y dx dy d Q hx hy e q
  unfold gNe at e
  split at e
  · rename_i c
    cases e
    cases c1 : scal2 dx dy with
    | true =>
      obtain ⟨h1, h2⟩ := scal_dp hx hy c1
      exact .inl ⟨h1, by rw [h2]; exact q _ fun _ => .bl _⟩
    | false =>
      rw [c1, Bool.false_or] at c
      exact .inr ⟨dx, dy, hx, hy, c, q _ fun _ => .bl _⟩
  · cases e
theorem df_eq (hu : X.A.units + 140 < cLine) (ha : DV X W a f) (hb : DV X W b g) : DF X W (.Compare a [.Eq] [b] pos) (eBin gEq f g) := df_cmp (OpR.or op_eq (op_eqA hu)) opS_eq ha hb
theorem dt_eq (hu : X.A.units + 140 < cLine) (ha : DV X W a f) (hb : DV X W b g) : DT X W (.Compare a [.Eq] [b] pos) (eB (eBin gEq f g) asB) := dt_cmp (OpR.or op_eq (op_eqA hu)) opS_eq ha hb
theorem dt_ne (hu : X.A.units + 140 < cLine) (ha : DV X W a f) (hb : DV X W b g) : DT X W (.Compare a [.NotEq] [b] pos) (eB (eBin gNe f g) asB) := dt_cmp (OpR.or op_ne (op_neA hu)) opS_ne ha hb
def isNone : D → Bool
  | .none => true
  | _ => false
def gIsN : D → D → Option D
  | x, .none => some (.bool (isNone x))
  | _, _ => none
def gNotN : D → D → Option D
  | x, .none => some (.bool (!isNone x))
  | _, _ => none
@[simp] theorem gIsN_none (x : D) : gIsN x .none = some (.bool (isNone x)) := by cases x <;> rfl
@[simp] theorem gNotN_none (x : D) : gNotN x .none = some (.bool (!isNone x)) := by cases x <;> rfl
def gAdd : D → D → Option Ow
  | .int i, .int j => some (.d (.int (i + j)))
  | .str x, .str y => if x.length + y.length ≤ sizeLine then some (.d (.str (x ++ y))) else none
  | .tuple xs, .tuple ys => if xs.length + ys.length ≤ sizeLine then some (.d (.tuple (xs ++ ys))) else none
  | .list xs, .list ys => if xs.length + ys.length ≤ sizeLine then some (.l ((xs ++ ys).map Ow.d)) else none
  | _, _ => none
@[simp] theorem gAdd_int (i j : Int) : gAdd (.int i) (.int j) = some (.d (.int (i + j))) := rfl
theorem gAdd_str {x y : Str} (h : x.length + y.length ≤ sizeLine) : gAdd (.str x) (.str y) = some (.d (.str (x ++ y))) := if_pos h
def rCatL (K : Kw) : R2 := fun x y H Q => ∃ a b xs ys, x = .ref a ∧ y = .ref b ∧ SqL K H a xs ∧ SqL K H b ys ∧ xs.length + ys.length ≤ sizeLine ∧ ∀ p, H p = none → Q (.ref p) (upd H p (.lst (xs ++ ys)))
theorem op_catL : OpR X (binaryOp .Add) (rCatL X.KK) := by
  intro pins s σ H x y v u Q I rx ry h
  obtain ⟨l, b, xs, zs, rfl, rfl, hH, hB, hz, q⟩ := h
  cases rx
  cases ry
  obtain ⟨its, r, pl, hl⟩ := I.list hH
  obtain ⟨its2, r2, pl2, hl2⟩ := I.list hB
  obtain ⟨⟨c1, d1, t1, s1⟩, g1, k1, n1, m1⟩ := pl.isList
  obtain ⟨⟨c2, d2, t2, s2⟩, g2, k2, n2, m2⟩ := pl2.isList
  simp only at k1 m1 k2 m2
  subst k1 m1 k2 m2
  refine PySem.concat_meets ⟨_, g1, rfl⟩ ⟨_, g2, rfl⟩ PySem.noFill_list_add PySem.seq_list_add PySem.F.slot_list_add PySem.F.entry_list_add (PySem.F.args_list_add_2 _ _)
    (PyProof.Rows.list_addW l b its.toArray its2.toArray n1 n2 d1 d2 s1 s2 (by rw [List.size_toArray, List.size_toArray, ← r.length, ← r2.length]; exact hz)) ⟨g1, g2, ?_⟩
  have ea : its.toArray ++ its2.toArray = (its ++ its2).toArray := by simp
  rw [ea]
  exact ⟨.ref _, _, I.lnew (t' := s.toks) (r.append r2) (by rw [List.length_append]; omega), rfl, q _ I.fresh⟩
abbrev rAddAll (K : Kw) : R2 := fun x y H Q => rI0 (fun i j => .int (i + j)) x y H Q ∨ (fun x y H Q => (∃ i j, x = V.str i ∧ y = V.str j ∧ i.length + j.length ≤ sizeLine ∧ Q (.str (i ++ j)) H) ∨ (fun x y H Q => rCatA K x y H Q ∨ rCatL K x y H Q) x y H Q) x y H Q
theorem op_addAll : OpR X (binaryOp .Add) (rAddAll X.KK) := OpR.or op_add (OpR.or op_add_str (OpR.or op_catA op_catL))
def eBinO (g : D → D → Option Ow) (f h : Ev → R D) (env : Ev) : R Ow := (f env).bind fun x => (h env).bind fun y => R.of (g x y)
/-- two operands with frozen items, a new value -/
def OpG (K : Kw) (r : R2) (g : D → D → Option Ow) : Prop := ∀ F H x y dx dy o Q, Same F H → PSq K H dx x F H → PSq K H dy y F H → g dx dy = some o → (∀ v F' H', Ext F H F' H' → POw K H o v F' H' → Q v H') → r x y H Q
theorem opG_sm {r : R2} {g : D → D → Option Ow} (hs : OpG X.KK r g) {ta tb : TE} {f h : Ev → R D} (sa : Sm X W (PSq X.KK) ta f) (sb : Sm X W (PSq X.KK) tb h) : Sm X W (POw X.KK) (tOp r ta tb) (eBinO g f h) := by
  intro F H σ env fp Q sat hp
  refine sa.go sat hp fun d v F1 H1 sat1 q _ h1 => ?_
  refine sb.go sat1 h1 fun d' v' F2 H2 sat2 q' x2 h2 => ?_
  obtain ⟨z, hz, h3⟩ := post_of h2
  exact hs F2 H2 v v' d d' z Q sat2.fh (q.ext x2) q' hz h3
theorem de_bin {op : Operator} {r : R2} {g : D → D → Option Ow} (ho : OpR X (binaryOp op) r) (hs : OpG X.KK r g) {f h : Ev → R D} (ha : DL X W a f) (hb : DL X W b h) : DE X W (.BinOp a op b pos) (eBinO g f h) := by
  obtain ⟨ta, pa, sa⟩ := ha
  obtain ⟨tb, pb, sb⟩ := hb
  exact ⟨_, pe_op ho pa pb, opG_sm hs sa sb⟩
theorem own_d {K : Kw} {H0 F H : Hp} {v : V} {d : D} (h : Dp K F v d) : POw K H0 (.d d) v F H := ⟨[], .d h, List.nodup_nil, fun _ z => nomatch z⟩
theorem own_l {K : Kw} {F H : Hp} {p : Addr} {vs : List V} {ds : List D} (s : Same F H) (hp : H p = none) (h : DpAll K F vs ds) : POw K H (.l (ds.map Ow.d)) (.ref p) F (upd H p (.lst vs)) :=
  ⟨[p], .l (free_of s hp) upd_same (OwnAll.of_dp h), by simp, by simpa using hp⟩
theorem opG_add {K : Kw} : OpG K (rAddAll K) gAdd := by
  intro F H x y dx dy o Q s hx hy e q
  unfold gAdd at e
  split at e
  · cases e
    cases dp_int hx
    cases dp_int hy
    exact .inl ⟨_, _, rfl, rfl, q _ _ _ (.refl s) (own_d (.int _))⟩
  · split at e
    · cases e
      cases dp_str hx
      cases dp_str hy
      exact .inr (.inl ⟨_, _, rfl, rfl, ‹_›, q _ _ _ (.refl s) (own_d (.str _))⟩)
    · cases e
  · split at e
    · rename_i xs ys c
      cases e
      obtain ⟨a, vs, rfl, h1, h2⟩ := dp_tup hx
      obtain ⟨b, ws, rfl, g1, g2⟩ := dp_tup hy
      refine .inr (.inr (.inl ⟨a, b, vs, ws, rfl, rfl, SqT_mono s h1, SqT_mono s g1, by rw [DpAll.len h2, DpAll.len g2]; exact c, fun e0 => ?_, fun n0 e0 => ?_, fun n0 n1 p hp => ?_⟩))
      · have l := DpAll.len h2
        rw [e0] at l
        have z : xs = [] := List.length_eq_zero_iff.mp l.symm
        subst z
        exact q _ _ _ (.refl s) (own_d hy)
      · have l := DpAll.len g2
        rw [e0] at l
        have z : ys = [] := List.length_eq_zero_iff.mp l.symm
        subst z
        rw [List.append_nil] at q
        exact q _ _ _ (.refl s) (own_d hx)
      · have x := Ext.frz s hp (.tup (vs ++ ws))
        exact q _ _ _ x (own_d (.tup (SqT.of upd_same) (dpaUp (DpAll.append h2 g2) x.ff)))
    · cases e
  · split at e
    · rename_i xs ys c
      cases e
      obtain ⟨a, vs, rfl, h1, h2⟩ := hx
      obtain ⟨b, ws, rfl, g1, g2⟩ := hy
      refine .inr (.inr (.inr ⟨a, b, vs, ws, rfl, rfl, h1, g1, by rw [DpAll.len h2, DpAll.len g2]; exact c, fun p hp => ?_⟩))
      exact q _ _ _ (Ext.own s hp _) (own_l s hp (DpAll.append h2 g2))
    · cases e
  · cases e
theorem de_add (ha : DL X W a f) (hb : DL X W b g) : DE X W (.BinOp a .Add b pos) (eBinO gAdd f g) := de_bin op_addAll opG_add ha hb
end
end Mir
end
set_option Elab.async false
set_option linter.all false
set_option maxRecDepth 100000
set_option maxHeartbeats 4000000
noncomputable section
namespace Mir
open PySem PySem.Spec L2

section
variable {X : Cx} {W : WX} {e a b : Expr} {es : List Expr} {pos : Pos} {f g : Ev → R D}
theorem atI_dp {K : Kw} {F : Hp} {vs : List V} {ds : List D} {i : Int} {d : D} (h : DpAll K F vs ds) (e : atI ds i = some d) : ∃ v, atI vs i = some v ∧ Dp K F v d := by
  unfold atI at e ⊢
  rw [DpAll.len h]
  cases q : ixN ds.length i with
  | none => rw [q] at e; cases e
  | some j =>
    rw [q] at e
    exact DpAll.get h e
def gIx : D → D → Option D
  | .list ds, .int i => atI ds i
  | .tuple ds, .int i => atI ds i
  | .str z, .int i => if z.length ≤ sizeLine then (atI z.cps.toList i).map fun c => .str ⟨#[c]⟩ else none
  | _, _ => none
@[simp] theorem gIx_list (ds : List D) (i : Int) : gIx (.list ds) (.int i) = atI ds i := rfl
@[simp] theorem gIx_tup (ds : List D) (i : Int) : gIx (.tuple ds) (.int i) = atI ds i := rfl
theorem df_ix (ha : DL X W a f) (hb : DV X W b g) (hs : PlainIx b := by exact fun _ _ => rfl) : DF X W (.Subscript a b pos) (eBin gIx f g) := by
  obtain ⟨ta, pa, sa⟩ := ha
  obtain ⟨tb, pb, sb⟩ := hb
  refine ⟨_, pe_ix ix_seq pa pb hs, fun F H σ env fp Q sat hp => ?_⟩
  refine sa.go sat hp fun d v F1 H1 sat1 q _ h1 => ?_
  refine sb.go sat1 h1 fun d' v' F2 H2 sat2 q' x2 h2 => ?_
  obtain ⟨z, hz, h3⟩ := post_of h2
  unfold gIx at hz
  split at hz
  · rename_i ds i
    cases dp_int q'
    obtain ⟨p, vs, rfl, p1, p2⟩ := q
    obtain ⟨w, w1, w2⟩ := atI_dp p2 hz
    exact .inl ⟨p, vs, i, w, rfl, rfl, x2.hh.seq p1, w1, h3 _ _ _ (.refl sat2.fh) (dpUp w2 x2.ff)⟩
  · rename_i ds i
    cases dp_int q'
    obtain ⟨p, vs, rfl, p1, p2⟩ := dp_tup q
    obtain ⟨w, w1, w2⟩ := atI_dp p2 hz
    exact .inr (.inl ⟨p, vs, i, w, rfl, rfl, SqT_mono (x2.ff.trans sat2.fh) p1, w1, h3 _ _ _ (.refl sat2.fh) (dpUp w2 x2.ff)⟩)
  · split at hz
    · rename_i zz i c
      cases dp_int q'
      cases dp_str q
      obtain ⟨cc, c1, c2⟩ := Option.map_eq_some_iff.mp hz
      subst c2
      exact .inr (.inr ⟨_, _, cc, rfl, rfl, c, c1, h3 _ _ _ (.refl sat2.fh) (.str _)⟩)
    · cases hz
  · cases hz
/-- a slice's part -/
def DO (X : Cx) (W : WX) (e : Option Expr) (f : Ev → R (Option Int)) : Prop := ∃ t, PO X e t ∧ Sm X W (fun _ a v _ _ => v = a) t f
instance : Anti (fun (_ : Hp) (a v : Option Int) (_ _ : Hp) => v = a) := ⟨fun _ h => h⟩
def oNone (_ : Ev) : R (Option Int) := .ok none
def asI : D → R (Option Int)
  | .int i => .ok (some i)
  | _ => .no
@[simp] theorem asI_int (i : Int) : asI (.int i) = .ok (some i) := rfl
theorem do_none : DO X W none oNone := ⟨_, po_none, fun F H σ env fp Q sat hp => hp none F H (.refl sat.fh) rfl⟩
theorem do_some (h : DV X W e f) : DO X W (some e) (eB f asI) := by
  obtain ⟨t, p, s⟩ := h
  refine ⟨_, po_some p, fun F H σ env fp Q sat hp => ?_⟩
  refine s.go sat hp fun d v F1 H1 sat1 q _ h1 => ?_
  cases d with
  | int i => cases dp_int q; exact ⟨i, rfl, h1 _ F1 H1 (.refl sat1.fh) rfl⟩
  | _ => exact h1.elim
def cutL {α : Type} (xs : List α) (lo hi : Option Int) : List α := (xs.drop (HT.sIx xs.length 0 lo)).take (HT.sIx xs.length xs.length hi - HT.sIx xs.length 0 lo)
theorem cutL_dp {K : Kw} {F : Hp} {vs : List V} {ds : List D} {lo hi : Option Int} (h : DpAll K F vs ds) : DpAll K F (cutV vs lo hi) (cutL ds lo hi) := by
  unfold cutV cutL
  rw [DpAll.len h]
  exact DpAll.take _ (DpAll.drop _ h)
def gSl : D → Option Int → Option Int → Option Ow
  | .list ds, lo, hi => some (.l ((cutL ds lo hi).map Ow.d))
  | .tuple ds, lo, hi => some (.d (.tuple (cutL ds lo hi)))
  | .str z, lo, hi => if z.length ≤ sizeLine then some (.d (.str (cutS z lo hi))) else none
  | _, _, _ => none
@[simp] theorem gSl_list (ds : List D) (lo hi : Option Int) : gSl (.list ds) lo hi = some (.l ((cutL ds lo hi).map Ow.d)) := rfl
@[simp] theorem gSl_tup (ds : List D) (lo hi : Option Int) : gSl (.tuple ds) lo hi = some (.d (.tuple (cutL ds lo hi))) := rfl
def eSl (f : Ev → R D) (l h : Ev → R (Option Int)) (env : Ev) : R Ow := (f env).bind fun x => (l env).bind fun i => (h env).bind fun j => R.of (gSl x i j)
theorem de_slice {lo hi : Option Expr} {l h : Ev → R (Option Int)} {p2 : Pos} (ha : DL X W a f) (hl : DO X W lo l) (hh : DO X W hi h) : DE X W (.Subscript a (.Slice lo hi none p2) pos) (eSl f l h) := by
  obtain ⟨ta, pa, sa⟩ := ha
  obtain ⟨tl, pl, sl⟩ := hl
  obtain ⟨th, ph, sh⟩ := hh
  refine ⟨_, pe_slice (SlR.or sl_list (SlR.or sl_tupA sl_str)) pa pl ph, fun F H σ env fp Q sat hp => ?_⟩
  refine sa.go sat hp fun d v F1 H1 sat1 q _ h1 => ?_
  refine sl.go sat1 h1 fun i i' F2 H2 sat2 q' x2 h2 => ?_
  obtain rfl : i' = i := q'
  refine sh.go sat2 h2 fun j j' F3 H3 sat3 q' x3 h3 => ?_
  obtain rfl : j' = j := q'
  obtain ⟨z, hz, h4⟩ := post_of h3
  have x := x2.trans x3
  unfold gSl at hz
  split at hz
  · cases hz
    obtain ⟨p, vs, rfl, p1, p2⟩ := q
    refine .inl ⟨p, vs, rfl, x.hh.seq p1, fun r hr => ?_⟩
    exact h4 _ _ _ (Ext.own sat3.fh hr _) (own_l sat3.fh hr (cutL_dp (dpaUp p2 x.ff)))
  · cases hz
    obtain ⟨p, vs, rfl, p1, p2⟩ := dp_tup q
    have p3 := DpAll.len p2
    refine .inr (.inl ⟨p, vs, rfl, SqT_mono (x.ff.trans sat3.fh) p1, fun c => ?_, fun _ r hr => ?_⟩)
    · refine h4 _ _ _ (.refl sat3.fh) (own_d ?_)
      rename_i ds
      have e : cutL ds i' j' = ds := by
        unfold cutL
        rw [← p3, c.1, c.2, List.drop_zero, Nat.sub_zero, p3, List.take_length]
      rw [e]
      exact dpUp q x.ff
    · have y := Ext.frz sat3.fh hr (.tup (cutV vs i' j'))
      exact h4 _ _ _ y (own_d (.tup (SqT.of upd_same) (cutL_dp (dpaUp p2 (x.ff.trans y.ff)))))
  · split at hz
    · cases hz
      cases dp_str q
      exact .inr (.inr ⟨_, rfl, ‹_›, h4 _ _ _ (.refl sat3.fh) (own_d (.str _))⟩)
    · cases hz
  · cases hz

inductive PSqs (K : Kw) (F H : Hp) : List D → List V → Prop
  | nil : PSqs K F H [] []
  | cons {d : D} {ds : List D} {v : V} {vs : List V} : PSq K H d v F H → PSqs K F H ds vs → PSqs K F H (d :: ds) (v :: vs)
def PAl (K : Kw) (_ : Hp) (ds : List D) (vs : List V) (F' H' : Hp) : Prop := PSqs K F' H' ds vs
instance {K : Kw} : Anti (PAl K) := ⟨fun _ h => h⟩
def DAl (X : Cx) (W : WX) (es : List Expr) (f : Ev → R (List D)) : Prop := ∃ t, PA X es t ∧ Sm X W (PAl X.KK) t f
theorem dal_nil : DAl X W [] aNil := ⟨_, pa_nil, fun F H σ env fp Q sat h => h _ F H (.refl sat.fh) .nil⟩
theorem dal_cons {f : Ev → R D} {g : Ev → R (List D)} (hf : DL X W e f) (hg : DAl X W es g) (hs : starEach (e :: es) X.env = (false, eval e X.env) :: starEach es X.env := by rfl) : DAl X W (e :: es) (aCons f g) := by
  obtain ⟨t, p, s⟩ := hf
  obtain ⟨t', p', s'⟩ := hg
  refine ⟨_, pa_cons p p' hs, fun F H σ env fp Q sat h => ?_⟩
  refine s.go sat h fun d v F1 H1 sat1 q _ h1 => ?_
  refine s'.go sat1 h1 fun ds vs F2 H2 sat2 q' x2 h2 => ?_
  exact h2 _ F2 H2 (.refl sat2.fh) (.cons (q.ext x2) q')
def CaG (K : Kw) (r : List V → Hp → VK → Prop) (g : List D → Option Ow) : Prop := ∀ F H vs ds o Q, Same F H → PSqs K F H ds vs → g ds = some o → (∀ v F' H', Ext F H F' H' → POw K H o v F' H' → Q v H') → r vs H Q
def eCa (g : List D → Option Ow) (f : Ev → R (List D)) (env : Ev) : R Ow := (f env).bind fun ds => R.of (g ds)
theorem ca_sm {r : List V → Hp → VK → Prop} {g : List D → Option Ow} {t : TA} {f : Ev → R (List D)} (hs : CaG X.KK r g) (s : Sm X W (PAl X.KK) t f) : Sm X W (POw X.KK) (tCB r t) (eCa g f) := by
  intro F H σ env fp Q sat hp
  refine s.go sat hp fun ds vs F1 H1 sat1 q _ h1 => ?_
  obtain ⟨z, hz, h2⟩ := post_of h1
  exact hs F1 H1 vs ds z Q sat1.fh q hz h2
theorem de_callB {id : String} {r : List V → Hp → VK → Prop} {g : List D → Option Ow} {x : Str} {p : Pos} {f : Ev → R (List D)} (hc : CallR X (.builtin id) r) (hs : CaG X.KK r g) (hg : Gl X x) (hm : X.mg x = none) (hv : bootBuiltins x = some (.builtin id)) (ha : DAl X W (e :: es) f)
    (hn : x ≠ "__name__" := by decide) (hdb : (x == ("__debug__" : Str)) = false := by decide)
    (he : starEach (e :: es) X.env = (false, eval e X.env) :: starEach es X.env := by rfl) (hpl : (backTo pos (starEach es X.env)).any (·.1) = false := by rfl) : DE X W (.Call (.Name x p) (e :: es) [] pos) (eCa g f) := by
  obtain ⟨t, pa, s⟩ := ha
  exact ⟨_, pe_callB hc hg hm hv pa hn hdb he hpl, ca_sm hs s⟩
theorem de_callTy {T : String} {r : List V → Hp → VK → Prop} {g : List D → Option Ow} {x : Str} {p : Pos} {f : Ev → R (List D)} (hc : CallR X (.type T) r) (hs : CaG X.KK r g) (hg : Gl X x) (hm : X.mg x = none) (hv : bootBuiltins x = some (.type T)) (ha : DAl X W (e :: es) f)
    (hn : x ≠ "__name__" := by decide) (hdb : (x == ("__debug__" : Str)) = false := by decide)
    (he : starEach (e :: es) X.env = (false, eval e X.env) :: starEach es X.env := by rfl) (hpl : (backTo pos (starEach es X.env)).any (·.1) = false := by rfl) : DE X W (.Call (.Name x p) (e :: es) [] pos) (eCa g f) := by
  obtain ⟨t, pa, s⟩ := ha
  exact ⟨_, pe_callTy hc hg hm hv pa hn hdb he hpl, ca_sm hs s⟩
theorem psqs1 {K : Kw} {F H : Hp} {d : D} {vs : List V} (h : PSqs K F H [d] vs) : ∃ v, vs = [v] ∧ PSq K H d v F H := by
  cases h with | cons a b => cases b; exact ⟨_, rfl, a⟩
theorem psqs2 {K : Kw} {F H : Hp} {d d' : D} {vs : List V} (h : PSqs K F H [d, d'] vs) : ∃ v w, vs = [v, w] ∧ PSq K H d v F H ∧ PSq K H d' w F H := by
  cases h with | cons a b => cases b with | cons a' b' => cases b'; exact ⟨_, _, rfl, a, a'⟩
def gLen : List D → Option Ow
  | [.list ds] => some (.d (.int ds.length))
  | [.tuple ds] => some (.d (.int ds.length))
  | [.str z] => if z.length ≤ sizeLine then some (.d (.int z.length)) else none
  | _ => none
@[simp] theorem gLen_list (ds : List D) : gLen [.list ds] = some (.d (.int ds.length)) := rfl
@[simp] theorem gLen_tup (ds : List D) : gLen [.tuple ds] = some (.d (.int ds.length)) := rfl
theorem caG_len {K : Kw} : CaG K (fun xs H Q => ∃ x n, xs = [x] ∧ LenV K x H n ∧ Q (.int n) H) gLen := by
  intro F H vs ds o Q s h e q
  unfold gLen at e
  split at e
  · cases e
    obtain ⟨v, rfl, p, ws, rfl, p1, p2⟩ := psqs1 h
    exact ⟨_, _, rfl, .inl ⟨ws, p1, (DpAll.len p2).symm⟩, q _ _ _ (.refl s) (own_d (.int _))⟩
  · cases e
    obtain ⟨v, rfl, w⟩ := psqs1 h
    obtain ⟨p, ws, rfl, p1, p2⟩ := dp_tup w
    exact ⟨_, _, rfl, .inr ⟨ws, SqT_mono s p1, (DpAll.len p2).symm⟩, q _ _ _ (.refl s) (own_d (.int _))⟩
  · split at e
    · rename_i c
      cases e
      obtain ⟨v, rfl, w⟩ := psqs1 h
      cases dp_str w
      exact ⟨_, _, rfl, ⟨c, rfl⟩, q _ _ _ (.refl s) (own_d (.int _))⟩
    · cases e
  · cases e
def gMax2 : List D → Option Ow
  | [.int i, .int j] => some (.d (.int (if j > i then j else i)))
  | _ => none
def gMin2 : List D → Option Ow
  | [.int i, .int j] => some (.d (.int (if j < i then j else i)))
  | _ => none
@[simp] theorem gMax2_int (i j : Int) : gMax2 [.int i, .int j] = some (.d (.int (if j > i then j else i))) := rfl
@[simp] theorem gMin2_int (i j : Int) : gMin2 [.int i, .int j] = some (.d (.int (if j < i then j else i))) := rfl
theorem caG_min2 {K : Kw} : CaG K (fun xs H Q => ∃ i j, xs = [.int i, .int j] ∧ Q (.int (if j < i then j else i)) H) gMin2 := by
  intro F H vs ds o Q s h e q
  unfold gMin2 at e
  split at e
  · cases e
    obtain ⟨v, w, rfl, h1, h2⟩ := psqs2 h
    cases dp_int h1
    cases dp_int h2
    exact ⟨_, _, rfl, q _ _ _ (.refl s) (own_d (.int _))⟩
  · cases e
def intsD : List D → Option (List Int)
  | [] => some []
  | .int i :: ds => (intsD ds).map fun is => i :: is
  | _ :: _ => none
@[simp] theorem intsD_map : ∀ ns : List Int, intsD (ns.map PyData.int) = some ns
  | [] => rfl
  | n :: ns => by simp [intsD, intsD_map ns]
theorem intsD_eq : ∀ {ds : List D} {ns : List Int}, intsD ds = some ns → ds = ns.map PyData.int
  | [], ns, h => by cases h; rfl
  | d :: ds, ns, h => by
    unfold intsD at h
    split at h
    · rename_i e; cases e
    · rename_i e
      cases e
      obtain ⟨is, h1, h2⟩ := Option.map_eq_some_iff.mp h
      subst h2
      rw [intsD_eq h1]; rfl
    · cases h
theorem PSq.ints {K : Kw} {F H H0 : Hp} {v : V} {ns : List Int} (h : PSq K H0 (.list (ns.map PyData.int)) v F H) : ∃ a, v = .ref a ∧ SqL K H a (ns.map V.int) := by
  obtain ⟨a, vs, rfl, h1, h2⟩ := h
  rw [DpAll.ints _ h2] at h1
  exact ⟨a, rfl, h1⟩
def gSum : List D → Option Ow
  | [.list ds] => (intsD ds).map fun ns => .d (.int ns.sum)
  | _ => none
theorem caG_sum {K : Kw} : CaG K (rSum K) gSum := by
  intro F H vs ds o Q s h e q
  unfold gSum at e
  split at e
  · obtain ⟨ns, e2, rfl⟩ := Option.map_eq_some_iff.mp e
    rw [intsD_eq e2] at h
    obtain ⟨v, rfl, w⟩ := psqs1 h
    obtain ⟨a, rfl, h1⟩ := w.ints
    exact ⟨a, ns, rfl, h1, q _ _ _ (.refl s) (own_d (.int _))⟩
  · cases e
def gList : List D → Option Ow
  | [.list ds] => some (.l (ds.map Ow.d))
  | [.tuple ds] => some (.l (ds.map Ow.d))
  | _ => none
@[simp] theorem gList_list (ds : List D) : gList [.list ds] = some (.l (ds.map Ow.d)) := rfl
@[simp] theorem gList_tup (ds : List D) : gList [.tuple ds] = some (.l (ds.map Ow.d)) := rfl
theorem caG_list {K : Kw} : CaG K (fun xs H Q => ∃ p ys, xs = [.ref p] ∧ (SqL K H p ys ∨ SqT K H p ys) ∧ ∀ l, H l = none → Q (.ref l) (upd H l (.lst ys))) gList := by
  intro F H vs ds o Q s h e q
  unfold gList at e
  split at e
  · cases e
    obtain ⟨v, rfl, p, ws, rfl, p1, p2⟩ := psqs1 h
    exact ⟨p, ws, rfl, .inl p1, fun l hl => q _ _ _ (Ext.own s hl _) (own_l s hl p2)⟩
  · cases e
    obtain ⟨v, rfl, w⟩ := psqs1 h
    obtain ⟨p, ws, rfl, p1, p2⟩ := dp_tup w
    exact ⟨p, ws, rfl, .inr (SqT_mono s p1), fun l hl => q _ _ _ (Ext.own s hl _) (own_l s hl p2)⟩
  · cases e
def gTuple : List D → Option Ow
  | [.list ds] => some (.d (.tuple ds))
  | [.tuple ds] => some (.d (.tuple ds))
  | _ => none
@[simp] theorem gTuple_list (ds : List D) : gTuple [.list ds] = some (.d (.tuple ds)) := rfl
@[simp] theorem gTuple_tup (ds : List D) : gTuple [.tuple ds] = some (.d (.tuple ds)) := rfl
theorem caG_tuple {K : Kw} : CaG K (fun xs H Q => ∃ p ys, xs = [.ref p] ∧ ((SqL K H p ys ∧ ∀ l, H l = none → Q (.ref l) (upd H l (.tup ys))) ∨ (SqT K H p ys ∧ Q (.ref p) H))) gTuple := by
  intro F H vs ds o Q s h e q
  unfold gTuple at e
  split at e
  · cases e
    obtain ⟨v, rfl, p, ws, rfl, p1, p2⟩ := psqs1 h
    refine ⟨p, ws, rfl, .inl ⟨p1, fun l hl => ?_⟩⟩
    have y := Ext.frz s hl (.tup ws)
    exact q _ _ _ y (own_d (.tup (SqT.of upd_same) (dpaUp p2 y.ff)))
  · cases e
    obtain ⟨v, rfl, w⟩ := psqs1 h
    obtain ⟨p, ws, rfl, p1, p2⟩ := dp_tup w
    exact ⟨p, ws, rfl, .inr ⟨SqT_mono s p1, q _ _ _ (.refl s) (own_d (.tup p1 p2))⟩⟩
  · cases e
def gInt : List D → Option Ow
  | [.int i] => some (.d (.int i))
  | [.bool b] => some (.d (.int (if b then 1 else 0)))
  | [.str z] => if z.length ≤ 640 then (PySem.intText? z).map fun n => .d (.int n) else none
  | _ => none
@[simp] theorem gInt_int (i : Int) : gInt [.int i] = some (.d (.int i)) := rfl
@[simp] theorem gInt_bool (b : Bool) : gInt [.bool b] = some (.d (.int (if b then 1 else 0))) := rfl
theorem caG_int {K : Kw} : CaG K (fun xs H Q => ((∃ i, xs = [.int i] ∧ Q (.int i) H) ∨ ∃ k, xs = [.bl k] ∧ Q (.int (if k then 1 else 0)) H) ∨ ∃ a n, xs = [.str a] ∧ PySem.intText? a = some n ∧ a.length ≤ 640 ∧ Q (.int n) H) gInt := by
  intro F H vs ds o Q s h e q
  unfold gInt at e
  split at e
  · cases e
    obtain ⟨v, rfl, w⟩ := psqs1 h
    cases dp_int w
    exact .inl (.inl ⟨_, rfl, q _ _ _ (.refl s) (own_d (.int _))⟩)
  · cases e
    obtain ⟨v, rfl, w⟩ := psqs1 h
    cases dp_bool w
    exact .inl (.inr ⟨_, rfl, q _ _ _ (.refl s) (own_d (.int _))⟩)
  · split at e
    · obtain ⟨n, e2, rfl⟩ := Option.map_eq_some_iff.mp e
      obtain ⟨v, rfl, w⟩ := psqs1 h
      cases dp_str w
      exact .inr ⟨_, n, rfl, e2, ‹_›, q _ _ _ (.refl s) (own_d (.int _))⟩
    · cases e
  · cases e
theorem de_len {x : Expr} {p : Pos} {f : Ev → R (List D)} (hg : Gl X "len") (hm : X.mg "len" = none) (ha : DAl X W [x] f) (hpl : starEach [x] X.env = (false, eval x X.env) :: starEach [] X.env := by rfl) : DE X W (.Call (.Name "len" p) [x] [] pos) (eCa gLen f) :=
  de_callB call_len caG_len hg hm PySem.boot_len ha (he := hpl)
theorem de_min2 {x y : Expr} {p : Pos} {f : Ev → R (List D)} (hc : X.calm = true) (hg : Gl X "min") (hm : X.mg "min" = none) (ha : DAl X W [x, y] f) (he : starEach [x, y] X.env = (false, eval x X.env) :: starEach [y] X.env := by rfl) (hpl : (backTo pos (starEach [y] X.env)).any (·.1) = false := by rfl) : DE X W (.Call (.Name "min" p) [x, y] [] pos) (eCa gMin2 f) :=
  de_callB (call_min2 hc) caG_min2 hg hm (by decide +kernel) ha (he := he) (hpl := hpl)
theorem de_sum {x : Expr} {p : Pos} {f : Ev → R (List D)} (hc : X.calm = true) (hg : Gl X "sum") (hm : X.mg "sum" = none) (ha : DAl X W [x] f) (he : starEach [x] X.env = (false, eval x X.env) :: starEach [] X.env := by rfl) : DE X W (.Call (.Name "sum" p) [x] [] pos) (eCa gSum f) :=
  de_callB (cr_sum hc) caG_sum hg hm (by decide +kernel) ha (he := he)
theorem de_list {x : Expr} {p : Pos} {f : Ev → R (List D)} (hg : Gl X "list") (hm : X.mg "list" = none) (ha : DAl X W [x] f) (he : starEach [x] X.env = (false, eval x X.env) :: starEach [] X.env := by rfl) : DE X W (.Call (.Name "list" p) [x] [] pos) (eCa gList f) :=
  de_callTy call_list_of caG_list hg hm (by decide +kernel) ha (he := he)
theorem de_tuple {x : Expr} {p : Pos} {f : Ev → R (List D)} (hg : Gl X "tuple") (hm : X.mg "tuple" = none) (ha : DAl X W [x] f) (he : starEach [x] X.env = (false, eval x X.env) :: starEach [] X.env := by rfl) : DE X W (.Call (.Name "tuple" p) [x] [] pos) (eCa gTuple f) :=
  de_callTy call_tuple_of caG_tuple hg hm (by decide +kernel) ha (he := he)
theorem de_int {x : Expr} {p : Pos} {f : Ev → R (List D)} (hg : Gl X "int") (hm : X.mg "int" = none) (ha : DAl X W [x] f) (he : starEach [x] X.env = (false, eval x X.env) :: starEach [] X.env := by rfl) : DE X W (.Call (.Name "int" p) [x] [] pos) (eCa gInt f) :=
  de_callTy (CallR.or call_int1 call_int_str) caG_int hg hm (by decide +kernel) ha (he := he)
def dTy : D → String
  | .none => "NoneType"
  | .bool _ => "bool"
  | .int _ => "int"
  | .str _ => "str"
  | .list _ => "list"
  | .tuple _ => "tuple"
  | .dict _ => "dict"
theorem sqL_ty {K : Kw} {H : Hp} {a : Addr} {xs : List V} (h : SqL K H a xs) : TyX K H (.ref a) (.type "list") := by
  rcases h with (h | ⟨o, h⟩) | ⟨o, its, n, hk, hc, _⟩
  · exact .base (.lst h)
  · exact .base (.frz h)
  · exact .kList hk hc
theorem sqT_ty {K : Kw} {H : Hp} {a : Addr} {xs : List V} (h : SqT K H a xs) : TyX K H (.ref a) (.type "tuple") := by
  rcases h with (h | ⟨o, h⟩) | ⟨o, its, n, hk, hc, _⟩
  · exact .base (.tup h)
  · exact .fTuple h
  · exact .kTuple hk hc
def isDct : D → Bool
  | .dict _ => true
  | _ => false
theorem dp_ty {K : Kw} {H : Hp} {v : V} {d : D} (h : Dp K H v d) (nd : isDct d = false) : TyX K H v (.type (dTy d)) := by
  cases h with
  | non => exact .base .non
  | bl b => exact .base (.bl b)
  | int i => exact .base (.int i)
  | str i => exact .base (.str i)
  | lst a b => exact sqL_ty a
  | tup a b => exact sqT_ty a
  | _ => cases nd
def gIsi (T : String) (d : D) : R D := if isDct d = true then .no else match kitB (dTy d) T with
  | some b => .ok (.bool b)
  | none => .no
theorem df_isi {T : String} {y : Str} {p p2 : Pos} (ha : DV X W a f) (hg : Gl X "isinstance") (hm : X.mg "isinstance" = none) (gT : Gl X y) (mT : X.mg y = none) (bT : bootBuiltins y = some (.type T))
    (he : starEach [a, .Name y p2] X.env = (false, eval a X.env) :: starEach [.Name y p2] X.env := by rfl) (he2 : starEach [.Name y p2] X.env = (false, eval (.Name y p2) X.env) :: starEach [] X.env := by rfl) (hpl : (backTo pos (starEach [.Name y p2] X.env)).any (·.1) = false := by rfl)
    (hn : y ≠ "__name__" := by decide) (hd : (y == ("__debug__" : Str)) = false := by decide) : DF X W (.Call (.Name "isinstance" p) [a, .Name y p2] [] pos) (eB f (gIsi T)) := by
  obtain ⟨t, pa, s⟩ := ha
  refine ⟨_, pe_callB call_isi hg hm (by decide +kernel) (pa_cons pa (pa_cons (pe_bltn (v := .ty T) gT mT bT rfl hn hd) pa_nil he2) he) (he := he) (hpl := hpl), fun F H σ env fp Q sat hp => ?_⟩
  refine s.go sat hp fun d v F1 H1 sat1 q _ h1 => ?_
  unfold gIsi at h1
  cases nd : isDct d with
  | true => rw [nd] at h1; exact h1.elim
  | false =>
  rw [nd] at h1
  simp only [Bool.false_eq_true, if_false] at h1
  split at h1
  · rename_i b hb
    exact ⟨v, .ty T, _, _, b, rfl, .ty T, dp_ty q nd, hb, h1 _ F1 H1 (.refl sat1.fh) (.bl _)⟩
  · exact h1.elim
end
end Mir
end
set_option Elab.async false
set_option linter.all false
set_option maxRecDepth 100000
set_option maxHeartbeats 4000000
noncomputable section
namespace Mir
open PySem PySem.Spec L2

def ItP (t : Bool) (h : Heap) (it a : Addr) (i : Nat) : Prop := match t with
  | true => h.IsTupleIter it a i
  | false => h.IsListIter it a i
def CoP (t : Bool) (h : Heap) (a : Addr) (its : Array Value) : Prop := match t with
  | true => h.IsTuple a its
  | false => h.IsList a its
def Sqq (t : Bool) (K : PySem.W.Frag) (H : Hp) (a : Addr) (vs : List V) : Prop := match t with
  | true => SqT K H a vs
  | false => SqL K H a vs
theorem Sqq.mono {t : Bool} {K : PySem.W.Frag} {H H' : Hp} {a : Addr} {vs : List V} (s : Same H H') (h : Sqq t K H a vs) : Sqq t K H' a vs := by
  cases t with
  | true => exact SqT_mono s h
  | false => exact s.seq h
section
variable {X : Cx} {pins : List (Addr × Obj)} {σ : L2.St} {H : Hp} {s : Shared} {a : Addr} {xs ys : List V} {t : Bool}
theorem Sqq.at (I : Inv X pins σ H s) (h : Sqq t X.K H a xs) : ∃ its : List Value, Vals xs its ∧ CoP t s.heap a its.toArray := by
  cases t with
  | true =>
    obtain ⟨its, r, p, _⟩ := I.tuple h
    exact ⟨its, r, p⟩
  | false =>
    obtain ⟨its, r, p, _⟩ := I.list h
    exact ⟨its, r, p.isList⟩
theorem Sqq.inj (I : Inv X pins σ H s) (h : Sqq t X.K H a xs) (h' : Sqq t X.K H a ys) : xs = ys := by
  cases t with
  | true => exact I.tuple_inj h h'
  | false => exact I.list_inj h h'
end
theorem ItP.at {t : Bool} {h h' : Heap} {it a : Addr} {i : Nat} (p : ItP t h it a i) (k : ∀ o, h.get? it = some o → h'.get? it = some o) : ItP t h' it a i := by
  cases t with
  | true => obtain ⟨o, e, q⟩ := p; exact ⟨o, k o e, q⟩
  | false => obtain ⟨o, e, q⟩ := p; exact ⟨o, k o e, q⟩
end Mir
end
set_option Elab.async false
set_option linter.all false
set_option maxRecDepth 100000
set_option maxHeartbeats 4000000
noncomputable section
namespace Mir
open PySem PySem.Spec L2

end Mir
end
set_option Elab.async false
set_option linter.all false
set_option maxRecDepth 100000
set_option maxHeartbeats 4000000
noncomputable section
namespace Mir
open PySem PySem.Spec L2

structure WalkF (K : Kw) (J : It) (F0 : Hp) (items : List D) : Prop where
  go : ∀ i F H, i < items.length → Same F0 F → Same F H → J.go i H
  yld : ∀ i F H x H', i < items.length → Same F0 F → Same F H → J.yld i H x H' → ∃ d F', items[i]? = some d ∧ Ext F H F' H' ∧ Dp K F' x d
  stop : ∀ F H, Same F0 F → Same F H → J.stop items.length H
def PIt (K : Kw) (_ : Hp) (items : List D) (J : It) (F' _ : Hp) : Prop := WalkF K J F' items
instance {K : Kw} : Anti (PIt K) := ⟨fun _ h => h⟩
def DI (X : Cx) (W : WX) (tg e : Expr) (f : Ev → R (List D)) : Prop := ∃ wi, PI X tg e wi ∧ Sm X W (PIt X.KK) wi f
section
variable {K : Kw} {F0 : Hp} {a b : Addr} {vs ws : List V} {ds es : List D}
theorem walkF_l (h1 : SqL K F0 a vs) (h2 : DpAll K F0 vs ds) : WalkF K (Itl K a) F0 ds where
  go := fun i F H hi s1 s2 => by
    rw [← DpAll.len h2] at hi
    exact ⟨vs, vs[i], (s1.trans s2).seq h1, by simp [hi]⟩
  yld := fun i F H x H' hi s1 s2 ⟨e, q⟩ => by
    subst e
    obtain ⟨d, e1, e2⟩ := DpAll.getV h2 (q vs ((s1.trans s2).seq h1))
    exact ⟨d, F, e1, .refl s2, dpUp e2 s1⟩
  stop := fun F H s1 s2 => ⟨vs, (s1.trans s2).seq h1, by rw [DpAll.len h2]; exact Nat.le_refl _⟩
theorem walkF_t (h1 : SqT K F0 a vs) (h2 : DpAll K F0 vs ds) : WalkF K (Itt K a) F0 ds where
  go := fun i F H hi s1 s2 => by
    rw [← DpAll.len h2] at hi
    exact ⟨vs, vs[i], SqT_mono (s1.trans s2) h1, by simp [hi]⟩
  yld := fun i F H x H' hi s1 s2 ⟨e, q⟩ => by
    subst e
    obtain ⟨d, e1, e2⟩ := DpAll.getV h2 (q vs (SqT_mono (s1.trans s2) h1))
    exact ⟨d, F, e1, .refl s2, dpUp e2 s1⟩
  stop := fun F H s1 s2 => ⟨vs, SqT_mono (s1.trans s2) h1, by rw [DpAll.len h2]; exact Nat.le_refl _⟩
def charsD (z : Str) : List D := z.cps.toList.map fun c => .str ⟨#[c]⟩
theorem walkF_s (z : Str) : WalkF K (Its z) F0 (charsD z) where
  go := fun i F H hi s1 s2 => walk_str.goes i H (by simpa [charsD] using hi) trivial
  yld := fun i F H x H' hi s1 s2 h => by
    have hi' : i < z.cps.size := by simpa [charsD] using hi
    obtain ⟨e, c, e1, e2⟩ := walk_str.yields i H x H' hi' trivial h
    subst e e2
    exact ⟨_, F, by simp [charsD, e1], .refl s2, .str _⟩
  stop := fun F H s1 s2 => by
    have := (walk_str (z := z)).stops H trivial
    simpa [charsD] using this
def rangeD (lo : Int) (n : Nat) : List D := (List.range n).map fun i => .int (lo + (i : Nat))
theorem walkF_r (lo : Int) (n : Nat) : WalkF K (Itr lo n) F0 (rangeD lo n) where
  go := fun i F H hi s1 s2 => walk_range.goes i H (by simpa [rangeD] using hi) trivial
  yld := fun i F H x H' hi s1 s2 h => by
    have hi' : i < n := by simpa [rangeD] using hi
    obtain ⟨e, e1⟩ := walk_range.yields i H x H' hi' trivial h
    subst e e1
    exact ⟨_, F, by simp [rangeD, hi'], .refl s2, .int _⟩
  stop := fun F H s1 s2 => by
    have := (walk_range (lo := lo) (n := n)).stops H trivial
    simpa [rangeD] using this
def enumD : Nat → List D → List D
  | _, [] => []
  | n, d :: ds => .tuple [.int n, d] :: enumD (n + 1) ds
def zipD : List D → List D → List D
  | x :: xs, y :: ys => .tuple [x, y] :: zipD xs ys
  | _, _ => []
@[simp] theorem zipD_nil (ys : List D) : zipD [] ys = [] := by cases ys <;> rfl
@[simp] theorem zipD_nil2 (ys : List D) : zipD ys [] = [] := by cases ys <;> rfl
@[simp] theorem zipD_cons (x y : D) (xs ys : List D) : zipD (x :: xs) (y :: ys) = .tuple [x, y] :: zipD xs ys := rfl
end
section
variable {X : Cx} {W : WX} {tg e e2 : Expr} {es : List Expr} {pos p : Pos} {f g : Ev → R D}
theorem PI.or {wi wj : TI} (h : PI X tg e wi) (h' : PI X tg e wj) : PI X tg e (fun σ H R => wi σ H R ∨ wj σ H R) := ⟨fun pins s σ H R I q => by
  rcases q with q | q
  · exact h.run pins s σ H R I q
  · exact h'.run pins s σ H R I q⟩
def itD : D → R (List D)
  | .list ds => .ok ds
  | .tuple ds => .ok ds
  | .str z => .ok (charsD z)
  | _ => .no
@[simp] theorem itD_list (ds : List D) : itD (.list ds) = .ok ds := rfl
@[simp] theorem itD_tup (ds : List D) : itD (.tuple ds) = .ok ds := rfl
@[simp] theorem itD_str (z : Str) : itD (.str z) = .ok (charsD z) := rfl
/-- go on by what the first part is -/
theorem Sm.choose {α β γ δ : Type} {P : Hp → α → β → Hp → Hp → Prop} {P2 : Hp → γ → δ → Hp → Hp → Prop} [Anti P2] {t : L2.St → Hp → (β → Hp → Prop) → Prop} {f : Ev → R α} (s : Sm X W P t f) {g : α → R γ} {F H : Hp} {σ : L2.St} {env : Ev} {fp : List Addr} {Q : δ → Hp → Prop} {G : Prop}
    (sat : Sat X.KK F H σ env fp) (h : Post X W P2 F H σ ((f env).bind g) Q) (no : (∀ T, t σ H T) → G)
    (k : ∀ a, f env = .ok a → (∀ T, (∀ v F1 H1, Sat X.KK F1 H1 σ env fp → P H a v F1 H1 → Ext F H F1 H1 → Post X W P2 F1 H1 σ (g a) Q → T v H1) → t σ H T) → G) : G := by
  cases e : f env with
  | no => rw [e] at h; exact h.elim
  | ok a =>
    refine k a e fun T hT => s F H σ env fp T sat ?_
    rw [e] at h ⊢
    exact fun v F' H' x p => hT v F' H' (sat.ext x) p x (Post.ext (show Post X W P2 F H σ (g a) Q from h) x)
  | ex c =>
    refine no fun T => s F H σ env fp T sat ?_
    rw [e] at h ⊢
    exact h
theorem di_seq (h : DF X W e f) : DI X W tg e (eB f itD) := by
  obtain ⟨t, p, s⟩ := h
  refine ⟨_, PI.or (pi_list p) (PI.or (pi_tup p) (pi_str p)), fun F H σ env fp Q sat hp => ?_⟩
  refine s.choose sat hp (fun z => .inl (z _)) fun d e k => ?_
  cases d with
  | list ds =>
    refine .inl (k _ fun v F1 H1 sat1 q _ h1 => ?_)
    obtain ⟨a, vs, rfl, q1, q2⟩ := dp_lst q
    exact ⟨a, rfl, ⟨vs, sat1.fh.seq q1⟩, h1 _ F1 H1 (.refl sat1.fh) (walkF_l q1 q2)⟩
  | tuple ds =>
    refine .inr (.inl (k _ fun v F1 H1 sat1 q _ h1 => ?_))
    obtain ⟨a, vs, rfl, q1, q2⟩ := dp_tup q
    exact ⟨a, rfl, ⟨vs, SqT_mono sat1.fh q1⟩, h1 _ F1 H1 (.refl sat1.fh) (walkF_t q1 q2)⟩
  | str z =>
    refine .inr (.inr (k _ fun v F1 H1 sat1 q _ h1 => ?_))
    cases dp_str q
    exact ⟨z, rfl, h1 _ F1 H1 (.refl sat1.fh) (walkF_s z)⟩
  | _ =>
    refine .inl (k _ fun v F1 H1 sat1 q _ h1 => h1.elim)
def rg1 : List D → R (List D)
  | [.int j] => guard (-(2 ^ 62) ≤ j ∧ j < 2 ^ 62) (.ok (rangeD 0 j.toNat))
  | _ => .no
def rg2 : List D → R (List D)
  | [.int i, .int j] => guard (-(2 ^ 62) ≤ i ∧ i < 2 ^ 62 ∧ -(2 ^ 62) ≤ j ∧ j < 2 ^ 62) (.ok (rangeD i (j - i).toNat))
  | _ => .no
theorem daf1 {K : Kw} {F : Hp} {d : D} {vs : List V} (h : DpAll K F vs [d]) : ∃ v, vs = [v] ∧ Dp K F v d := by
  cases h with | cons a b => cases b; exact ⟨_, rfl, a⟩
theorem daf2 {K : Kw} {F : Hp} {d d' : D} {vs : List V} (h : DpAll K F vs [d, d']) : ∃ v w, vs = [v, w] ∧ Dp K F v d ∧ Dp K F w d' := by
  cases h with | cons a b => cases b with | cons a' b' => cases b'; exact ⟨_, _, rfl, a, a'⟩
variable {fa : Ev → R (List D)}
theorem di_range1 (hg : Gl X "range") (hm : X.mg "range" = none) (h : DA X W [e] fa) (hs : starEach [e] X.env = [(false, eval e X.env)] := by rfl) : DI X W tg (.Call (.Name "range" p) [e] [] pos) (eB fa rg1) := by
  obtain ⟨t, pa, s⟩ := h
  refine ⟨_, pi_range1 hg hm pa hs, fun F H σ env fp Q sat hp => ?_⟩
  refine s.go sat hp fun ds vs F1 H1 sat1 q _ h1 => ?_
  unfold rg1 at h1
  split at h1
  · obtain ⟨c, h2⟩ := guard_post h1
    obtain ⟨v, rfl, w⟩ := daf1 q
    cases dp_int w
    exact ⟨_, rfl, c.1, c.2, h2 _ F1 H1 (.refl sat1.fh) (walkF_r _ _)⟩
  · exact h1.elim
theorem di_range2 (hg : Gl X "range") (hm : X.mg "range" = none) (h : DA X W [e, e2] fa) (hs : starEach [e, e2] X.env = [(false, eval e X.env), (false, eval e2 X.env)] := by rfl) (hs2 : starEach [e2] X.env = [(false, eval e2 X.env)] := by rfl) : DI X W tg (.Call (.Name "range" p) [e, e2] [] pos) (eB fa rg2) := by
  obtain ⟨t, pa, s⟩ := h
  refine ⟨_, pi_range2 hg hm pa hs hs2, fun F H σ env fp Q sat hp => ?_⟩
  refine s.go sat hp fun ds vs F1 H1 sat1 q _ h1 => ?_
  unfold rg2 at h1
  split at h1
  · obtain ⟨c, h2⟩ := guard_post h1
    obtain ⟨v, w, rfl, w1, w2⟩ := daf2 q
    cases dp_int w1
    cases dp_int w2
    exact ⟨_, _, rfl, c, h2 _ F1 H1 (.refl sat1.fh) (walkF_r _ _)⟩
  · exact h1.elim
def sqqD : D → Option (Bool × List D)
  | .list ds => some (false, ds)
  | .tuple ds => some (true, ds)
  | _ => none
def enArg : List D → R (List D)
  | [d] => match sqqD d with
    | some (_, ds) => .ok (enumD 0 ds)
    | none => .no
  | _ => .no
@[simp] theorem enArg_list (ds : List D) : enArg [.list ds] = .ok (enumD 0 ds) := rfl
@[simp] theorem enArg_tup (ds : List D) : enArg [.tuple ds] = .ok (enumD 0 ds) := rfl
def zpArg : List D → R (List D)
  | [d, e] => match sqqD d, sqqD e with
    | some (_, ds), some (_, es) => .ok (zipD ds es)
    | _, _ => .no
  | _ => .no
end
end Mir
end
set_option Elab.async false
set_option linter.all false
set_option maxRecDepth 100000
set_option maxHeartbeats 4000000
noncomputable section
namespace Mir
open PySem PySem.Spec L2

section
variable {K : Kw} {F H : Hp} {σ : L2.St} {env : Ev} {fp : List Addr}
/-- store an own value; fx: the value's new footprint -/
theorem Sat.put (s : Sat K F H σ env fp) {i : Nat} (hi : i < env.length) {v : V} {o : Ow} {fx : List Addr} (h : OwnAt K F H v o fx) (nd : fx.Nodup) (dj : ∀ b ∈ fx, b ∉ fp) :
    ∃ fp', Sat K F H (σ.set i (some v)) (env.set i (some o)) fp' ∧ ∀ b ∈ fp', b ∈ fx ∨ b ∈ fp := by
  obtain ⟨fr, fo, a1, a2, a3, a4, a5, a6, a7⟩ := s.en.put hi s.nd
  obtain ⟨fp', b1, b2, b3⟩ := (a7 F H [] [] (StepS.of_ext (.refl s.fh) []) fun _ _ => by simp).2 v o fx h nd fun b hb z => dj b hb (a1 b z)
  exact ⟨fp', ⟨s.fh, b3, b1⟩, fun b hb => (b2 b hb).imp id (a1 b)⟩
end

def Off (ix : List Nat) (σ σ' : L2.St) : Prop := σ'.length = σ.length ∧ ∀ j, j ∉ ix → σ'[j]? = σ[j]?
theorem Off.refl (σ : L2.St) (ix : List Nat) : Off ix σ σ := ⟨rfl, fun _ _ => rfl⟩
theorem Off.trans {ix jx : List Nat} {σ σ1 σ2 : L2.St} (a : Off ix σ σ1) (b : Off jx σ1 σ2) : Off (ix ++ jx) σ σ2 :=
  ⟨b.1.trans a.1, fun j h => (b.2 j fun z => h (List.mem_append_right _ z)).trans (a.2 j fun z => h (List.mem_append_left _ z))⟩
/-- the reading of a target, by its mirror -/
def tgOf (K : Kw) (ix : List Nat) (g : D → Ev → Option Ev) : TG := fun v σ H Q => ∃ F env fp d env', Sat K F H σ env fp ∧ Dp K F v d ∧ g d env = some env' ∧ ∀ σ' fp', Sat K F H σ' env' fp' → (∀ b ∈ fp', b ∈ fp) → Off ix σ σ' → Q σ' H
def tgsOf (K : Kw) (ix : List Nat) (g : List D → Ev → Option Ev) : TGs := fun v σ H Q => ∃ F env fp d env', Sat K F H σ env fp ∧ DpAll K F v d ∧ g d env = some env' ∧ ∀ σ' fp', Sat K F H σ' env' fp' → (∀ b ∈ fp', b ∈ fp) → Off ix σ σ' → Q σ' H
def DG (X : Cx) (tg : Expr) (ix : List Nat) (g : D → Ev → Option Ev) : Prop := PG X tg (tgOf X.KK ix g)
def DGs (X : Cx) (tg : List Expr) (ix : List Nat) (g : List D → Ev → Option Ev) : Prop := PGs X tg (tgsOf X.KK ix g)
theorem PG.imp {X : Cx} {tg : Expr} {t t' : TG} (h : PG X tg t) (k : ∀ v σ H Q, t' v σ H Q → t v σ H Q) : PG X tg t' := ⟨fun pins s σ H v u Q I r q => h.run pins s σ H v u Q I r (k v σ H Q q)⟩
theorem PGs.imp {X : Cx} {tg : List Expr} {t t' : TGs} (h : PGs X tg t) (k : ∀ v σ H Q, t' v σ H Q → t v σ H Q) : PGs X tg t' := ⟨fun pins s σ H v u Q I r q => h.run pins s σ H v u Q I r (k v σ H Q q)⟩
def gtName (i : Nat) (d : D) (env : Ev) : Option Ev := if i < env.length then some (env.set i (some (.d d))) else none
def gtNil : List D → Ev → Option Ev
  | [], env => some env
  | _, _ => none
def gtCons (g : D → Ev → Option Ev) (h : List D → Ev → Option Ev) : List D → Ev → Option Ev
  | d :: ds, env => (g d env).bind (h ds)
  | _, _ => none
def gtTup (n : Nat) (h : List D → Ev → Option Ev) : D → Ev → Option Ev
  | .tuple ds, env => if ds.length = n then h ds env else none
  | _, _ => none
section
variable {X : Cx} {e : Expr} {es : List Expr} {pos : Pos}
theorem dg_name (i : Nat) {x : Str} (hN : X.N.Nodup) (hi : X.N[i]? = some x := by rfl) (hx : Loc X.env.scope x := by first | exact Or.inl rfl | exact Or.inr rfl) (hf : X.fn x = true ∨ X.env.scope.names.lookup x = some .local := by first | exact .inl rfl | exact .inr rfl | assumption) : DG X (.Name x pos) [i] (gtName i) := by
  refine PG.imp (pg_name hN hi hx hf) ?_
  rintro v σ H Q ⟨F, env, fp, d, env', sat, hd, he, q⟩
  unfold gtName at he
  split at he
  · cases he
    obtain ⟨fp', s', h'⟩ := sat.put ‹_› (OwnAt.d hd) List.nodup_nil (fun _ z => nomatch z)
    exact q _ fp' s' (fun b hb => (h' b hb).elim (fun z => nomatch z) id) ⟨by simp, fun j hj => List.getElem?_set_ne (fun z => hj (by simp [z]))⟩
  · cases he
theorem dgs_nil : DGs X [] [] gtNil := by
  refine PGs.imp pgs_nil ?_
  rintro v σ H Q ⟨F, env, fp, d, env', sat, hd, he, q⟩
  cases d with
  | nil => cases hd; cases he; exact ⟨rfl, q σ fp sat (fun _ z => z) (.refl _ _)⟩
  | cons d ds => cases he
theorem dgs_cons {ix jx : List Nat} {g : D → Ev → Option Ev} {h : List D → Ev → Option Ev} (h1 : DG X e ix g) (h2 : DGs X es jx h) (hs : (assignEach (e :: es) X.env).map (·.2) = assign e X.env :: (assignEach es X.env).map (·.2) := by rfl) : DGs X (e :: es) (ix ++ jx) (gtCons g h) := by
  refine PGs.imp (pgs_cons h1 h2 hs) ?_
  rintro v σ H Q ⟨F, env, fp, d, env', sat, hd, he, q⟩
  cases d with
  | nil => cases he
  | cons d ds =>
    cases hd with
    | cons d1 d2 =>
      cases e1 : g d env with
      | none => unfold gtCons at he; simp only at he; rw [e1] at he; cases he
      | some env1 =>
        unfold gtCons at he; simp only at he; rw [e1] at he
        refine ⟨_, _, rfl, F, env, fp, d, env1, sat, d1, e1, fun σ1 fp1 sat1 sub1 o1 => ?_⟩
        exact ⟨F, env1, fp1, ds, env', sat1, d2, he, fun σ2 fp2 sat2 sub2 o2 => q σ2 fp2 sat2 (fun b hb => sub1 b (sub2 b hb)) (o1.trans o2)⟩
theorem dg_tup {k n : Nat} {ix : List Nat} {h : List D → Ev → Option Ev} (hc : X.calm = true) (hs : DGs X es ix h) (hn : (assignEach es X.env).length = n := by rfl) (hst : (assignEach es X.env).findIdx? (·.1) = none := by rfl) : DG X (.Tuple es k pos) ix (gtTup n h) := by
  refine PG.imp (pg_tup hc hs hn hst) ?_
  rintro v σ H Q ⟨F, env, fp, d, env', sat, hd, he, q⟩
  unfold gtTup at he
  split at he
  · split at he
    · rename_i ds c
      obtain ⟨a, vs, rfl, h1, h2⟩ := dp_tup hd
      exact ⟨a, vs, rfl, SqT_mono sat.fh h1, (DpAll.len h2).trans c, F, env, fp, ds, env', sat, h2, he, q⟩
    · cases he
  · cases he
end

inductive SR where
  | no
  | nx (env : Ev)
  | rt (r : Ow) (env : Ev)
  | bk (env : Ev)
  | ct (env : Ev)
  | ex (c : Str) (env : Ev)
def SR.andThen : SR → (Ev → SR) → SR
  | .nx env, f => f env
  | r, _ => r
@[simp] theorem SR.andThen_nx (env : Ev) (f : Ev → SR) : (SR.nx env).andThen f = f env := rfl
@[simp] theorem SR.andThen_rt (r : Ow) (env : Ev) (f : Ev → SR) : (SR.rt r env).andThen f = .rt r env := rfl
@[simp] theorem SR.andThen_ex (c : Str) (env : Ev) (f : Ev → SR) : (SR.ex c env).andThen f = .ex c env := rfl
@[simp] theorem SR.andThen_bk (env : Ev) (f : Ev → SR) : (SR.bk env).andThen f = .bk env := rfl
@[simp] theorem SR.andThen_ct (env : Ev) (f : Ev → SR) : (SR.ct env).andThen f = .ct env := rfl
@[simp] theorem SR.andThen_no (f : Ev → SR) : SR.no.andThen f = .no := rfl
/-- a pure part, then a statement's outcome -/
def R.st {α : Type} (env : Ev) : R α → (α → SR) → SR
  | .no, _ => .no
  | .ok a, f => f a
  | .ex c, _ => .ex c env
@[simp] theorem R.st_ok {α : Type} (env : Ev) (a : α) (f : α → SR) : (R.ok a).st env f = f a := rfl
@[simp] theorem R.st_ex {α : Type} (env : Ev) (c : Str) (f : α → SR) : (R.ex c : R α).st env f = .ex c env := rfl
/-- S: the slots that may be stored -/
def OffS (S : Nat → Bool) (σ σ' : L2.St) : Prop := ∀ j, S j = false → σ'[j]? = σ[j]?
theorem OffS.refl (S : Nat → Bool) (σ : L2.St) : OffS S σ σ := fun _ _ => rfl
theorem OffS.trans {S : Nat → Bool} {σ σ1 σ2 : L2.St} (a : OffS S σ σ1) (b : OffS S σ1 σ2) : OffS S σ σ2 := fun j h => (b j h).trans (a j h)
theorem OffS.set {S : Nat → Bool} {σ : L2.St} {i : Nat} (h : S i = true) (x : Option V) : OffS S σ (σ.set i x) := fun j hj => List.getElem?_set_ne fun z => by rw [z, hj] at h; cases h
theorem OffS.of {S : Nat → Bool} {σ σ' : L2.St} {ix : List Nat} (h : Off ix σ σ') (k : ix.all S = true) : OffS S σ σ' := fun j hj => h.2 j fun z => by
  rw [List.all_eq_true] at k
  rw [k j z] at hj; cases hj
def PostS (X : Cx) (W : WX) (S : Nat → Bool) (σ0 : L2.St) (F H : Hp) (fp : List Addr) (D : Ends) : SR → Prop
  | .no => False
  | .nx env => ∀ σ F' H' fp', OffS S σ0 σ → StepS F H fp F' H' fp' → Sat X.KK F' H' σ env fp' → D.nx σ H'
  | .bk env => ∀ σ F' H' fp', OffS S σ0 σ → StepS F H fp F' H' fp' → Sat X.KK F' H' σ env fp' → D.bk σ H'
  | .ct env => ∀ σ F' H' fp', OffS S σ0 σ → StepS F H fp F' H' fp' → Sat X.KK F' H' σ env fp' → D.ct σ H'
  | .rt r env => ∀ v σ F' H' fx fp', OffS S σ0 σ → StepS F H fp F' H' (fx ++ fp') → Sat X.KK F' H' σ env fp' → OwnAt X.KK F' H' v r fx → (fx ++ fp').Nodup → D.rt v H'
  | .ex c env => ∀ C σ F' H' fp', X.mg c = some (.ref C) → OffS S σ0 σ → StepS F H fp F' H' fp' → Sat X.KK F' H' σ env fp' → W (.ref C) none σ H'
def SmS (X : Cx) (W : WX) (S : Nat → Bool) (t : TS) (f : Ev → SR) : Prop := ∀ F H σ env fp D, Sat X.KK F H σ env fp → PostS X W S σ F H fp D (f env) → t D σ H
def DS (X : Cx) (W : WX) (S : Nat → Bool) (st : Stmt) (f : Ev → SR) : Prop := ∃ t, PS X st t ∧ SmS X W S t f
def DSs (X : Cx) (W : WX) (S : Nat → Bool) (st : List Stmt) (f : Ev → SR) : Prop := ∃ t, PSs X st t ∧ SmS X W S t f
section
variable {X : Cx} {W : WX} {S : Nat → Bool} {σ0 σ1 : L2.St} {F H F1 H1 : Hp} {fp fp1 : List Addr} {D : Ends}
theorem PostS.step {r : SR} (h : PostS X W S σ0 F H fp D r) (o : OffS S σ0 σ1) (s : StepS F H fp F1 H1 fp1) : PostS X W S σ1 F1 H1 fp1 D r := by
  cases r with
  | no => exact h
  | nx env => exact fun σ F' H' fp' o' s' => h σ F' H' fp' (o.trans o') (s.trans s')
  | bk env => exact fun σ F' H' fp' o' s' => h σ F' H' fp' (o.trans o') (s.trans s')
  | ct env => exact fun σ F' H' fp' o' s' => h σ F' H' fp' (o.trans o') (s.trans s')
  | rt r env => exact fun v σ F' H' fx fp' o' s' => h v σ F' H' fx fp' (o.trans o') (s.trans s')
  | ex c env => exact fun C σ F' H' fp' m o' s' => h C σ F' H' fp' m (o.trans o') (s.trans s')
theorem PostS.ext {r : SR} (h : PostS X W S σ0 F H fp D r) (e : Ext F H F1 H1) : PostS X W S σ0 F1 H1 fp D r := h.step (.refl _ _) (StepS.of_ext e fp)
theorem PostS.sub {S' : Nat → Bool} {r : SR} (h : PostS X W S σ0 F H fp D r) (k : ∀ j, S j = false → S' j = false) : PostS X W S' σ0 F H fp D r := by
  have o : ∀ {σ : L2.St}, OffS S' σ0 σ → OffS S σ0 σ := fun o j hj => o j (k j hj)
  cases r with
  | no => exact h
  | nx env => exact fun σ F' H' fp' o' s' => h σ F' H' fp' (o o') s'
  | bk env => exact fun σ F' H' fp' o' s' => h σ F' H' fp' (o o') s'
  | ct env => exact fun σ F' H' fp' o' s' => h σ F' H' fp' (o o') s'
  | rt r env => exact fun v σ F' H' fx fp' o' s' => h v σ F' H' fx fp' (o o') s'
  | ex c env => exact fun C σ F' H' fp' m o' s' => h C σ F' H' fp' m (o o') s'
/-- a pure part within a statement -/
theorem Sm.st {α β : Type} {P : Hp → α → β → Hp → Hp → Prop} {t : L2.St → Hp → (β → Hp → Prop) → Prop} {f : Ev → R α} (s : Sm X W P t f) {g : α → SR} {σ : L2.St} {env : Ev} {T : β → Hp → Prop} (sat : Sat X.KK F H σ env fp)
    (h : PostS X W S σ F H fp D ((f env).st env g)) (k : ∀ a v F1 H1, Sat X.KK F1 H1 σ env fp → P H a v F1 H1 → Ext F H F1 H1 → PostS X W S σ F1 H1 fp D (g a) → T v H1) : t σ H T := by
  refine s F H σ env fp T sat ?_
  cases e : f env with
  | no => rw [e] at h; exact h
  | ok a =>
    rw [e] at h
    exact fun v F' H' x p => k a v F' H' (sat.ext x) p x (PostS.ext (show PostS X W S σ F H fp D (g a) from h) x)
  | ex c =>
    rw [e] at h
    exact fun C F' H' m x => h C σ F' H' fp m (.refl _ _) (StepS.of_ext x fp) (sat.ext x)
end
section
variable {X : Cx} {W : WX} {S : Nat → Bool} {st : Stmt} {sts : List Stmt} {e : Expr} {pos : Pos} {fs gs : Ev → SR}
def sSkip (env : Ev) : SR := .nx env
def sSeq (f g : Ev → SR) (env : Ev) : SR := (f env).andThen g
theorem dss_nil : DSs X W S [] sSkip := ⟨_, pss_nil, fun F H σ env fp D sat h => h σ F H fp (.refl _ _) (StepS.of_ext (.refl sat.fh) fp) sat⟩
theorem dss_one (h : DS X W S st fs) : DSs X W S [st] fs := by
  obtain ⟨t, p, s⟩ := h
  exact ⟨_, pss_one p, s⟩
theorem seq_sm {t u : TS} (s : SmS X W S t fs) (s' : SmS X W S u gs) : SmS X W S (tSeq t u) (sSeq fs gs) := by
  intro F H σ env fp D sat h
  refine s F H σ env fp _ sat ?_
  unfold sSeq at h
  cases e : fs env with
  | no => rw [e] at h; exact h
  | nx env1 =>
    rw [e] at h
    exact fun σ1 F1 H1 fp1 o1 st1 sat1 => s' F1 H1 σ1 env1 fp1 D sat1 (PostS.step (show PostS X W S σ F H fp D (gs env1) from h) o1 st1)
  | bk env1 => rw [e] at h; exact h
  | ct env1 => rw [e] at h; exact h
  | rt r env1 => rw [e] at h; exact h
  | ex c env1 => rw [e] at h; exact h
theorem dss_cons (h : DS X W S st fs) (h2 : DSs X W S sts gs) : DSs X W S (st :: sts) (sSeq fs gs) := by
  obtain ⟨t, p, s⟩ := h
  obtain ⟨t', p', s'⟩ := h2
  exact ⟨_, pss_cons p p', seq_sm s s'⟩
def sCont (env : Ev) : SR := .ct env
theorem ds_cont : DS X W S (.Continue pos) sCont := ⟨_, ps_continue, fun F H σ env fp D sat h => h σ F H fp (.refl _ _) (StepS.of_ext (.refl sat.fh) fp) sat⟩
/-- name = e -/
def sSet (i : Nat) (f : Ev → R Ow) (env : Ev) : SR := (f env).st env fun r => if i < env.length then .nx (env.set i (some r)) else .no
theorem fresh_dj {K : Kw} {H F' H' : Hp} {F : Hp} {σ : L2.St} {env : Ev} {fp fx : List Addr} (sat : Sat K F H σ env fp) (n : ∀ b ∈ fx, H b = none) : ∀ b ∈ fx, b ∉ fp := fun b hb z => by
  obtain ⟨_, vs, e⟩ := sat.en.there b z
  rw [n b hb] at e
  cases e
theorem put_step {K : Kw} {F H F1 H1 : Hp} {σ : L2.St} {env : Ev} {fp fx : List Addr} {i : Nat} {v : V} {r : Ow} (sat : Sat K F H σ env fp) (x : Ext F H F1 H1) (h : OwnAt K F1 H1 v r fx) (nd : fx.Nodup) (n : ∀ b ∈ fx, H b = none) (hi : i < env.length) :
    ∃ fp', StepS F H fp F1 H1 fp' ∧ Sat K F1 H1 (σ.set i (some v)) (env.set i (some r)) fp' := by
  obtain ⟨fp', s', h'⟩ := (sat.ext x).put hi h nd (fresh_dj (F' := F) (H' := H) sat n)
  exact ⟨fp', ⟨x.ff, fun b o e _ => x.hh b o e, fun b o e => (x.fn b o e).imp id .inr, fun b hb => (h' b hb).elim (fun z => .inr (n b z)) .inl⟩, s'⟩
theorem ds_set {f : Ev → R Ow} {x : Str} {pos' : Pos} (i : Nat) (hN : X.N.Nodup) (he : DE X W e f) (hi : X.N[i]? = some x := by rfl) (hx : Loc X.env.scope x := by first | exact Or.inl rfl | exact Or.inr rfl)
    (hs : swapsWith e (some (.Name x pos')) pos.line X.env = pure false := by rfl) (hf : X.fn x = true ∨ X.env.scope.names.lookup x = some .local := by first | exact .inl rfl | exact .inr rfl | assumption) (hS : S i = true := by rfl) : DS X W S (.Assign [.Name x pos'] e pos) (sSet i f) := by
  obtain ⟨t, p, s⟩ := he
  refine ⟨_, ps_set hN hi hx p hs hf, fun F H σ env fp D sat h => ?_⟩
  refine s F H σ env fp _ sat ?_
  unfold sSet at h
  cases e : f env with
  | no => rw [e] at h; exact h
  | ex c => rw [e] at h; exact fun C F' H' m x => h C σ F' H' fp m (.refl _ _) (StepS.of_ext x fp) (sat.ext x)
  | ok r =>
    rw [e] at h
    intro v F' H' x ⟨fx, q, nd, n⟩
    have h' : PostS X W S σ F H fp D (if i < env.length then .nx (env.set i (some r)) else .no) := h
    split at h'
    · obtain ⟨fp', s1, s2⟩ := put_step sat x q nd n ‹_›
      exact h' _ F' H' fp' (.set hS _) s1 s2
    · exact h'.elim
/-- targets = e, e frozen -/
def sAsg (g : D → Ev → Option Ev) (f : Ev → R D) (env : Ev) : SR := (f env).st env fun d => match g d env with
  | some env' => .nx env'
  | none => .no
/-- an expression whose value is dropped -/
def sDrop (f : Ev → R D) (env : Ev) : SR := (f env).st env fun _ => .nx env
theorem ds_expr {f : Ev → R D} (he : DF X W e f) (hs : swapsWith e none pos.line X.env = pure false := by rfl) : DS X W S (.Expr e pos) (sDrop f) := by
  obtain ⟨t, p, s⟩ := he
  refine ⟨_, ps_expr p hs, fun F H σ env fp D sat h => ?_⟩
  exact s.st sat h fun d v F1 H1 sat1 q _ h1 => h1 σ F1 H1 fp (.refl _ _) (StepS.of_ext (.refl sat1.fh) fp) sat1
def sRet (f : Ev → R Ow) (env : Ev) : SR := (f env).st env fun r => .rt r env
theorem ds_ret {f : Ev → R Ow} (he : DE X W e f) : DS X W S (.Return (some e) pos) (sRet f) := by
  obtain ⟨t, p, s⟩ := he
  refine ⟨_, ps_ret p, fun F H σ env fp D sat h => ?_⟩
  refine s F H σ env fp _ sat ?_
  unfold sRet at h
  cases e : f env with
  | no => rw [e] at h; exact h
  | ex c => rw [e] at h; exact fun C F' H' m x => h C σ F' H' fp m (.refl _ _) (StepS.of_ext x fp) (sat.ext x)
  | ok r =>
    rw [e] at h
    intro v F' H' x ⟨fx, q, nd, n⟩
    have dj := fresh_dj (F' := F) (H' := H) sat n
    refine h v σ F' H' fx fp (.refl _ _) ⟨x.ff, fun b o e _ => x.hh b o e, fun b o e => (x.fn b o e).imp id .inr, fun b hb => ?_⟩ (sat.ext x) q ?_
    · rcases List.mem_append.mp hb with z | z
      · exact .inr (n b z)
      · exact .inl z
    · rw [List.nodup_append]; exact ⟨nd, sat.nd, fun a ha b hb e => dj a ha (e ▸ hb)⟩
def sRetN (env : Ev) : SR := .rt (.d .none) env
/-- return x, x given away -/
def sRetV (i : Nat) (env : Ev) : SR := match env[i]? with
  | some (some o) => .rt o (env.set i none)
  | _ => .no
theorem ds_retV (i : Nat) {x : Str} {pos' : Pos} (hN : X.N[i]? = some x := by rfl) (hv : Vis X.env.scope x := by first | exact Or.inl rfl | exact Or.inr (Or.inl rfl) | exact Or.inr (Or.inr rfl)) (hd : (x == ("__debug__" : Str)) = false := by decide)
    (hcd : (x == ("__classdict__" : Str)) = false := by decide) : DS X W S (.Return (some (.Name x pos')) pos) (sRetV i) := by
  refine ⟨_, ps_ret (pe_var hN hv hd hcd), fun F H σ env fp D sat h => ?_⟩
  unfold sRetV at h
  split at h
  · rename_i o he
    have hi : i < env.length := (List.getElem?_eq_some_iff.mp he).1
    obtain ⟨fr, fo, a1, a2, a3, a3', a4, a5, a6⟩ := sat.en.put hi sat.nd
    obtain ⟨v, e1, e2⟩ := a5 o he
    have e3 := (a6 F H [] [] (StepS.of_ext (.refl sat.fh) []) fun _ _ => by simp).1 (some v)
    have es : σ.set i (some v) = σ := by
      refine List.ext_getElem? fun j => ?_
      by_cases hj : i = j
      · subst hj
        rw [List.getElem?_set_self (List.getElem?_eq_some_iff.mp e1).1]
        exact e1.symm
      · rw [List.getElem?_set_ne hj]
    rw [es] at e3
    refine ⟨v, e1, h v _ F H fo fr (.refl _ _) ((StepS.of_ext (.refl sat.fh) fp).subset fun b hb => ?_) ⟨sat.fh, e3, a3⟩ e2 ?_⟩
    · exact (List.mem_append.mp hb).elim (a2 b) (a1 b)
    · rw [List.nodup_append]; exact ⟨a3', a3, fun a ha b hb e => a4 a ha (e ▸ hb)⟩
  · exact h.elim
def sIf (c : Ev → R Bool) (f g : Ev → SR) (env : Ev) : SR := (c env).st env fun b => if b = true then f env else g env
theorem ds_if {c : Expr} {a b : List Stmt} {fc : Ev → R Bool} (hc : DT X W c fc) (ha : DSs X W S a fs) (hb : DSs X W S b gs) : DS X W S (.If c a b pos) (sIf fc fs gs) := by
  obtain ⟨t, p, s⟩ := hc
  obtain ⟨ta, pa, sa⟩ := ha
  obtain ⟨tb, pb, sb⟩ := hb
  refine ⟨_, ps_if p pa pb, fun F H σ env fp D sat h => ?_⟩
  refine s.st sat h fun k v F1 H1 sat1 q _ h1 => ?_
  obtain rfl : v = k := q
  cases v with
  | true => exact sa F1 H1 σ env fp D sat1 h1
  | false => exact sb F1 H1 σ env fp D sat1 h1
/-- for target in ..: body -/
def forL (g : D → Ev → Option Ev) (f : Ev → SR) : List D → Ev → SR
  | [], env => .nx env
  | d :: ds, env => match g d env with
    | none => .no
    | some env1 => match f env1 with
      | .nx env2 => forL g f ds env2
      | .ct env2 => forL g f ds env2
      | .bk env2 => .nx env2
      | .rt r env2 => .rt r env2
      | .ex c env2 => .ex c env2
      | .no => .no
def sFor (it : Ev → R (List D)) (g : D → Ev → Option Ev) (f : Ev → SR) (env : Ev) : SR := (it env).st env fun ds => forL g f ds env
theorem ds_for {tg iter : Expr} {body : List Stmt} {fi : Ev → R (List D)} {g : D → Ev → Option Ev} (hp : PassesOwn (model X.prog X.w) X.A X.env X.xe) (hc : X.calm = true) {ix : List Nat} (hi : DI X W tg iter fi) (hg : DG X tg ix g) (hb : DSs X W S body fs)
    (hs : ∀ x, foldedSetIterable iter X.env x = pure x := by intro _; rfl) (hS : ix.all S = true := by rfl) : DS X W S (.For tg iter body [] pos) (sFor fi g fs) := by
  obtain ⟨wi, pi, si⟩ := hi
  obtain ⟨tb, pb, sb⟩ := hb
  refine ⟨_, ps_for hp hc pi hg pb hs, fun F H σ env fp D sat h => ?_⟩
  refine si.st sat h fun items J F1 H1 sat1 wk _ h1 => ?_
  have wk : WalkF X.KK J F1 items := wk
  refine ⟨fun i m σ' H' => m = items.length - i ∧ i ≤ items.length ∧ ∃ F' env' fp', Same F1 F' ∧ Sat X.KK F' H' σ' env' fp' ∧ PostS X W S σ' F' H' fp' D (forL g fs (items.drop i) env'),
    ⟨items.length, by simp, Nat.zero_le _, F1, env, fp, Same.refl _, sat1, h1⟩, ?_⟩
  rintro i m σ' H' ⟨rfl, hi, F', env', fp', st, sat', h2⟩
  by_cases hlt : i < items.length
  · refine .inr ⟨wk.go i F' H' hlt st sat'.fh, fun σ2 H2 => ∃ F2 env2 fp2, Same F1 F2 ∧ Sat X.KK F2 H2 σ2 env2 fp2 ∧ PostS X W S σ2 F2 H2 fp2 D (forL g fs (items.drop (i + 1)) env2), ?_, ?_⟩
    · rintro σ2 H2 ⟨F2, env2, fp2, a, b, c⟩
      exact ⟨items.length - (i + 1), by omega, rfl, hlt, F2, env2, fp2, a, b, c⟩
    · intro x H3 y
      obtain ⟨d, F3, e1, x3, dp⟩ := wk.yld i F' H' x H3 hlt st sat'.fh y
      have ed : items.drop i = d :: items.drop (i + 1) := by
        rw [List.drop_eq_getElem_cons hlt]
        have : items[i] = d := by rw [List.getElem?_eq_getElem hlt] at e1; exact Option.some.inj e1
        rw [this]
      rw [ed] at h2
      unfold forL at h2
      cases eg : g d env' with
      | none => rw [eg] at h2; exact h2.elim
      | some env1 =>
        rw [eg] at h2
        simp only at h2
        refine ⟨F3, env', fp', d, env1, sat'.ext x3, dp, eg, fun σ4 fp4 sat4 sub4 off4 => ?_⟩
        have st4 : StepS F' H' fp' F3 H3 fp4 := (StepS.of_ext x3 fp').subset sub4
        have h4 := PostS.step h2 (.of off4 hS) st4
        refine sb F3 H3 σ4 env1 fp4 _ sat4 ?_
        cases ef : fs env1 with
        | no => rw [ef] at h4; exact h4
        | nx env2 => rw [ef] at h4; exact fun σ5 F5 H5 fp5 o5 s5 sat5 => ⟨F5, env2, fp5, st.trans (x3.ff.trans s5.ff), sat5, PostS.step h4 o5 s5⟩
        | ct env2 => rw [ef] at h4; exact fun σ5 F5 H5 fp5 o5 s5 sat5 => ⟨F5, env2, fp5, st.trans (x3.ff.trans s5.ff), sat5, PostS.step h4 o5 s5⟩
        | bk env2 => rw [ef] at h4; exact h4
        | rt r env2 => rw [ef] at h4; exact h4
        | ex c env2 => rw [ef] at h4; exact h4
  · have e : i = items.length := by omega
    subst e
    rw [List.drop_length] at h2
    exact .inl ⟨wk.stop F' H' st sat'.fh, h2 σ' F' H' fp' (.refl _ _) (StepS.of_ext (.refl sat'.fh) fp') sat'⟩
/-- while c: body, at most n turns -/
def whileN (c : Ev → R Bool) (f : Ev → SR) : Nat → Ev → SR
  | 0, _ => .no
  | n + 1, env => (c env).st env fun b => if b = true then (match f env with
      | .nx env2 => whileN c f n env2
      | .ct env2 => whileN c f n env2
      | .bk env2 => .nx env2
      | .rt r env2 => .rt r env2
      | .ex c env2 => .ex c env2
      | .no => .no) else .nx env
theorem ds_while {c : Expr} {body : List Stmt} {fc : Ev → R Bool} (n : Nat) (hp : PassesOwn (model X.prog X.w) X.A X.env X.xe) (hc : DT X W c fc) (hb : DSs X W S body fs) : DS X W S (.While c body [] pos) (whileN fc fs n) := by
  obtain ⟨tc, pc, sc⟩ := hc
  obtain ⟨tb, pb, sb⟩ := hb
  refine ⟨_, ps_while hp pc pb, fun F H σ env fp D sat h => ?_⟩
  refine ⟨fun m σ' H' => ∃ F' env' fp', Sat X.KK F' H' σ' env' fp' ∧ PostS X W S σ' F' H' fp' D (whileN fc fs m env'), ⟨n, F, env, fp, sat, h⟩, ?_⟩
  rintro m σ' H' ⟨F', env', fp', sat', h2⟩
  cases m with
  | zero => exact h2.elim
  | succ m =>
    unfold whileN at h2
    refine sc.st sat' h2 fun k v F1 H1 sat1 q x1 h3 => ?_
    obtain rfl : v = k := q
    cases v with
    | false => exact h3 σ' F1 H1 fp' (.refl _ _) (StepS.of_ext (.refl sat1.fh) fp') sat1
    | true =>
      rw [if_pos rfl] at h3 ⊢
      refine ⟨fun σ5 H5 => ∃ F5 env2 fp5, Sat X.KK F5 H5 σ5 env2 fp5 ∧ PostS X W S σ5 F5 H5 fp5 D (whileN fc fs m env2), fun σ5 H5 z => ⟨m, Nat.lt_succ_self m, z⟩, ?_⟩
      refine sb F1 H1 σ' env' fp' _ sat1 ?_
      cases ef : fs env' with
      | no => rw [ef] at h3; exact h3
      | nx env2 => rw [ef] at h3; exact fun σ5 F5 H5 fp5 o5 s5 sat5 => ⟨F5, env2, fp5, sat5, PostS.step h3 o5 s5⟩
      | ct env2 => rw [ef] at h3; exact fun σ5 F5 H5 fp5 o5 s5 sat5 => ⟨F5, env2, fp5, sat5, PostS.step h3 o5 s5⟩
      | bk env2 => rw [ef] at h3; exact h3
      | rt r env2 => rw [ef] at h3; exact h3
      | ex c env2 => rw [ef] at h3; exact h3
end
end Mir
end
set_option Elab.async false
set_option linter.all false
set_option maxRecDepth 100000
set_option maxHeartbeats 4000000
noncomputable section
namespace Mir
open PySem PySem.Spec L2

def PostF (K : Kw) (mg : Str → Option Value) (F H : Hp) : R Ow → VK → XK → Prop
  | .no, _, _ => False
  | .ok r, Q, _ => ∀ v F' H', Ext F H F' H' → POw K H r v F' H' → Q v H'
  | .ex c, _, E => ∀ C F' H', mg c = some (.ref C) → Ext F H F' H' → E (.ref C) none H'
def spM (K : Kw) (mg : Str → Option Value) (n : Nat) (m : List D → R Ow) : Sp := fun vs H Q E => ∃ F ds, Same F H ∧ DpAll K F vs ds ∧ ds.length = n ∧ PostF K mg F H (m ds) Q E
theorem spM_len {K : Kw} {mg : Str → Option Value} {n : Nat} {m : List D → R Ow} {vs : List V} {H : Hp} {Q : VK} {E : XK} (h : spM K mg n m vs H Q E) : vs.length = n := by
  obtain ⟨F, ds, _, h1, h2, _⟩ := h
  rw [DpAll.len h1, h2]
def envOf (k : Nat) (ds : List D) : Ev := ds.map (fun d => some (Ow.d d)) ++ List.replicate k none
def runB (k : Nat) (f : Ev → SR) (ds : List D) : R Ow := match f (envOf k ds) with
  | .nx _ => .ok (.d .none)
  | .rt r _ => .ok r
  | .ex c _ => .ex c
  | _ => .no
theorem env_start {K : Kw} {F H : Hp} (k : Nat) : ∀ {vs : List V} {ds : List D}, DpAll K F vs ds → EnvAt K F H (vs.map some ++ List.replicate k none) (envOf k ds) []
  | vs, [], h => by
    cases h
    show EnvAt K F H (List.replicate k none) (List.replicate k none) []
    induction k with
    | zero => exact .nil
    | succ k ih => exact .non ih
  | vs, d :: ds, h => by
    cases h with
    | cons h1 h2 => exact .som (fp := []) (.d h1) (env_start k h2)
section
variable {P : Program} {w : World} {K : PySem.W.Frag} {mg : Str → Option Value} {base : Heap}
theorem mk_fn {x qual : Str} {st : Stmt} {f : Addr} {fd : FuncData} {N ps : List Str} {k l : Nat} {fb : Ev → SR} {m : List D → R Ow} (F : Fun K x qual st f fd) (S : FnScope N ps (defScope st)) (hl : N.length = ps.length + l) (hm : ∀ ds, m ds = runB l fb ds)
    (hb : ∀ (cdv : Value) (A : Around) (outer : List Env) (s : Shared) (H : Hp) (E : XK), Room k (A.deeper (PyProof.Rows.envOfC qual (defScope st) s.heap.objs.size f cdv)) →
      DSs (cxOf (L2.CX P w) P w K mg base N qual (defScope st) f cdv A outer s H E) (fun cls d _ H => E cls d H) (fun _ => true) (defBody st) fb) : FnOk P w K mg base (L2.CX P w) (k + 1) f fd ps (spM ⟨K, w⟩ mg ps.length m) := by
  refine F.okX S (fun vs H Q E h => spM_len h) (fun cdv A outer s H vs Q E hr h => ?_)
  obtain ⟨t, p, sm⟩ := hb cdv A outer s H E hr
  refine ⟨t, p, ?_⟩
  have hlen := spM_len h
  obtain ⟨F0, ds, s1, s2, s3, s4⟩ := h
  have e0 : start N vs = vs.map some ++ List.replicate l none := by
    show vs.map some ++ List.replicate (N.length - vs.length) none = _
    rw [hl, hlen, Nat.add_sub_cancel_left]
  rw [e0]
  have sat : Sat ⟨K, w⟩ F0 H (vs.map some ++ List.replicate l none) (envOf l ds) [] := ⟨s1, env_start l s2, List.nodup_nil⟩
  rw [hm] at s4
  unfold runB at s4
  have ext : ∀ {F' H' : Hp} {fp' : List Addr}, StepS F0 H [] F' H' fp' → Same F' H' → Ext F0 H F' H' := fun st sf => ⟨st.ff, fun b o e => st.fr b o e (by simp), fun b o e => (st.fn b o e).imp id fun z => z.elim (fun z => nomatch z) id, sf⟩
  refine sm F0 H _ _ [] _ sat ?_
  cases e : fb (envOf l ds) with
  | no => rw [e] at s4; exact s4
  | bk env => rw [e] at s4; exact s4.elim
  | ct env => rw [e] at s4; exact s4.elim
  | nx env => rw [e] at s4; exact fun σ' F' H' fp' _ st sat' => s4 .non F' H' (ext st sat'.fh) (own_d .non)
  | rt r env =>
    rw [e] at s4
    intro v σ' F' H' fx fp' _ st sat' ow nd
    refine s4 v F' H' (ext st sat'.fh) ⟨fx, ow, (List.nodup_append.mp nd).1, fun b hb => ?_⟩
    exact (st.sub b (List.mem_append_left _ hb)).elim (fun z => nomatch z) id
  | ex c env => rw [e] at s4; exact fun C σ' F' H' fp' m _ st sat' => s4 C F' H' m (ext st sat'.fh)
end
section
variable {X : Cx} {W : WX} {e : Expr} {es : List Expr} {pos p : Pos}
theorem de_call {k n : Nat} {f : Addr} {fd : FuncData} {ps : List Str} {x : Str} {m : List D → R Ow} {fa : Ev → R (List D)} (F : FnOk X.prog X.w X.K X.mg X.base (L2.CX X.prog X.w) k f fd ps (spM X.KK X.mg n m)) (tk : Takes X W) (hr : Room k X.A) (hg : Gl X x) (hm : X.mg x = some (.ref f))
    (hk : PySem.W.keepIn X.K (.ref f) = true) (hb : Binds X.K fd ps []) (ha : DA X W (e :: es) fa) (hn : ∀ ds env, fa env = .ok ds → ds.length = n)
    (hdb : (x == ("__debug__" : Str)) = false := by decide) (he : starEach (e :: es) X.env = (false, eval e X.env) :: starEach es X.env := by rfl) (hpl : (backTo pos (starEach es X.env)).any (·.1) = false := by rfl) :
    DE X W (.Call (.Name x p) (e :: es) [] pos) (eB fa m) := by
  obtain ⟨t, pa, s⟩ := ha
  refine ⟨_, pe_callS F hr hg hm hk hb (fun σ => passAt tk σ) pa hdb he hpl, fun F0 H σ env fp Q sat hp => ?_⟩
  refine s.choose sat hp (fun z => z _) fun ds ed k => k _ fun vs F1 H1 sat1 q _ h1 => ?_
  refine ⟨F1, ds, sat1.fh, q, hn ds env ed, ?_⟩
  cases em : m ds with
  | no => rw [em] at h1; exact h1
  | ok r => rw [em] at h1; exact h1
  | ex c => rw [em] at h1; exact h1
theorem aNil_len {ds : List D} {env : Ev} (h : aNil env = .ok ds) : ds.length = 0 := by cases h; rfl
theorem aCons_len {n : Nat} {f : Ev → R D} {g : Ev → R (List D)} (ih : ∀ ds env, g env = .ok ds → ds.length = n) : ∀ ds env, aCons f g env = .ok ds → ds.length = n + 1 := fun ds env h => by
  unfold aCons at h
  cases e1 : f env with
  | no => rw [e1] at h; cases h
  | ex c => rw [e1] at h; cases h
  | ok d =>
    rw [e1] at h
    have h' : (g env).map (fun ds => d :: ds) = .ok ds := h
    cases e2 : g env with
    | no => rw [e2] at h'; cases h'
    | ex c => rw [e2] at h'; cases h'
    | ok es =>
      rw [e2] at h'
      cases h'
      simp [ih es env e2]

/-- the reading that a mirror is -/
def tOf (K : Kw) (Pst : Hp → Hp → L2.St → R α → (β → Hp → Prop) → Prop) (f : Ev → R α) : L2.St → Hp → (β → Hp → Prop) → Prop := fun σ H Q => ∃ F env fp, Sat K F H σ env fp ∧ Pst F H σ (f env) Q
def W0 : WX := fun _ _ _ _ => False
theorem PE.imp {X : Cx} {e : Expr} {t t' : TE} (h : PE X e t) (k : ∀ σ H Q, t' σ H Q → t σ H Q) : PE X e t' := ⟨fun pins s σ H Q I q => h.run pins s σ H Q I (k σ H Q q)⟩
theorem PTs.imp {X : Cx} {e : List Expr} {t t' : TT} (h : PTs X e t) (k : ∀ σ H Q, t' σ H Q → t σ H Q) : PTs X e t' := ⟨fun pins s σ H Q I q => h.run pins s σ H Q I (k σ H Q q)⟩
theorem DE.can {X : Cx} {W : WX} {e : Expr} {f : Ev → R Ow} (h : DE X W e f) : PE X e (tOf X.KK (Post X W (POw X.KK)) f) := by
  obtain ⟨t, p, s⟩ := h
  refine PE.imp p ?_
  rintro σ H Q ⟨F, env, fp, sat, h⟩
  exact s F H σ env fp Q sat h
/-- a clause's tests -/
def DTs (X : Cx) (W : WX) (ifs : List Expr) (f : Ev → R Bool) : Prop := ∃ t, PTs X ifs t ∧ Sm X W PTb t f
def cYes (_ : Ev) : R Bool := .ok true
theorem dts_nil : DTs X W [] cYes := ⟨_, pts_nil, fun F H σ env fp Q sat h => h true F H (.refl sat.fh) rfl⟩
theorem dts_one {f : Ev → R Bool} (h : DT X W e f) : DTs X W [e] f := by
  obtain ⟨t, p, s⟩ := h
  exact ⟨_, pts_one p, s⟩
theorem DTs.can {X : Cx} {W : WX} {e : List Expr} {f : Ev → R Bool} (h : DTs X W e f) : L2.PTs X e (tOf X.KK (Post X W PTb) f) := by
  obtain ⟨t, p, s⟩ := h
  refine PTs.imp p ?_
  rintro σ H Q ⟨F, env, fp, sat, h⟩
  exact s F H σ env fp Q sat h
def wipeE (env : Ev) : List Nat → Ev
  | [] => env
  | v :: vs => (wipeE env vs).set v none
theorem set_none_len {α : Type} {l : List (Option α)} {i : Nat} (h : ¬ i < l.length) (x : Option α) : l.set i x = l := List.set_eq_of_length_le (by omega)
theorem wipe_sat {K : Kw} {F H : Hp} {σ : L2.St} {env : Ev} {fp : List Addr} (sat : Sat K F H σ env fp) : ∀ vs : List Nat, ∃ fp', Sat K F H (wipe σ vs) (wipeE env vs) fp' ∧ ∀ b ∈ fp', b ∈ fp
  | [] => ⟨fp, sat, fun _ z => z⟩
  | v :: vs => by
    obtain ⟨fp1, s1, h1⟩ := wipe_sat sat vs
    by_cases hi : v < (wipeE env vs).length
    · obtain ⟨fr, fo, a1, a2, a3, a3', a4, a5, a6⟩ := s1.en.put hi s1.nd
      have e3 := (a6 F H [] [] (StepS.of_ext (.refl sat.fh) []) fun _ _ => by simp).1 none
      exact ⟨fr, ⟨sat.fh, e3, a3⟩, fun b hb => h1 b (a1 b hb)⟩
    · refine ⟨fp1, ?_, h1⟩
      show Sat K F H ((wipe σ vs).set v none) ((wipeE env vs).set v none) fp1
      rw [set_none_len hi, set_none_len (by rw [s1.en.len]; exact hi)]
      exact s1
theorem wipe_get : ∀ (σ : L2.St) (vs : List Nat) (j : Nat), (wipe σ vs)[j]? = if j ∈ vs then (σ[j]?).map (fun _ => none) else σ[j]?
  | σ, [], j => by simp [wipe]
  | σ, v :: vs, j => by
    show ((wipe σ vs).set v none)[j]? = _
    by_cases hj : v = j
    · subst hj
      by_cases hl : v < (wipe σ vs).length
      · rw [List.getElem?_set_self hl]
        rw [wipe_length] at hl
        simp [List.getElem?_eq_getElem hl]
      · rw [set_none_len hl, wipe_get σ vs v]
        rw [wipe_length] at hl
        have e : σ[v]? = none := List.getElem?_eq_none (by omega)
        simp [e]
    · rw [List.getElem?_set_ne hj, wipe_get σ vs j]
      simp [Ne.symm hj]
theorem wipe_off {σ σ' : L2.St} {ix vs : List Nat} (h : Off ix (wipe σ vs) σ') (hs : ∀ i ∈ ix, i ∈ vs) : wipe σ' vs = wipe σ vs := by
  refine List.ext_getElem? fun j => ?_
  rw [wipe_get σ', wipe_get σ]
  by_cases hj : j ∈ vs
  · rw [if_pos hj, if_pos hj]
    have hl := h.1
    rw [wipe_length] at hl
    by_cases hb : j < σ.length
    · rw [List.getElem?_eq_getElem hb, List.getElem?_eq_getElem (by omega : j < σ'.length)]; rfl
    · rw [List.getElem?_eq_none (by omega), List.getElem?_eq_none (by omega)]
  · rw [if_neg hj, if_neg hj, h.2 j fun z => hj (hs j z), wipe_get σ, if_neg hj]
def noEx {α : Type} : R α → R α
  | .ex _ => .no
  | r => r
@[simp] theorem noEx_ok {α : Type} (a : α) : noEx (.ok a) = .ok a := rfl
def lcR (g : D → Ev → Option Ev) (c : Ev → R Bool) (e : Ev → R Ow) (env : Ev) : List D → R (List Ow)
  | [] => .ok []
  | d :: ds => match g d env with
    | none => .no
    | some env1 => (noEx (c env1)).bind fun b => if b = true then (noEx (e env1)).bind fun r => (lcR g c e env ds).map fun rs => r :: rs else lcR g c e env ds
def eLc (it : Ev → R (List D)) (g : D → Ev → Option Ev) (c : Ev → R Bool) (e : Ev → R Ow) (vs : List Nat) (env : Ev) : R Ow := (it env).bind fun ds => guard (ds.length ≤ sizeLine) ((noEx (lcR g c e (wipeE env vs) ds)).map Ow.l)
theorem OwnAll.snoc {K : Kw} {F H : Hp} {v : V} {r : Ow} {fr : List Addr} : ∀ {os : List Ow} {vs : List V} {fp : List Addr}, OwnAll K F H vs os fp → OwnAt K F H v r fr → fp.Nodup → fr.Nodup → (∀ b ∈ fr, b ∉ fp) → ∃ fp', OwnAll K F H (vs ++ [v]) (os ++ [r]) fp' ∧ fp'.Nodup ∧ ∀ b ∈ fp', b ∈ fp ∨ b ∈ fr
  | [], _, _, h, g, n1, n2, dj => by
    cases h
    exact ⟨fr ++ [], .cons g .nil, by simpa using n2, fun b hb => .inr (by simpa using hb)⟩
  | o :: os, _, _, h, g, n1, n2, dj => by
    cases h with
    | @cons _ _ _ _ f1 fs h1 h2 =>
      rw [List.nodup_append] at n1
      obtain ⟨m1, m2, m3⟩ := n1
      obtain ⟨fp', a, b, c⟩ := OwnAll.snoc h2 g m2 n2 fun b hb z => dj b hb (List.mem_append_right _ z)
      refine ⟨f1 ++ fp', .cons h1 a, ?_, fun x hx => ?_⟩
      · rw [List.nodup_append]
        refine ⟨m1, b, fun x hx y hy e => ?_⟩
        subst e
        rcases c x hy with z | z
        · exact m3 x hx x z rfl
        · exact dj x z (List.mem_append_left _ hx)
      · rcases List.mem_append.mp hx with z | z
        · exact .inl (List.mem_append_left _ z)
        · exact (c x z).imp (List.mem_append_right _) id
theorem de_lc_core {wi : TI} {g : D → Ev → Option Ev} {fi : Ev → R (List D)} {fc : Ev → R Bool} {fe : Ev → R Ow} {ix vs : List Nat} (si : Sm X W (PIt X.KK) wi fi) (hix : ∀ i ∈ ix, i ∈ vs) :
    Sm X W (POw X.KK) (tLc wi (tgOf X.KK ix g) (tOf X.KK (Post X W0 PTb) fc) (tOf X.KK (Post X W0 (POw X.KK)) fe) vs) (eLc fi g fc fe vs) := by
  intro F H σ env fp Q sat hp
  refine si.go sat hp fun items J F1 H1 sat1 wk _ h1 => ?_
  have wk : WalkF X.KK J F1 items := wk
  obtain ⟨hz, h2⟩ := guard_post h1
  intro Dd hD
  have hD1 : F1 Dd = none := free_of sat1.fh hD
  cases el : lcR g fc fe (wipeE env vs) items with
  | no => rw [el] at h2; exact h2.elim
  | ex c => rw [el] at h2; exact h2.elim
  | ok all =>
  rw [el] at h2
  have h2 : ∀ v F' H', Ext F1 H1 F' H' → POw X.KK H1 (.l all) v F' H' → Q v H' := h2
  let Iv : Nat → Hp → Prop := fun i H' => ∃ F' acc accO fa rest, Ext F1 H1 F' H' ∧ F' Dd = none ∧ H' Dd = some (.lst acc) ∧ OwnAll X.KK F' H' acc accO fa ∧ fa.Nodup ∧ Dd ∉ fa ∧ accO.length ≤ i ∧ (∀ b ∈ fa, H1 b = none) ∧ lcR g fc fe (wipeE env vs) (items.drop i) = .ok rest ∧ all = accO ++ rest
  refine ⟨fun i m H' => m = items.length - i ∧ i ≤ items.length ∧ Iv i H', ⟨items.length, by simp, Nat.zero_le _, F1, [], [], [], all, Ext.own sat1.fh hD _, hD1, upd_same, .nil, List.nodup_nil, by simp, Nat.le_refl _, (fun b z => nomatch z), el, rfl⟩, ?_⟩
  rintro i m H' ⟨rfl, hi, F', acc, accO, fa, rest, x, fD, hDd, ow, nd, nD, hl, fr, er, ea⟩
  by_cases hlt : i < items.length
  · refine .inr ⟨wk.go i F' H' hlt x.ff x.fh, Iv (i + 1), fun H2 z => ⟨items.length - (i + 1), by omega, rfl, hlt, z⟩, fun v H3 y => ?_⟩
    obtain ⟨d, F3, e1, x3, dp⟩ := wk.yld i F' H' v H3 hlt x.ff x.fh y
    have ed : items.drop i = d :: items.drop (i + 1) := by
      rw [List.drop_eq_getElem_cons hlt]
      have : items[i] = d := by rw [List.getElem?_eq_getElem hlt] at e1; exact Option.some.inj e1
      rw [this]
    rw [ed] at er
    unfold lcR at er
    cases eg : g d (wipeE env vs) with
    | none => rw [eg] at er; cases er
    | some env1 =>
    rw [eg] at er
    simp only at er
    obtain ⟨fpw, satw, subw⟩ := wipe_sat (sat1.ext (x.trans x3)) vs
    refine ⟨F3, _, fpw, d, env1, satw, dp, eg, fun σ2 fp2 sat2 sub2 off2 => ⟨wipe_off off2 hix, F3, env1, fp2, sat2, ?_⟩⟩
    cases ec : fc env1 with
    | no => rw [ec] at er; cases er
    | ex c => rw [ec] at er; cases er
    | ok b =>
    rw [ec] at er
    simp only [noEx_ok, R.bind_ok] at er
    intro v4 F4 H4 x4 ev4
    obtain rfl : v4 = b := ev4
    have xx4 := x3.trans x4
    cases v4 with
    | false =>
      rw [if_neg Bool.false_ne_true] at er ⊢
      have g1 := x.trans xx4
      refine ⟨F4, acc, accO, fa, rest, g1, ?_, xx4.hh _ _ hDd, ow.ext xx4, nd, nD, Nat.le_succ_of_le hl, fr, er, ea⟩
      cases q : F4 Dd with
      | none => rfl
      | some u =>
        rcases xx4.fn Dd u q with z | z
        · rw [fD] at z; cases z
        · rw [hDd] at z; cases z
    | true =>
      rw [if_pos rfl] at er ⊢
      refine ⟨F4, env1, fp2, sat2.ext x4, ?_⟩
      cases ee : fe env1 with
      | no => rw [ee] at er; cases er
      | ex c => rw [ee] at er; cases er
      | ok r =>
      rw [ee] at er
      simp only [noEx_ok, R.bind_ok] at er
      intro y5 F5 H5 x5 ⟨fr5, ow5, nd5, fresh5⟩
      have xx := xx4.trans x5
      have hD5 : H5 Dd = some (.lst acc) := xx.hh _ _ hDd
      have fD5 : F5 Dd = none := by
        cases q : F5 Dd with
        | none => rfl
        | some u =>
          rcases xx.fn Dd u q with z | z
          · rw [fD] at z; cases z
          · rw [hDd] at z; cases z
      have nD5 : Dd ∉ fr5 := fun z => by
        have := fresh5 Dd z
        rw [xx4.hh _ _ hDd] at this; cases this
      cases er2 : lcR g fc fe (wipeE env vs) (items.drop (i + 1)) with
      | no => rw [er2] at er; cases er
      | ex c => rw [er2] at er; cases er
      | ok rest2 =>
      rw [er2] at er
      cases er
      have la := OwnAll.len ow
      have stp : StepS F5 H5 [Dd] F5 (upd H5 Dd (.lst (acc ++ [y5]))) [] := ⟨Same.refl _, fun b o e n => by rw [upd_ne (fun z => n (by simp [z]))]; exact e, fun b o e => .inl e, fun b z => nomatch z⟩
      obtain ⟨fa', ow', nd', sub'⟩ := OwnAll.snoc (OwnAll.keep stp _ _ _ (ow.ext xx) fun b hb => by simp; exact fun z => nD (z ▸ hb)) (OwnAt.keep stp _ _ _ ow5 fun b hb => by simp; exact fun z => nD5 (z ▸ hb)) nd nd5 fun b hb z => by
        obtain ⟨_, vs', e⟩ := OwnAll.there _ _ _ ow b z
        have := xx4.hh.free (fresh5 b hb)
        rw [e] at this; cases this
      refine ⟨acc, hD5, by omega, F5, acc ++ [y5], accO ++ [r], fa', rest2, ⟨(x.trans xx).ff, fun b o e => ?_, (x.trans xx).fn, fun b o e => ?_⟩, fD5, upd_same, ow', nd', ?_, by simp; omega, fun b hb => ?_, er2, by simp [ea]⟩
      · rw [upd_ne (ne_of_none e hD)]; exact (x.trans xx).hh b o e
      · rw [upd_ne (ne_of_none e fD5)]; exact xx.fh b o e
      · intro z
        rcases sub' _ z with q | q
        · exact nD q
        · exact nD5 q
      · rcases sub' b hb with q | q
        · exact fr b q
        · exact x.hh.free (xx4.hh.free (fresh5 b q))
  · have e : i = items.length := by omega
    subst e
    rw [List.drop_length] at er
    cases er
    refine .inl ⟨wk.stop F' H' x.ff x.fh, h2 _ F' H' x ⟨Dd :: fa, ?_, List.nodup_cons.mpr ⟨nD, nd⟩, fun b hb => ?_⟩⟩
    · rw [ea, List.append_nil]; exact .l fD hDd ow
    · rcases List.mem_cons.mp hb with z | z
      · rw [z]; exact hD
      · exact fr b z
theorem de_lc {elt tg iter : Expr} {ifs : List Expr} {scope : Scope} {own : List (Str × Nat)} {g : D → Ev → Option Ev} {fi : Ev → R (List D)} {fc : Ev → R Bool} {fe : Ev → R Ow} {ix : List Nat} (hc : X.calm = true) (hN : X.N.Nodup) (hi : DI X W tg iter fi) (ok : BlkOk X.N X.env.scope scope own)
    (hg : ∀ (s : Shared) (H : Hp) (C : Addr) (cl : List (Str × Addr)) (fp : List Addr), DG (X.blk s H scope (compEnvC scope cl C X.env) fp) tg ix g) (ht : ∀ (s : Shared) (H : Hp) (C : Addr) (cl : List (Str × Addr)) (fp : List Addr), DTs (X.blk s H scope (compEnvC scope cl C X.env) fp) W0 ifs fc)
    (he : ∀ (s : Shared) (H : Hp) (C : Addr) (cl : List (Str × Addr)) (fp : List Addr), DE (X.blk s H scope (compEnvC scope cl C X.env) fp) W0 elt fe) (hix : ∀ i ∈ ix, i ∈ own.map (·.2) := by decide) (hs : ∀ x, foldedSetIterable iter X.env x = pure x := by intro _; rfl) :
    DE X W (.ListComp elt [⟨tg, iter, ifs, 0⟩] scope pos) (eLc fi g fc fe (own.map (·.2))) := by
  obtain ⟨wi, pi, si⟩ := hi
  exact ⟨_, pe_lc (g := tgOf X.KK ix g) hc hN pi ok (fun s H C cl fp => hg s H C cl fp) (fun s H C cl fp => (ht s H C cl fp).can) (fun s H C cl fp => (he s H C cl fp).can) hs, de_lc_core si hix⟩
end
end Mir
end
set_option Elab.async false
set_option linter.all false
set_option maxRecDepth 100000
set_option maxHeartbeats 4000000
noncomputable section
namespace Mir
open PySem PySem.Spec L2

section
variable {K : Kw} {F H : Hp} {σ : L2.St} {env : Ev} {fp : List Addr}
theorem set_self {σ : L2.St} {i : Nat} {v : V} (h : σ[i]? = some (some v)) : σ.set i (some v) = σ := by
  refine List.ext_getElem? fun j => ?_
  by_cases hj : i = j
  · subst hj
    rw [List.getElem?_set_self (List.getElem?_eq_some_iff.mp h).1]
    exact h.symm
  · rw [List.getElem?_set_ne hj]
theorem mut_step {F H F1 H1 : Hp} {a : Addr} {vs vs' : List V} (x : Ext F H F1 H1) (h : H a = some (.lst vs)) : StepS F H [a] F1 (upd H1 a (.lst vs')) [] :=
  ⟨x.ff, fun b o e n => by rw [upd_ne (fun z => n (by simp [z]))]; exact x.hh b o e, fun b o e => (x.fn b o e).imp id .inr, fun b z => nomatch z⟩
theorem mut_free {F H F1 H1 : Hp} {a : Addr} {vs : List V} (x : Ext F H F1 H1) (hf : F a = none) (h : H a = some (.lst vs)) : F1 a = none := by
  cases q : F1 a with
  | none => rfl
  | some u =>
    rcases x.fn a u q with z | z
    · rw [hf] at z; cases z
    · rw [h] at z; cases z
theorem mut_same {F1 H1 : Hp} {a : Addr} {o : HO} (s : Same F1 H1) (hf : F1 a = none) : Same F1 (upd H1 a o) := fun b u e => by
  rw [upd_ne (ne_of_none e hf)]; exact s b u e
/-- the list in slot i, and what is left when it is changed -/
theorem Sat.mut (sat : Sat K F H σ env fp) {i : Nat} {os : List Ow} (hi : env[i]? = some (some (.l os))) : ∃ a vs fo, σ[i]? = some (some (.ref a)) ∧ F a = none ∧ H a = some (.lst vs) ∧ OwnAll K F H vs os fo ∧ fo.Nodup ∧ a ∉ fo ∧ (∀ b ∈ a :: fo, b ∈ fp) ∧
    ∀ F1 H1 vs' os' fo', Ext F H F1 H1 → OwnAll K F1 (upd H1 a (.lst vs')) vs' os' fo' → fo'.Nodup → (∀ b ∈ fo', b ∈ fo ∨ H b = none) → ∃ fp', StepS F H fp F1 (upd H1 a (.lst vs')) fp' ∧ Sat K F1 (upd H1 a (.lst vs')) σ (env.set i (some (.l os'))) fp' := by
  have hl : i < env.length := (List.getElem?_eq_some_iff.mp hi).1
  obtain ⟨fr, fo0, a1, a2, a3, a3', a4, a5, a6⟩ := sat.en.put hl sat.nd
  obtain ⟨v, e1, e2⟩ := a5 _ hi
  cases e2 with
  | @l a vs _ fo h1 h2 h3 =>
    obtain ⟨nd1, nd2⟩ := List.nodup_cons.mp a3'
    refine ⟨a, vs, fo, e1, h1, h2, h3, nd2, nd1, a2, fun F1 H1 vs' os' fo' x ow nd sub => ?_⟩
    have hf1 := mut_free x h1 h2
    have na' : a ∉ fo' := fun z => by
      rcases sub a z with q | q
      · exact nd1 q
      · rw [h2] at q; cases q
    have fresh : ∀ b, H b = none → b ∉ fr := fun b q z => by
      obtain ⟨_, w, e⟩ := sat.en.there b (a1 b z)
      rw [q] at e; cases e
    obtain ⟨fp', b1, b2, b3⟩ := (a6 F1 (upd H1 a (.lst vs')) [a] [] (mut_step x h2) fun b hb z => a4 b (by rw [List.mem_singleton.mp z]; exact List.mem_cons_self) hb).2 (.ref a) (.l os') (a :: fo') (.l hf1 upd_same ow) (List.nodup_cons.mpr ⟨na', nd⟩) fun b hb z => by
      rcases List.mem_cons.mp hb with q | q
      · subst q; exact a4 b List.mem_cons_self z
      · rcases sub b q with q | q
        · exact a4 b (List.mem_cons_of_mem _ q) z
        · exact fresh b q z
    rw [set_self e1] at b3
    refine ⟨fp', (mut_step x h2).mono (fun b hb => by rw [List.mem_singleton.mp hb]; exact a2 a List.mem_cons_self) |> fun s => ⟨s.ff, s.fr, s.fn, fun b hb => ?_⟩, mut_same x.fh hf1, b3, b1⟩
    rcases b2 b hb with q | q
    · rcases List.mem_cons.mp q with q | q
      · rw [q]; exact .inl (a2 a List.mem_cons_self)
      · rcases sub b q with q | q
        · exact .inl (a2 b (List.mem_cons_of_mem _ q))
        · exact .inr q
    · exact .inl (a1 b q)
/-- the items of an own list, behind a change at the list itself -/
theorem own_mut {F1 H1 : Hp} {a : Addr} {vs vs' : List V} {os : List Ow} {fo : List Addr} (x : Ext F H F1 H1) (h : H a = some (.lst vs)) (ow : OwnAll K F H vs os fo) (na : a ∉ fo) : OwnAll K F1 (upd H1 a (.lst vs')) vs os fo :=
  OwnAll.keep (mut_step x h) _ _ _ ow fun b hb z => na (by rw [← List.mem_singleton.mp z]; exact hb)
theorem own_mut1 {F1 H1 : Hp} {a : Addr} {vs vs' : List V} {v : V} {r : Ow} {fx : List Addr} (s : Same F1 H1) (hf : F1 a = none) (h : H1 a = some (.lst vs)) (ow : OwnAt K F1 H1 v r fx) (na : a ∉ fx) : OwnAt K F1 (upd H1 a (.lst vs')) v r fx :=
  OwnAt.keep (mut_step (.refl s) h) _ _ _ ow fun b hb z => na (by rw [← List.mem_singleton.mp z]; exact hb)
theorem OwnAll.get {F H : Hp} : ∀ {os : List Ow} {vs : List V} {fp : List Addr} {k : Nat} {o : Ow}, OwnAll K F H vs os fp → fp.Nodup → os[k]? = some o → ∃ (v : V) (fo fr : List Addr), vs[k]? = some v ∧ OwnAt K F H v o fo ∧ fo.Nodup ∧ fr.Nodup ∧ (∀ b ∈ fo, b ∈ fp) ∧ (∀ b ∈ fr, b ∈ fp) ∧ (∀ b ∈ fo, b ∉ fr) ∧
    ∀ F' H' fx fy v' o' fn, StepS F H fx F' H' fy → (∀ b ∈ fr, b ∉ fx) → OwnAt K F' H' v' o' fn → fn.Nodup → (∀ b ∈ fn, b ∉ fr) → ∃ fp', OwnAll K F' H' (vs.set k v') (os.set k o') fp' ∧ fp'.Nodup ∧ ∀ b ∈ fp', b ∈ fn ∨ b ∈ fr
  | [], _, _, k, o, h, nd, e => by simp at e
  | x :: os, _, _, 0, o, h, nd, e => by
    cases h with
    | @cons v vs _ _ f1 fs h1 h2 =>
      simp at e; subst e
      obtain ⟨n1, n2, n3⟩ := List.nodup_append.mp nd
      refine ⟨v, f1, fs, rfl, h1, n1, n2, fun b z => List.mem_append_left _ z, fun b z => List.mem_append_right _ z, fun b z q => n3 b z b q rfl, fun F' H' fx fy v' o' fn st dj ow nf df => ?_⟩
      refine ⟨fn ++ fs, .cons ow (OwnAll.keep st _ _ _ h2 dj), ?_, fun b hb => List.mem_append.mp hb⟩
      rw [List.nodup_append]
      exact ⟨nf, n2, fun a ha b hb e => df a ha (e ▸ hb)⟩
  | x :: os, _, _, k + 1, o, h, nd, e => by
    cases h with
    | @cons v vs _ _ f1 fs h1 h2 =>
      obtain ⟨n1, n2, n3⟩ := List.nodup_append.mp nd
      obtain ⟨v0, fo, fr, g1, g2, g3, g4, g5, g6, g7, g8⟩ := OwnAll.get (k := k) h2 n2 (by simpa using e)
      refine ⟨v0, fo, f1 ++ fr, by simpa using g1, g2, g3, ?_, fun b z => List.mem_append_right _ (g5 b z), fun b z => ?_, fun b z q => ?_, fun F' H' fx fy v' o' fn st dj ow nf df => ?_⟩
      · rw [List.nodup_append]; exact ⟨n1, g4, fun a ha b hb e => n3 a ha b (g6 b hb) e⟩
      · exact (List.mem_append.mp z).elim (List.mem_append_left _) fun z => List.mem_append_right _ (g6 b z)
      · rcases List.mem_append.mp q with q | q
        · exact n3 b q b (g5 b z) rfl
        · exact g7 b z q
      · obtain ⟨fp', c1, c2, c3⟩ := g8 F' H' fx fy v' o' fn st (fun b hb => dj b (List.mem_append_right _ hb)) ow nf fun b hb z => df b hb (List.mem_append_right _ z)
        refine ⟨f1 ++ fp', .cons (OwnAt.keep st _ _ _ h1 fun b hb => dj b (List.mem_append_left _ hb)) c1, ?_, fun b hb => ?_⟩
        · rw [List.nodup_append]
          refine ⟨n1, c2, fun a ha b hb e => ?_⟩
          subst e
          rcases c3 a hb with z | z
          · exact df a z (List.mem_append_left _ ha)
          · exact n3 a ha a (g6 a z) rfl
        · rcases List.mem_append.mp hb with z | z
          · exact .inr (List.mem_append_left _ z)
          · exact (c3 b z).imp id (List.mem_append_right _)
end
section
variable {X : Cx} {W : WX} {S : Nat → Bool} {e e1 e2 : Expr} {pos cpos apos npos : Pos} {x : Str}
def ownL (i : Nat) (env : Ev) (k : List Ow → SR) : SR := match env[i]? with
  | some (some (.l os)) => k os
  | _ => .no
theorem ownL_post {σ : L2.St} {F H : Hp} {fp : List Addr} {D : Ends} {i : Nat} {env : Ev} {k : List Ow → SR} (h : PostS X W S σ F H fp D (ownL i env k)) : ∃ os, env[i]? = some (some (.l os)) ∧ PostS X W S σ F H fp D (k os) := by
  unfold ownL at h
  split at h
  · exact ⟨_, ‹_›, h⟩
  · exact h.elim
/-- x.append(e) -/
def sApp (i : Nat) (f : Ev → R Ow) (env : Ev) : SR := ownL i env fun os => (f env).st env fun r => if os.length < sizeLine then .nx (env.set i (some (.l (os ++ [r])))) else .no
theorem ds_app {f : Ev → R Ow} (i : Nat) (he : DE X W e f) (hN : X.N[i]? = some x := by rfl) (hv : Vis X.env.scope x := by first | exact Or.inl rfl | exact Or.inr (Or.inl rfl) | exact Or.inr (Or.inr rfl)) (hd : (x == ("__debug__" : Str)) = false := by decide) (hcd : (x == ("__classdict__" : Str)) = false := by decide)
    (hbase : attributeBase (.Name x npos) "append" X.env (eval (.Name x npos) X.env) = eval (.Name x npos) X.env := by rfl)
    (hfew : ((backTo cpos (starEach [e] X.env)).all (fun x => !x.1) && (backToKw cpos (keywordEach [] X.env)).all (fun x => x.1.isSome) && decide ([e].length + ([] : List Keyword).length + (if ([] : List Keyword).isEmpty then 0 else 1) < 30)) = true := by rfl)
    (hline : (apos.endLine == cpos.line) = true := by rfl) (hs : starEach [e] X.env = (false, eval e X.env) :: starEach [] X.env := by rfl) (hplain : (backTo cpos (starEach [] X.env)).any (·.1) = false := by rfl)
    (hsw : swapsWith (.Call (.Attribute (.Name x npos) "append" apos) [e] [] cpos) none pos.line X.env = pure false := by rfl) : DS X W S (.Expr (.Call (.Attribute (.Name x npos) "append" apos) [e] [] cpos) pos) (sApp i f) := by
  obtain ⟨t, p, s⟩ := he
  refine ⟨_, ps_expr (pe_bm PySem.F.plainAttrs_list PySem.F.slot_list_append PySem.F.type_list_append mt_append (pe_var hN hv hd hcd) (pa_cons p pa_nil hs) hbase hfew hline hs hplain) hsw, fun F H σ env fp D sat h => ?_⟩
  obtain ⟨os, eo, h⟩ := ownL_post h
  obtain ⟨a, vs, fo, c1, c0, c2, c3, c4, c5, c6, c7⟩ := sat.mut eo
  refine ⟨.ref a, c1, .inl ⟨rfl, vs, SqL.of c2⟩, ?_⟩
  refine s F H σ env fp _ sat ?_
  cases ef : f env with
  | no => rw [ef] at h; exact h
  | ex c => rw [ef] at h; exact fun C F' H' m x => h C σ F' H' fp m (.refl _ _) (StepS.of_ext x fp) (sat.ext x)
  | ok r =>
    rw [ef] at h
    intro v F1 H1 x1 ⟨fx, ow, nx, fr⟩
    have h2 : PostS X W S σ F H fp D (if os.length < sizeLine then .nx (env.set i (some (.l (os ++ [r])))) else .no) := h
    split at h2
    · have la := OwnAll.len c3
      have hb := x1.hh _ _ c2
      obtain ⟨fo', g1, g2, g3⟩ := OwnAll.snoc (own_mut (vs' := vs ++ [v]) x1 c2 c3 c5) (own_mut1 x1.fh (mut_free x1 c0 c2) hb ow fun z => by rw [fr a z] at c2; cases c2) c4 nx fun b hb z => by
        obtain ⟨_, w, e⟩ := OwnAll.there _ _ _ c3 b z
        rw [fr b hb] at e; cases e
      obtain ⟨fp', st, sat'⟩ := c7 F1 H1 (vs ++ [v]) (os ++ [r]) fo' x1 g1 g2 fun b hb => (g3 b hb).imp id (fr b)
      exact ⟨a, vs, v, rfl, rfl, hb, by omega, h2 σ F1 _ fp' (.refl _ _) st sat'⟩
    · exact h2.elim
def asL : D → R (List D)
  | .list ds => .ok ds
  | _ => .no
@[simp] theorem asL_list (ds : List D) : asL (.list ds) = .ok ds := rfl
def sExt (i : Nat) (f : Ev → R D) (env : Ev) : SR := ownL i env fun os => (f env).st env fun d => (asL d).st env fun ds => if os.length + ds.length ≤ sizeLine then .nx (env.set i (some (.l (os ++ ds.map Ow.d)))) else .no
/-- x[k] = e -/
def putAt (i : Nat) (env : Ev) (os : List Ow) (r : Ow) : D → SR
  | .int k => match ixN os.length k with
    | some j => .nx (env.set i (some (.l (os.set j r))))
    | none => .no
  | _ => .no
def sPut (i : Nat) (f : Ev → R Ow) (g : Ev → R D) (env : Ev) : SR := (f env).st env fun r => ownL i env fun os => (g env).st env (putAt i env os r)
theorem OwnAll.set {K : Kw} {F H : Hp} {os : List Ow} {vs : List V} {fp : List Addr} {j : Nat} {v : V} {r : Ow} {fx : List Addr} (s : Same F H) (h : OwnAll K F H vs os fp) (nd : fp.Nodup) (hj : j < os.length) (ow : OwnAt K F H v r fx) (nx : fx.Nodup) (dj : ∀ b ∈ fx, b ∉ fp) :
    ∃ fp', OwnAll K F H (vs.set j v) (os.set j r) fp' ∧ fp'.Nodup ∧ ∀ b ∈ fp', b ∈ fp ∨ b ∈ fx := by
  obtain ⟨v0, fo, fr, g1, g2, g3, g4, g5, g6, g7, g8⟩ := OwnAll.get (k := j) h nd (List.getElem?_eq_getElem hj)
  obtain ⟨fp', a, b, c⟩ := g8 F H [] [] v r fx (StepS.of_ext (.refl s) []) (fun _ _ => by simp) ow nx fun b hb z => dj b hb (g6 b z)
  exact ⟨fp', a, b, fun b hb => (c b hb).elim .inr fun z => .inl (g6 b z)⟩
end
end Mir
end
set_option Elab.async false
set_option linter.all false
set_option maxRecDepth 100000
set_option maxHeartbeats 4000000
noncomputable section
namespace Mir
open PySem PySem.Spec L2

def PAs (K : Kw) (_ : Hp) (r : Ow) (v : V) (F' H' : Hp) : Prop := ∃ fp, OwnAt K F' H' v r fp
instance {K : Kw} : Anti (PAs K) := ⟨fun _ h => h⟩
def DP (X : Cx) (W : WX) (e : Expr) (f : Ev → R Ow) : Prop := ∃ t, PE X e t ∧ Sm X W (PAs X.KK) t f
section
variable {X : Cx} {W : WX} {S : Nat → Bool} {e a b : Expr} {pos cpos apos npos : Pos} {x : Str}
theorem dp_var (i : Nat) {x : Str} (hN : X.N[i]? = some x := by rfl) (hv : Vis X.env.scope x := by first | exact Or.inl rfl | exact Or.inr (Or.inl rfl) | exact Or.inr (Or.inr rfl)) (hd : (x == ("__debug__" : Str)) = false := by decide)
    (hcd : (x == ("__classdict__" : Str)) = false := by decide) : DP X W (.Name x pos) (eVarO i) := by
  refine ⟨_, pe_var hN hv hd hcd, fun F H σ env fp Q sat h => ?_⟩
  have h' : Post X W (PAs X.KK) F H σ ((eVarO i env).bind fun o => .ok o) Q := by
    cases e : eVarO i env <;> rw [e] at h <;> exact h
  obtain ⟨o, he, _, h2⟩ := eVarO_ok h'
  obtain ⟨v, fo, h1, h3, _⟩ := sat.en.get he
  exact ⟨v, h1, h2 v F H (.refl sat.fh) ⟨fo, h3⟩⟩
def ixO : Ow → D → R Ow
  | .l os, .int k => match atI os k with
    | some o => .ok o
    | none => .no
  | _, _ => .no
def eIxO (f : Ev → R Ow) (g : Ev → R D) (env : Ev) : R Ow := (f env).bind fun o => (g env).bind fun d => ixO o d
theorem OwnAll.at {K : Kw} {F H : Hp} {os : List Ow} {vs : List V} {fp : List Addr} {k : Int} {o : Ow} (h : OwnAll K F H vs os fp) (e : atI os k = some o) : ∃ v fo, atI vs k = some v ∧ OwnAt K F H v o fo := by
  have hl := OwnAll.len h
  unfold atI at e ⊢
  rw [hl]
  cases hj : ixN os.length k with
  | none => rw [hj] at e; cases e
  | some j =>
    rw [hj] at e
    have e : os[j]? = some o := e
    have : ∀ {os : List Ow} {vs : List V} {fp : List Addr} {j : Nat}, OwnAll K F H vs os fp → os[j]? = some o → ∃ v fo, vs[j]? = some v ∧ OwnAt K F H v o fo := by
      intro os
      induction os with
      | nil => intro vs fp j h e; simp at e
      | cons q os ih =>
        intro vs fp j h e
        cases h with
        | cons h1 h2 =>
          cases j with
          | zero => simp at e; subst e; exact ⟨_, _, rfl, h1⟩
          | succ j =>
            obtain ⟨v, fo, a, b⟩ := ih h2 (by simpa using e)
            exact ⟨v, fo, by simpa using a, b⟩
    exact this h e
theorem dl_dp {f : Ev → R Ow} (h : DP X W e f) : DL X W e (eB f shD) := by
  obtain ⟨t, p, s⟩ := h
  refine ⟨t, p, fun F H σ env fp Q sat h => s F H σ env fp Q sat (Post.thru h fun d _ h' v F' H' x ⟨fp, q⟩ => ?_)⟩
  obtain ⟨r, e2⟩ := shD_ok h'
  rw [e2] at h'
  exact h' v F' H' x (own_seq x.fh q e2)
def repO : Ow → D → R Ow
  | .l os, .int k => match unDs os with
    | some ds => guard (-(2 ^ 63) ≤ k ∧ k < 2 ^ 63 ∧ os.length * k.toNat ≤ sizeLine) (.ok (.l ((List.replicate k.toNat ds).flatten.map Ow.d)))
    | none => .no
  | _, _ => .no
def eRep (f : Ev → R Ow) (g : Ev → R D) (env : Ev) : R Ow := (f env).bind fun o => (g env).bind fun d => repO o d
theorem DpAll.rep {K : Kw} {F : Hp} {vs : List V} {ds : List D} (h : DpAll K F vs ds) : ∀ n : Nat, DpAll K F (List.replicate n vs).flatten (List.replicate n ds).flatten
  | 0 => .nil
  | n + 1 => by
    rw [List.replicate_succ, List.replicate_succ, List.flatten_cons, List.flatten_cons]
    exact DpAll.append h (DpAll.rep h n)
theorem de_rep {f : Ev → R Ow} {g : Ev → R D} (ha : DE X W a f) (hb : DV X W b g) : DE X W (.BinOp a .Mult b pos) (eRep f g) := by
  obtain ⟨ta, pa, sa⟩ := ha
  obtain ⟨tb, pb, sb⟩ := hb
  refine ⟨_, pe_op op_rep pa pb, fun F H σ env fp Q sat h => ?_⟩
  unfold eRep at h
  refine sa.go sat h fun o v F1 H1 sat1 q _ h1 => ?_
  refine sb.go sat1 h1 fun d u F2 H2 sat2 q2 x2 h2 => ?_
  unfold repO at h2
  split at h2
  · rename_i os k
    split at h2
    · rename_i ds he
      obtain ⟨⟨c1, c2, c3⟩, h3⟩ := guard_post h2
      obtain ⟨fo, ow, _, _⟩ := q
      cases dp_int q2
      have eo := unDs_eq he
      subst eo
      cases ow with
      | l m1 m2 m3 =>
        have la := OwnAll.len m3
        refine ⟨_, _, _, rfl, rfl, x2.hh _ _ m2, c1, c2, by rw [la]; exact c3, fun p hp => ?_⟩
        have d2 := DpAll.rep (dpaUp (OwnAll.dp m3).1 x2.ff) k.toNat
        exact h3 _ F2 _ (Ext.own sat2.fh hp _) (own_l sat2.fh hp d2)
    · exact h2.elim
  · exact h2.elim

def eAug (h : D → D → Option D) (i : Nat) (f : Ev → R D) (env : Ev) : R D := (eVar i env).bind fun x => (f env).bind fun y => R.of (h x y)
def sAug (h : D → D → Option D) (i : Nat) (f : Ev → R D) (env : Ev) : SR := (eAug h i f env).st env fun d => if i < env.length then .nx (env.set i (some (.d d))) else .no
theorem ds_aug {f : Ev → R D} {g : D → D → Option D} {op : Operator} {r : R2} (i : Nat) (ho : OpR X (inplaceOp op) r) (hs : OpS X.KK r g) (hN : X.N.Nodup) (he : DV X W e f) (hi : X.N[i]? = some x := by rfl) (hx : Loc X.env.scope x := by first | exact Or.inl rfl | exact Or.inr rfl)
    (hf : X.fn x = true ∨ X.env.scope.names.lookup x = some .local := by first | exact .inl rfl | exact .inr rfl | assumption) (hS : S i = true := by rfl) : DS X W S (.AugAssign (.Name x npos) op e pos) (sAug g i f) := by
  obtain ⟨t, p, s⟩ := he
  refine ⟨_, ps_aug hN hi hx p ho hf, fun F H σ env fp D sat h => ?_⟩
  unfold sAug eAug at h
  cases e1 : eVar i env with
  | no => rw [e1] at h; exact h.elim
  | ex c => exact absurd e1 (by unfold eVar; split <;> intro z <;> cases z)
  | ok dx =>
    rw [e1] at h
    have e2 : env[i]? = some (some (.d dx)) := by
      unfold eVar at e1
      split at e1
      · rename_i d he; cases e1; exact he
      · cases e1
    obtain ⟨v, fo, h1, h2, _⟩ := sat.en.get e2
    refine ⟨v, h1, ?_⟩
    refine s F H σ env fp _ sat ?_
    cases ef : f env with
    | no => rw [ef] at h; exact h
    | ex c => rw [ef] at h; exact fun C F' H' m x => h C σ F' H' fp m (.refl _ _) (StepS.of_ext x fp) (sat.ext x)
    | ok dy =>
      rw [ef] at h
      have h : PostS X W S σ F H fp D ((R.of (g dx dy)).st env fun d => if i < env.length then .nx (env.set i (some (.d d))) else .no) := h
      intro u F1 H1 x1 q
      cases eg : g dx dy with
      | none => rw [eg] at h; exact h.elim
      | some dz =>
        rw [eg] at h
        have h : PostS X W S σ F H fp D (if i < env.length then .nx (env.set i (some (.d dz))) else .no) := h
        split at h
        · cases h2 with
          | d hd =>
            refine hs H1 v u dx dy dz _ (dpUp (dpUp hd x1.ff) x1.fh) q eg fun z q2 => ?_
            obtain ⟨fp', s1, s2⟩ := put_step sat x1 (.d (q2 F1)) List.nodup_nil (fun _ z => nomatch z) ‹_›
            exact h _ F1 H1 fp' (.set hS _) s1 s2
        · exact h.elim
end
end Mir
end
set_option Elab.async false
set_option linter.all false
set_option maxRecDepth 100000
set_option maxHeartbeats 4000000
noncomputable section
namespace Mir
open PySem PySem.Spec L2

section
variable {K : Kw} {F H : Hp} {σ : L2.St} {env : Ev} {fp : List Addr}
theorem set_selfV {vs : List V} {j : Nat} {v : V} (h : vs[j]? = some v) : vs.set j v = vs := by
  refine List.ext_getElem? fun k => ?_
  by_cases hk : j = k
  · subst hk
    rw [List.getElem?_set_self (List.getElem?_eq_some_iff.mp h).1]
    exact h.symm
  · rw [List.getElem?_set_ne hk]
theorem OwnAll.drop' {F H : Hp} : ∀ {os : List Ow} {vs : List V} {fp : List Addr} (n : Nat) {v : V} {r : Ow} {fx : List Addr}, OwnAll K F H vs os fp → OwnAt K F H v r fx → fp.Nodup → fx.Nodup → (∀ b ∈ fx, b ∉ fp) →
    ∃ fp', OwnAll K F H (vs.take n ++ [v] ++ vs.drop n) (os.take n ++ [r] ++ os.drop n) fp' ∧ fp'.Nodup ∧ ∀ b ∈ fp', b ∈ fp ∨ b ∈ fx
  | os, vs, fp, 0, v, r, fx, h, g, n1, n2, dj => by
    refine ⟨fx ++ fp, ?_, ?_, fun b hb => (List.mem_append.mp hb).symm⟩
    · simpa using OwnAll.cons g h
    · rw [List.nodup_append]; exact ⟨n2, n1, fun a ha b hb e => dj a ha (e ▸ hb)⟩
  | [], _, _, n + 1, v, r, fx, h, g, n1, n2, dj => by
    cases h
    exact ⟨fx ++ [], by simpa using OwnAll.cons g .nil, by simpa using n2, fun b hb => .inr (by simpa using hb)⟩
  | o :: os, _, _, n + 1, v, r, fx, h, g, n1, n2, dj => by
    cases h with
    | @cons w ws _ _ f1 fs h1 h2 =>
      rw [List.nodup_append] at n1
      obtain ⟨m1, m2, m3⟩ := n1
      obtain ⟨fp', a, b, c⟩ := OwnAll.drop' n h2 g m2 n2 fun b hb z => dj b hb (List.mem_append_right _ z)
      refine ⟨f1 ++ fp', by simpa using OwnAll.cons h1 a, ?_, fun x hx => ?_⟩
      · rw [List.nodup_append]
        refine ⟨m1, b, fun x hx y hy e => ?_⟩
        subst e
        rcases c x hy with z | z
        · exact m3 x hx x z rfl
        · exact dj x z (List.mem_append_left _ hx)
      · rcases List.mem_append.mp hx with z | z
        · exact .inl (List.mem_append_left _ z)
        · exact (c x z).imp (List.mem_append_right _) id
end
section
variable {X : Cx} {W : WX} {S : Nat → Bool} {e k : Expr} {pos cpos apos npos tpos : Pos} {x : Str}
def insO (os : List Ow) (r : Ow) (n : Int) : Option (List Ow) := if os.length < sizeLine ∧ 0 ≤ n ∧ n < 2 ^ 63 then some (os.take n.toNat ++ [r] ++ os.drop n.toNat) else none
theorem ds_setLc {elt tg iter : Expr} {ifs : List Expr} {scope : Scope} {own : List (Str × Nat)} {g : D → Ev → Option Ev} {fi : Ev → R (List D)} {fc : Ev → R Bool} {fe : Ev → R Ow} {ix : List Nat} {y : Str} {py spos : Pos} (i : Nat) (hc : X.calm = true) (hN : X.N.Nodup) (hi : DI X W tg iter fi) (ok : BlkOk X.N X.env.scope scope own)
    (hg : ∀ (s : Shared) (H : Hp) (C : Addr) (cl : List (Str × Addr)) (fp : List Addr), DG (X.blk s H scope (compEnvC scope cl C X.env) fp) tg ix g) (ht : ∀ (s : Shared) (H : Hp) (C : Addr) (cl : List (Str × Addr)) (fp : List Addr), DTs (X.blk s H scope (compEnvC scope cl C X.env) fp) W0 ifs fc)
    (he : ∀ (s : Shared) (H : Hp) (C : Addr) (cl : List (Str × Addr)) (fp : List Addr), DE (X.blk s H scope (compEnvC scope cl C X.env) fp) W0 elt fe) (hix : ∀ i ∈ ix, i ∈ own.map (·.2) := by decide) (hs : ∀ x, foldedSetIterable iter X.env x = pure x := by intro _; rfl)
    (hy : X.N[i]? = some y := by rfl) (hyl : X.env.scope.names.lookup y = some .local := by rfl) (hsw : swapsWith (.ListComp elt [⟨tg, iter, ifs, 0⟩] scope pos) (some (.Name y py)) spos.line X.env = pure true := by exact sw_true rfl rfl rfl (by decide +kernel)) (hS : S i = true := by rfl) :
    DS X W S (.Assign [.Name y py] (.ListComp elt [⟨tg, iter, ifs, 0⟩] scope pos) spos) (sSet i (eLc fi g fc fe (own.map (·.2)))) := by
  obtain ⟨wi, pi, si⟩ := hi
  refine ⟨_, ps_setLc (g := tgOf X.KK ix g) (tt := tOf X.KK (Post X W0 PTb) fc) (te := tOf X.KK (Post X W0 (POw X.KK)) fe) hc hN hy hyl hsw pi ok (fun s H C cl fp => hg s H C cl fp) (fun s H C cl fp => (ht s H C cl fp).can) (fun s H C cl fp => (he s H C cl fp).can) hs, fun F H σ env fp D sat h => ?_⟩
  refine de_lc_core si hix F H σ env fp _ sat ?_
  unfold sSet at h
  cases e : eLc fi g fc fe (own.map (·.2)) env with
  | no => rw [e] at h; exact h
  | ex c => rw [e] at h; exact fun C F' H' m x => h C σ F' H' fp m (.refl _ _) (StepS.of_ext x fp) (sat.ext x)
  | ok r =>
    rw [e] at h
    intro v F' H' x ⟨fx, q, nd, n⟩
    have h' : PostS X W S σ F H fp D (if i < env.length then .nx (env.set i (some r)) else .no) := h
    split at h'
    · obtain ⟨fp', s1, s2⟩ := put_step sat x q nd n ‹_›
      exact h' _ F' H' fp' (.set hS _) s1 s2
    · exact h'.elim
end
end Mir
end
set_option Elab.async false
set_option linter.all false
set_option maxRecDepth 100000
set_option maxHeartbeats 4000000
noncomputable section
namespace Mir
open PySem PySem.Spec PySem.W PySem.Calls PyProof.Rows PySem.SeqAt

section
variable {prog : Program} {w : World} {A : Around} {E : Value → Shared → Prop} {s : Shared}
theorem call_tuple_lt {Q : Value → Shared → Prop} {l b : Addr} {items items2 : Array Value} {e r : Nat → Bool} (hl : s.heap.IsTuple l items) (hb : s.heap.IsTuple b items2)
    (he : ∀ j (h1 : j < items.size) (h2 : j < items2.size), SeqAt.EqAt A.in1 s items[j] items2[j] (e j)) (hr : ∀ j (h1 : j < items.size) (h2 : j < items2.size), e j = false → RcLt A.in1 s items[j] items2[j] (r j))
    (h : Q (.bool (firstLt e r (decide (items.size < items2.size)) (List.range (min items.size items2.size)))) s) : wpAny (model prog w) A (call (.builtin "tuple.__lt__") [.ref l, .ref b]) Q E s := by
  obtain ⟨⟨cls, dd, data, sl⟩, ho, hc, n, hd⟩ := id hl
  obtain ⟨⟨cls2, dd2, data2, sl2⟩, ho2, hc2, n2, hd2⟩ := id hb
  simp only at hc hd hc2 hd2
  subst hc hd hc2 hd2
  exact call_meets F.slot_tuple_lt ⟨_, ho, rfl⟩ F.entry_tuple_lt (F.args_tuple_lt_2 _ _) (tuple_ltAt l b items items2 n n2 dd dd2 sl sl2 e r)
    ⟨ho, ho2, he, hr, h⟩
theorem oneLt_tuples {xs ys : List PyData} {a b : Value} {as bs : List Addr} {Q : Bool → Shared → Prop} (ra : Reads s.heap a (.tuple xs) as) (rb : Reads s.heap b (.tuple ys) bs) (hal : alikeAll xs ys = true)
    (hu : A.units + min (PyData.tuple xs).depth (PyData.tuple ys).depth < cLine) (hq : Q (dataLt (.tuple xs) (.tuple ys)) s) : wpAny (model prog w) A (oneLt' true a b) Q E s := by
  cases ra with
  | @tuple l o vs n _ as₁ h1 h2 h3 h4 =>
    cases rb with
    | @tuple l' o' vs' n' _ bs₁ k1 k2 k3 k4 =>
      have n1 : vs.size = xs.length := by simpa using SeqAt.ReadsAll.length _ _ _ h4
      have n2 : vs'.size = ys.length := by simpa using SeqAt.ReadsAll.length _ _ _ k4
      rw [dataLt_tuple, ← firstLt_toks xs ys hal, ← n1, ← n2] at hq
      rw [oneLt'_eq]
      simp only [if_true]
      refine wpAny_bind (wpAny_cRoomFor (SeqAt.room_here hu) ?_)
      refine wpAny_bind (wpAny_callSpecialIfBound?_slot (T := "tuple") ⟨_, h1, h2⟩ F.slot_tuple_lt (call_tuple_lt (e := SeqAt.pairEq xs ys) (r := fun j => dataLt (xs.getD j .none) (ys.getD j .none)) ⟨_, h1, h2, _, h3⟩ ⟨_, k1, k2, _, k3⟩ (fun j j1 j2 => ?_) (fun j j1 j2 hj => ?_) ?_))
      · have := eqAt_alikeAll xs ys A.in1 s vs.toList vs'.toList _ _ h4 k4 hal (SeqAt.room_in hu) j (by simpa using j1) (by simpa using j2)
        simpa using this
      · have := rcLt_alikeAll xs ys A.in1 s vs.toList vs'.toList _ _ h4 k4 hal (SeqAt.room_in hu) j (by simpa using j1) (by simpa using j2) hj
        simpa using this
      · exact wpAny_truthy_bool hq
end
section
variable {prog : Program} {w : World} {A : Around} {s : Shared}
def neD : PyData → Bool
  | .tuple [] => false
  | _ => true
theorem firsts_tup {M : Model} : ∀ {vs : List Value} {ds : List PyData}, EachIs (fun v d => ∃ as, Reads s.heap v d as) vs ds → (∀ d, d ∈ ds → ∃ xs, d = .tuple xs) → ∃ fs : List (Option Value), fs.map Option.isSome = ds.map neD ∧ ∀ (A : Around) (E : Value → Shared → Prop) (Q : List (Option Value) → Shared → Prop), Q fs s → wpAny M A (vs.mapM firstOfTuple') Q E s
  | _, _, .nil, _ => ⟨[], rfl, fun A E Q h => by rw [List.mapM_nil]; exact wpAny_pure h⟩
  | _, _, .cons (a := v) (b := d) (as := vs) (bs := ds) ⟨as, r⟩ t, ht => by
    obtain ⟨fs, h1, h2⟩ := firsts_tup (M := M) t fun d hd => ht d (List.mem_cons_of_mem _ hd)
    obtain ⟨xs, rfl⟩ := ht d List.mem_cons_self
    cases r with
    | @tuple a o ys n _ _ ho hc hd hr =>
      refine ⟨ys[0]? :: fs, ?_, fun A E Q h => ?_⟩
      · rw [List.map_cons, List.map_cons, h1]
        congr 1
        cases xs with
        | nil =>
          have e : ys.toList = [] := by cases q : ys.toList with | nil => rfl | cons u us => rw [q] at hr; cases hr
          have e2 : ys[0]? = none := by rw [← Array.getElem?_toList, e]; rfl
          rw [e2]; rfl
        | cons x r =>
          cases q : ys.toList with
          | nil => rw [q] at hr; cases hr
          | cons u us =>
            have e2 : ys[0]? = some u := by rw [← Array.getElem?_toList, q]; rfl
            rw [e2]; rfl
      · rw [List.mapM_cons]
        refine wpAny_bind ?_
        rw [kas_first_eq]
        refine wpAny_bind (Looks.here (show Looks M s.heap (typeOf (.ref a)) o.cls from (Looks.ld ho).andThen .now) ?_)
        rw [hc, if_neg (by first | decide | simp)]
        refine wpAny_bind (listItems_at ho hd (wpAny_pure ?_))
        exact wpAny_bind (h2 A E (fun bs s' => wpAny M A (pure (ys[0]? :: bs)) Q E s') (wpAny_pure h))
/-- tuples that read as alike data can be sorted -/
theorem sortsAt_tuples {vs : List Value} {ds : List PyData} (e : EachIs (fun v d => ∃ as, Reads s.heap v d as) vs ds) (hal : AllAlike ds) (ht : ∀ d, d ∈ ds → ∃ xs, d = .tuple xs) (hu : ∀ d, d ∈ ds → A.units + d.depth < cLine) : SortsAt prog w A s (dataKind s.heap ds) vs := by
  by_cases hne : ∀ d, d ∈ ds → ∃ x r, d = .tuple (x :: r)
  · exact SortsAt.data e hal (.inl hne) hu
  have room : ∀ {d d' : PyData}, d ∈ ds → A.units + min d.depth d'.depth < cLine := fun {d d'} hd => Nat.lt_of_le_of_lt (Nat.add_le_add_left (Nat.min_le_left _ _) _) (hu d hd)
  obtain ⟨fs, h1, h2⟩ := firsts_tup (M := model prog w) e ht
  have hnall : (fs.toArray.all fun x => x.isSome) = false := by
    rw [List.all_toArray, Bool.eq_false_iff]
    intro hall
    refine hne fun d hd => ?_
    obtain ⟨xs, rfl⟩ := ht d hd
    cases xs with
    | cons x r => exact ⟨x, r, rfl⟩
    | nil =>
      have : neD (.tuple []) ∈ ds.map neD := List.mem_map_of_mem hd
      rw [← h1] at this
      obtain ⟨f, f1, f2⟩ := List.mem_map.mp this
      have := List.all_eq_true.mp hall f f1
      rw [f2] at this
      cases this
  have hkeys : ∀ v, v ∈ vs → ∃ a, (dataKind s.heap ds).keyOf v = some a := fun v hv => by
    obtain ⟨d, hd, as, r⟩ := e.left v hv
    exact ⟨_, dataKind_some hal hd r⟩
  have hty : ∀ v ∈ vs, Looks (model prog w) s.heap (typeOf v) (.type "tuple") := fun v hv => by
    obtain ⟨d, hd, as, r⟩ := e.left v hv
    obtain ⟨xs, rfl⟩ := ht d hd
    exact looks_reads r
  by_cases hf : ((fs.toArray)[0]?.bind id).isSome = true
  · refine ⟨hkeys, general', ?_, fun h2' E Q hq => ?_⟩
    · intro E x y a b Q ha hb hq
      obtain ⟨d, as, hd, ra, rfl⟩ := dataKind_inv ha
      obtain ⟨d', as', hd', rb, rfl⟩ := dataKind_inv hb
      obtain ⟨xs, rfl⟩ := ht d hd
      show wpAny (model prog w) A (oneLt' false x y) Q E s
      exact oneLt_alike (fun z => by cases z) ra rb (hal _ hd d' hd') (by intro z; cases z) (room hd) hq
    · rw [kat_kind_eq, List.mapM_toArray, map_eq_pure_bind]
      refine wpAny_bind (wpAny_bind (h2 A E _ (wpAny_pure ?_)))
      rw [if_neg (by rw [hnall]; exact Bool.false_ne_true), if_pos hf]
      exact wpAny_pure hq
  · refine ⟨hkeys, oneType', ?_, fun h2' E Q hq => ?_⟩
    · intro E x y a b Q ha hb hq
      obtain ⟨d, as, hd, ra, rfl⟩ := dataKind_inv ha
      obtain ⟨d', as', hd', rb, rfl⟩ := dataKind_inv hb
      have hdd := hal d hd d' hd'
      have hroom := room (d' := d') hd
      obtain ⟨xs, rfl⟩ := ht d hd
      obtain ⟨ys, rfl⟩ := ht d' hd'
      rw [keyLt'_oneType]
      exact oneLt_tuples ra rb (by simpa [alike] using hdd) hroom hq
    · rw [kat_kind_eq, List.mapM_toArray, map_eq_pure_bind]
      refine wpAny_bind (wpAny_bind (h2 A E _ (wpAny_pure ?_)))
      rw [if_neg (by rw [hnall]; exact Bool.false_ne_true), if_neg hf]
      rw [oneTypeOnly'_eq, List.mapM_toArray, map_eq_pure_bind]
      refine wpAny_bind (wpAny_bind (wpAny_bind (kas_mapM (r := Value.type "tuple") _ (fun v hv Q' hq => (hty v hv).here hq) (wpAny_pure ?_))))
      obtain ⟨v0, vr, rfl⟩ : ∃ v0 vr, vs = v0 :: vr := by
        match vs, h2' with
        | [], h2 => simp at h2
        | v :: r, _ => exact ⟨v, r, rfl⟩
      have hall : ((List.map (fun _ => Value.type "tuple") (v0 :: vr)).toArray.all fun x => x == Value.type "tuple") = true := by
        simp only [List.all_toArray, List.all_map, List.all_eq_true]
        intro _ _
        exact beq_self_eq_true _
      have h0 : (List.map (fun _ => Value.type "tuple") (v0 :: vr)).toArray[0]? = some (Value.type "tuple") := by simp
      rw [h0]
      simp only [hall, if_true]
      exact wpAny_pure (wpAny_pure hq)
end
end Mir
namespace Mir
open PySem PySem.Spec L2
abbrev sortedD (ds : List D) : List D := ds.mergeSort (PySem.W.dataLe false id)
def tupB : D → Bool
  | .tuple _ => true
  | _ => false
def plainB : D → Bool
  | .tuple _ => false
  | .none => false
  | _ => true
def sortOk (ds : List D) : Bool := (ds.all fun d => ds.all fun e => PySem.W.alike d e) && (ds.all tupB || ds.all plainB) && (ds.all fun d => decide (d.depth ≤ 130))
def gSorted : List D → Option Ow
  | [.list ds] => if sortOk ds = true then some (.l ((sortedD ds).map Ow.d)) else none
  | _ => none
def rSortD (K : Kw) : List V → Hp → VK → Prop := fun vs H Q => ∃ (a : Addr) (xs : List V) (ds : List D) (T : V → D → Prop), vs = [V.ref a] ∧ SqL K H a xs ∧ DpAll K H xs ds ∧ sortOk ds = true ∧ PySem.W.EachIs T xs ds ∧
  ∀ (ys : List V) (p : Addr), H p = none → PySem.W.EachIs T ys (sortedD ds) → Q (.ref p) (upd H p (.lst ys))
section
variable {X : Cx} {W : WX}
theorem each_vals {T : V → D → Prop} : ∀ {xs : List V} {vs : List Value} {ds : List D}, Vals xs vs → PySem.W.EachIs T xs ds → PySem.W.EachIs (fun v d => ∃ x, RelV x v ∧ T x d) vs ds
  | _, _, _, .nil, .nil => .nil
  | _, _, _, .cons r t, .cons h g => .cons ⟨_, r, h⟩ (each_vals t g)
theorem vals_each {T : V → D → Prop} : ∀ {vs : List Value} {ds : List D}, PySem.W.EachIs (fun v d => ∃ x, RelV x v ∧ T x d) vs ds → ∃ xs, Vals xs vs ∧ PySem.W.EachIs T xs ds
  | _, _, .nil => ⟨[], .nil, .nil⟩
  | _, _, .cons ⟨x, r, h⟩ g => by
    obtain ⟨xs, a, b⟩ := vals_each g
    exact ⟨x :: xs, .cons r a, .cons h b⟩
mutual
theorem Dp.kit_alike {K : Kw} {H : Hp} : ∀ (d : D) (v : V), Dp K H v d → PySem.W.alike d d = true → L2.Dp K H v d
  | .none, _, h, _ => by cases h; exact .non
  | .bool b, _, h, _ => by cases h; exact .bl b
  | .int b, _, h, _ => by cases h; exact .int b
  | .str b, _, h, _ => by cases h; exact .str b
  | .list ds, _, h, c => by
    cases h with
    | lst hs ha => exact .lst hs (DpAll.kit_alike ds _ ha (by rw [PySem.W.alike] at c; exact c))
  | .tuple ds, _, h, c => by
    cases h with
    | tup hs ha => exact .tup hs (DpAll.kit_alike ds _ ha (by rw [PySem.W.alike] at c; exact c))
  | .dict _, _, _, c => by simp [PySem.W.alike] at c
theorem DpAll.kit_alike {K : Kw} {H : Hp} : ∀ (ds : List D) (vs : List V), DpAll K H vs ds → PySem.W.alikeAll ds ds = true → L2.DpAll K H vs ds
  | [], _, h, _ => by cases h; exact .nil
  | d :: ds, _, h, c => by
    rw [PySem.W.alikeAll, Bool.and_eq_true] at c
    cases h with
    | cons h1 h2 => exact .cons (Dp.kit_alike d _ h1 c.1) (DpAll.kit_alike ds _ h2 c.2)
end
theorem each_reads {pins : List (Addr × Obj)} {s : Shared} {σ : L2.St} {H : Hp} (I : Inv X pins σ H s) : ∀ {xs : List V} {vs : List Value} {ds : List D}, Vals xs vs → DpAll X.KK H xs ds → (∀ d ∈ ds, PySem.W.alike d d = true) → PySem.W.EachIs (fun v d => ∃ as, PySem.Reads s.heap v d as) vs ds
  | _, _, _, .nil, h, _ => by cases h; exact .nil
  | _, _, _, .cons r t, h, c => by
    cases h with
    | cons h1 h2 => exact .cons (L2.Dp.reads I _ _ _ (Dp.kit_alike _ _ h1 (c _ List.mem_cons_self)) r) (each_reads I t h2 fun d hd => c d (List.mem_cons_of_mem _ hd))
theorem sortOk_cases {ds : List D} (h : sortOk ds = true) : PySem.W.AllAlike ds ∧ ((∀ d, d ∈ ds → ∃ xs, d = .tuple xs) ∨ ∀ d, d ∈ ds → d ≠ .none ∧ ∀ xs, d ≠ .tuple xs) ∧ ∀ d, d ∈ ds → d.depth ≤ 130 := by
  unfold sortOk at h
  simp only [Bool.and_eq_true, Bool.or_eq_true, List.all_eq_true, decide_eq_true_eq] at h
  obtain ⟨⟨h1, h2⟩, h3⟩ := h
  refine ⟨h1, h2.imp (fun h d hd => ?_) (fun h d hd => ?_), h3⟩
  · have := h d hd
    cases d <;> first | exact ⟨_, rfl⟩ | cases this
  · have := h d hd
    cases d with
    | none => cases this
    | tuple _ => cases this
    | _ => exact ⟨nofun, nofun⟩
theorem cr_sortD (hu : X.A.units + 140 < cLine) : CallR X (.builtin "sorted") (rSortD X.KK) := by
  intro pins s σ H vs us Q I r h
  obtain ⟨a, xs, ds, T, rfl, hs, hx, ok, hT, q⟩ := h
  obtain ⟨its, rv, hl, hz⟩ := I.list hs
  rw [Vals.ref1 r]
  obtain ⟨hal, hk, hd⟩ := sortOk_cases ok
  have er := each_reads I rv hx fun d hd => hal d hd d hd
  have e := each_vals rv hT
  have hL : its.length ≤ sizeLine := by rw [← rv.length]; exact hz
  have fin : ∀ out, out.length = ds.length → PySem.W.EachIs (fun v d => ∃ x, RelV x v ∧ T x d) out (sortedD ds) → EP X pins σ Q (.ref (s.heap.objs.size + 1)) { s with heap := PyProof.Rows.sortedAll s.heap its out.toArray } := fun out h1 h2 => by
    obtain ⟨ys, h3, h4⟩ := vals_each h2
    have hn : H (s.heap.objs.size + 1) = none := I.hok.fresh (Nat.le_succ _)
    obtain ⟨n, hn2⟩ := PyProof.Rows.sortedAll_at s.heap its out.toArray
    refine ⟨.ref (s.heap.objs.size + 1), upd H (s.heap.objs.size + 1) (.lst ys), I.laid (t' := s.toks) (fun b o e => PyProof.Rows.sortedAll_old e) (Nat.le_succ _) ⟨?_, out, n, h3, hn2⟩, rfl, q ys _ hn h4⟩
    rw [h3.length, h1, ← er.length]
    exact hL
  have er' : PySem.W.EachIs (fun v b => ∃ as, PySem.Reads (PySem.W.sortingHeap (PySem.W.copyHeap s.heap its) (s.heap.objs.size + 1) its) v (id b) as) its ds := er.mono fun _ _ ⟨as, r⟩ => ⟨as, PyProof.Rows.Reads.keeps (fun _ _ => PySem.W.sorting_copy_old) r⟩
  have hb : ∀ d, d ∈ ds → X.A.in1.in1.units + d.depth < cLine := fun d m => by
    have := hd d m
    show X.A.units + 1 + 1 + d.depth < cLine
    omega
  refine PySem.W.sorted_vals (κ := PySem.W.dataKind (PySem.W.sortingHeap (PySem.W.copyHeap s.heap its) (s.heap.objs.size + 1) its) ds) hl.isList ?_ hL (fin _ ?_ ?_)
  · rcases hk with hk | hk
    · exact sortsAt_tuples (s := { s with heap := PySem.W.sortingHeap (PySem.W.copyHeap s.heap its) (s.heap.objs.size + 1) its }) er' hal hk hb
    · exact PySem.W.SortsAt.data (s := { s with heap := PySem.W.sortingHeap (PySem.W.copyHeap s.heap its) (s.heap.objs.size + 1) its }) er' hal (.inr hk) hb
  · rw [PySem.W.sortVals_length false rfl]; exact er.length
  · have z := PySem.W.sortVals_data (enc := (id : D → D)) (bs := ds) false e er' (by simpa using hal)
    simpa using z
theorem each_dpAll {F : Hp} : ∀ {xs : List V} {ds : List D}, DpAll X.KK F xs ds → PySem.W.EachIs (Dp X.KK F) xs ds
  | _, [], h => by cases h; exact .nil
  | _, d :: ds, h => by
    cases h with
    | cons h1 h2 => exact .cons h1 (each_dpAll h2)
theorem dpAll_each {F : Hp} : ∀ {xs : List V} {ds : List D}, PySem.W.EachIs (Dp X.KK F) xs ds → DpAll X.KK F xs ds
  | _, _, .nil => .nil
  | _, _, .cons h g => .cons h (dpAll_each g)
theorem caG_sorted : CaG X.KK (rSortD X.KK) gSorted := by
  intro F H vs ds o Q s h e q
  unfold gSorted at e
  split at e
  · split at e
    · rename_i es c
      cases e
      obtain ⟨v, rfl, p, ws, rfl, p1, p2⟩ := psqs1 h
      refine ⟨p, ws, es, Dp X.KK F, rfl, p1, dpaUp p2 s, c, each_dpAll p2, fun ys a ha hy => ?_⟩
      exact q _ _ _ (Ext.own s ha _) (own_l s ha (dpAll_each hy))
    · cases e
  · cases e
theorem de_sorted {x : Expr} {p pos : Pos} {f : Ev → R (List D)} (hu : X.A.units + 140 < cLine) (hg : Gl X "sorted") (hm : X.mg "sorted" = none) (ha : DAl X W [x] f) (he : starEach [x] X.env = (false, eval x X.env) :: starEach [] X.env := by rfl) : DE X W (.Call (.Name "sorted" p) [x] [] pos) (eCa gSorted f) :=
  de_callB (cr_sortD hu) caG_sorted hg hm (by first | rfl | decide +kernel) ha (he := he)
end
end Mir
end
set_option Elab.async false
set_option linter.all false
set_option maxRecDepth 100000
set_option maxHeartbeats 4000000
noncomputable section
namespace Mir
open PySem PySem.Spec L2

open Classical in
section
variable {X : Cx} {W : WX} {S : Nat → Bool} {pos npos : Pos} {x : Str} {fs : Ev → SR}
end
end Mir
end
set_option Elab.async false
set_option linter.all false
set_option maxRecDepth 100000
set_option maxHeartbeats 4000000
noncomputable section
namespace Mir
open PySem PySem.Spec L2

def spL (K : Kw) (m : List D → R Ow) : Sp := fun vs H Q _ => ∃ F ds r, Same F H ∧ DpAll K F vs ds ∧ ds.length = 1 ∧ m ds = .ok r ∧ ∀ v F' H', Ext F H F' H' → POw K H r v F' H' → Q v H'
theorem fnOk_spL {P : Program} {w : World} {K : PySem.W.Frag} {mg : Str → Option Value} {base : Heap} {CX : CXT} {k : Nat} {f : Addr} {fd : FuncData} {ps : List Str} {m : List D → R Ow} (h : FnOk P w K mg base CX k f fd ps (spM ⟨K, w⟩ mg 1 m)) : FnOk P w K mg base CX k f fd ps (spL ⟨K, w⟩ m) :=
  h.imp fun vs H Q E ⟨F, ds, r, h1, h2, h3, h4, h5⟩ => ⟨F, ds, h1, h2, h3, by rw [h4]; exact h5⟩
theorem law_end {l : PySem.W.OpenLaw} {q : Program} {loose : List Str} {XP : (Str → Option Value) → Heap → Prop} {YP : World → Heap → Prop} {d : DefRec} {K : Params → PySem.W.Frag} {m : List D → R Ow} (k : Nat) (x : Str) (hn : l.most = some 63) (hdf : d.params.defaults = []) (hr : Room k callerA)
    (hY : ∀ (w : World) (h : Heap), YP w h → (K w.params).In h)
    (hm : ∀ ns : List Int, ns.length ≤ 63 → (∀ z ∈ ns, Builtin.Int.intBits z ≤ 1048576) → m [.list (ns.map .int)] = .ok (.d (.bool true)))
    (F : ∀ (w : World) (mg : Str → Option Value) (fa : Addr) (h : Heap), (K w.params).In h → h.Ns PySem.mainGlobals mg → mg d.name = some (.ref fa) →
      ∃ fd : FuncData, (∀ (s : Shared) (u : Value), BindsTo s fd ⟨[u], []⟩ [(x, u)]) ∧ ∀ base : Heap, (K w.params).In base → base.Ns PySem.mainGlobals mg → FnOk l.prog w (K w.params) mg base (L2.CX l.prog w) k fa fd [x] (spM ⟨K w.params, w⟩ mg 1 m)) :
    PySem.W.WalkO q loose XP YP l.row.toRowW d [] (fun f vs => PySem.call f vs) := by
  refine L2.walk_ofB (n := 63) (k := k) (x := x) (CX := fun w => L2.CX l.prog w) (sp := fun w => spL ⟨K w.params, w⟩ m) hn (by decide) hdf hr hY (fun w mg fa h a b c => ?_) (fun w H a ns hl hb _ hS => ?_) fun w H s e s' z => ?_
  · obtain ⟨fd, h1, h2⟩ := F w mg fa h a b c
    exact ⟨fd, h1, fun base p q => fnOk_spL (h2 base p q)⟩
  · refine ⟨H, [.list (ns.map .int)], _, Same.refl _, .cons (.lst hS (DpAll.of_ints ns)) .nil, rfl, hm ns hl hb, fun v F' H' _ ⟨fp, ow, _⟩ => ?_⟩
    cases ow with
    | d h => cases h; rfl
  · obtain ⟨_, _, _, _, _, _, _, _, _, _, _, _, z⟩ := z
    exact z
theorem room_eq {k : Nat} {A : Around} (r : Room k A) : A.units + 140 < cLine := by have := r.un; omega
end Mir
end
set_option Elab.async false
set_option linter.all false
set_option maxRecDepth 100000
set_option maxHeartbeats 4000000
noncomputable section
namespace Mir
open PySem PySem.Spec L2
section
variable {X : Cx} {W : WX} {S : Nat → Bool}
def gAddA : D → D → Option D
  | .int i, .int j => some (.int (i + j))
  | .str x, .str y => if x.length + y.length ≤ sizeLine then some (.str (x ++ y)) else none
  | _, _ => none
theorem iop_addA : OpR X (inplaceOp .Add) (fun x y H Q => rI0 (fun i j => .int (i + j)) x y H Q ∨ ∃ i j, x = .str i ∧ y = .str j ∧ i.length + j.length ≤ sizeLine ∧ Q (.str (i ++ j)) H) := OpR.or iop_add iop_add_str
theorem opS_addA {K : Kw} : OpS K (fun x y H Q => rI0 (fun i j => .int (i + j)) x y H Q ∨ ∃ i j, x = .str i ∧ y = .str j ∧ i.length + j.length ≤ sizeLine ∧ Q (.str (i ++ j)) H) gAddA := by
  intro H x y dx dy d Q hx hy e q
  unfold gAddA at e
  split at e
  · cases e
    cases dp_int hx
    cases dp_int hy
    exact .inl ⟨_, _, rfl, rfl, q _ fun F => .int _⟩
  · split at e
    · cases e
      cases dp_str hx
      cases dp_str hy
      exact .inr ⟨_, _, rfl, rfl, ‹_›, q _ fun F => .str _⟩
    · cases e
  · cases e
/-- name = [..], the list made data -/
theorem ds_setLcF {elt tg iter : Expr} {ifs : List Expr} {scope : Scope} {own : List (Str × Nat)} {g : D → Ev → Option Ev} {fi : Ev → R (List D)} {fc : Ev → R Bool} {fe : Ev → R Ow} {ix : List Nat} {y : Str} {py spos pos : Pos} (i : Nat) (hc : X.calm = true) (hN : X.N.Nodup) (hi : DI X W tg iter fi) (ok : BlkOk X.N X.env.scope scope own)
    (hg : ∀ (s : Shared) (H : Hp) (C : Addr) (cl : List (Str × Addr)) (fp : List Addr), DG (X.blk s H scope (compEnvC scope cl C X.env) fp) tg ix g) (ht : ∀ (s : Shared) (H : Hp) (C : Addr) (cl : List (Str × Addr)) (fp : List Addr), DTs (X.blk s H scope (compEnvC scope cl C X.env) fp) W0 ifs fc)
    (he : ∀ (s : Shared) (H : Hp) (C : Addr) (cl : List (Str × Addr)) (fp : List Addr), DE (X.blk s H scope (compEnvC scope cl C X.env) fp) W0 elt fe) (hix : ∀ i ∈ ix, i ∈ own.map (·.2) := by decide) (hs : ∀ x, foldedSetIterable iter X.env x = pure x := by intro _; rfl)
    (hy : X.N[i]? = some y := by rfl) (hyl : X.env.scope.names.lookup y = some .local := by rfl) (hsw : swapsWith (.ListComp elt [⟨tg, iter, ifs, 0⟩] scope pos) (some (.Name y py)) spos.line X.env = pure true := by exact sw_true rfl rfl rfl (by decide +kernel)) (hS : S i = true := by rfl) :
    DS X W S (.Assign [.Name y py] (.ListComp elt [⟨tg, iter, ifs, 0⟩] scope pos) spos) (sSet i (eM (eM (eLc fi g fc fe (own.map (·.2))) viewD) Ow.d)) := by
  obtain ⟨wi, pi, si⟩ := hi
  refine ⟨_, ps_setLc (g := tgOf X.KK ix g) (tt := tOf X.KK (Post X W0 PTb) fc) (te := tOf X.KK (Post X W0 (POw X.KK)) fe) hc hN hy hyl hsw pi ok (fun s H C cl fp => hg s H C cl fp) (fun s H C cl fp => (ht s H C cl fp).can) (fun s H C cl fp => (he s H C cl fp).can) hs, fun F H σ env fp D sat h => ?_⟩
  refine de_lc_core si hix F H σ env fp _ sat ?_
  unfold sSet eM at h
  cases e : eLc fi g fc fe (own.map (·.2)) env with
  | no => rw [e] at h; exact h
  | ex c => rw [e] at h; exact fun C F' H' m x => h C σ F' H' fp m (.refl _ _) (StepS.of_ext x fp) (sat.ext x)
  | ok r =>
    rw [e] at h
    intro v F' H' x ⟨fx, q, nd, n⟩
    have h' : PostS X W S σ F H fp D (if i < env.length then .nx (env.set i (some (.d (viewD r)))) else .no) := h
    split at h'
    · obtain ⟨F2, x2, q2⟩ := x.freeze q n
      obtain ⟨fp', s1, s2⟩ := put_step sat x2 (.d q2) List.nodup_nil (fun _ z => nomatch z) ‹_›
      exact h' _ F2 H' fp' (.set hS _) s1 s2
    · exact h'.elim
end
end Mir
end
set_option Elab.async false
set_option linter.all false
set_option maxRecDepth 100000
set_option maxHeartbeats 4000000
noncomputable section
namespace Mir
open PySem PySem.Spec L2

section
variable {α β γ : Type} (env : Ev)
@[simp] theorem eB_eq (f : Ev → R α) (g : α → R β) : eB f g env = (f env).bind g := rfl
@[simp] theorem eM_eq (f : Ev → R α) (g : α → β) : eM f g env = (f env).map g := rfl
@[simp] theorem eC_eq (d : D) : eC d env = .ok d := rfl
@[simp] theorem aNil_eq : aNil env = .ok [] := rfl
@[simp] theorem aCons_eq (f : Ev → R D) (g : Ev → R (List D)) : aCons f g env = (f env).bind fun d => (g env).map fun ds => d :: ds := rfl
@[simp] theorem eTup_eq (f : Ev → R (List D)) : eTup f env = (f env).bind fun ds => guard (ds.length ≤ sizeLine) (.ok (.tuple ds)) := rfl
@[simp] theorem eLst_eq (f : Ev → R (List D)) : eLst f env = (f env).bind fun ds => guard (ds.length ≤ sizeLine) (.ok (.l (ds.map Ow.d))) := rfl
@[simp] theorem eBin_eq (g : D → D → Option D) (f h : Ev → R D) : eBin g f h env = (f env).bind fun x => (h env).bind fun y => R.of (g x y) := rfl
@[simp] theorem eBinO_eq (g : D → D → Option Ow) (f h : Ev → R D) : eBinO g f h env = (f env).bind fun x => (h env).bind fun y => R.of (g x y) := rfl
@[simp] theorem eCa_eq (g : List D → Option Ow) (f : Ev → R (List D)) : eCa g f env = (f env).bind fun ds => R.of (g ds) := rfl
@[simp] theorem eNot_eq (f : Ev → R D) : eNot f env = ((f env).bind asB).bind fun b => .ok (.bool !b) := rfl
@[simp] theorem eAnd_eq (f g : Ev → R D) : eAnd f g env = ((f env).bind asB).bind fun b => if b = true then g env else .ok (.bool false) := rfl
@[simp] theorem eOr_eq (f g : Ev → R D) : eOr f g env = ((f env).bind asB).bind fun b => if b = true then .ok (.bool true) else g env := rfl
@[simp] theorem eIf_eq (c : Ev → R Bool) (f g : Ev → R D) : eIf c f g env = (c env).bind fun b => if b = true then f env else g env := rfl
@[simp] theorem tNotE_eq (f : Ev → R Bool) : tNotE f env = (f env).map (!·) := rfl
@[simp] theorem tAndE_eq (f g : Ev → R Bool) : tAndE f g env = (f env).bind fun b => if b = true then g env else .ok false := rfl
@[simp] theorem tOrE_eq (f g : Ev → R Bool) : tOrE f g env = (f env).bind fun b => if b = true then .ok true else g env := rfl
@[simp] theorem eRep_eq (f : Ev → R Ow) (g : Ev → R D) : eRep f g env = (f env).bind fun o => (g env).bind fun d => repO o d := rfl
@[simp] theorem eIxO_eq (f : Ev → R Ow) (g : Ev → R D) : eIxO f g env = (f env).bind fun o => (g env).bind fun d => ixO o d := rfl
@[simp] theorem eSl_eq (f : Ev → R D) (l h : Ev → R (Option Int)) : eSl f l h env = (f env).bind fun x => (l env).bind fun i => (h env).bind fun j => R.of (gSl x i j) := rfl
@[simp] theorem oNone_eq : oNone env = .ok none := rfl
@[simp] theorem asI_eq (i : Int) : asI (.int i) = .ok (some i) := rfl
@[simp] theorem cYes_eq : cYes env = .ok true := rfl
@[simp] theorem eVar_0 (x : D) : eVar 0 (some (.d x) :: env) = .ok x := rfl
@[simp] theorem eVarO_0 (x : Ow) : eVarO 0 (some x :: env) = .ok x := rfl
@[simp] theorem eVar_s (i : Nat) (x : Option Ow) : eVar (i + 1) (x :: env) = eVar i env := by unfold eVar; rw [List.getElem?_cons_succ]
@[simp] theorem eVarO_s (i : Nat) (x : Option Ow) : eVarO (i + 1) (x :: env) = eVarO i env := by unfold eVarO; rw [List.getElem?_cons_succ]
@[simp] theorem eVar_1 (a : Option Ow) (x : D) : eVar 1 (a :: some (.d x) :: env) = .ok x := rfl
@[simp] theorem eVar_2 (a b : Option Ow) (x : D) : eVar 2 (a :: b :: some (.d x) :: env) = .ok x := rfl
@[simp] theorem eVar_3 (a b c : Option Ow) (x : D) : eVar 3 (a :: b :: c :: some (.d x) :: env) = .ok x := rfl
@[simp] theorem eVar_4 (a b c d : Option Ow) (x : D) : eVar 4 (a :: b :: c :: d :: some (.d x) :: env) = .ok x := rfl
@[simp] theorem eVar_5 (a b c d e : Option Ow) (x : D) : eVar 5 (a :: b :: c :: d :: e :: some (.d x) :: env) = .ok x := rfl
@[simp] theorem eVar_6 (a b c d e f : Option Ow) (x : D) : eVar 6 (a :: b :: c :: d :: e :: f :: some (.d x) :: env) = .ok x := rfl
@[simp] theorem eVar_7 (a b c d e f g : Option Ow) (x : D) : eVar 7 (a :: b :: c :: d :: e :: f :: g :: some (.d x) :: env) = .ok x := rfl
@[simp] theorem eVar_8 (a b c d e f g h : Option Ow) (x : D) : eVar 8 (a :: b :: c :: d :: e :: f :: g :: h :: some (.d x) :: env) = .ok x := rfl
@[simp] theorem eVar_9 (a b c d e f g h i : Option Ow) (x : D) : eVar 9 (a :: b :: c :: d :: e :: f :: g :: h :: i :: some (.d x) :: env) = .ok x := rfl
@[simp] theorem eVarO_1 (a : Option Ow) (x : Ow) : eVarO 1 (a :: some x :: env) = .ok x := rfl
@[simp] theorem eVarO_2 (a b : Option Ow) (x : Ow) : eVarO 2 (a :: b :: some x :: env) = .ok x := rfl
@[simp] theorem eVarO_3 (a b c : Option Ow) (x : Ow) : eVarO 3 (a :: b :: c :: some x :: env) = .ok x := rfl
@[simp] theorem eVarO_4 (a b c d : Option Ow) (x : Ow) : eVarO 4 (a :: b :: c :: d :: some x :: env) = .ok x := rfl
@[simp] theorem eVarO_5 (a b c d e : Option Ow) (x : Ow) : eVarO 5 (a :: b :: c :: d :: e :: some x :: env) = .ok x := rfl
@[simp] theorem eVarO_6 (a b c d e f : Option Ow) (x : Ow) : eVarO 6 (a :: b :: c :: d :: e :: f :: some x :: env) = .ok x := rfl
@[simp] theorem eVarO_7 (a b c d e f g : Option Ow) (x : Ow) : eVarO 7 (a :: b :: c :: d :: e :: f :: g :: some x :: env) = .ok x := rfl
@[simp] theorem sSkip_eq : sSkip env = .nx env := rfl
@[simp] theorem sSeq_eq (f g : Ev → SR) : sSeq f g env = (f env).andThen g := rfl
@[simp] theorem sSet_eq (i : Nat) (f : Ev → R Ow) : sSet i f env = (f env).st env fun r => if i < env.length then .nx (env.set i (some r)) else .no := rfl
@[simp] theorem sRet_eq (f : Ev → R Ow) : sRet f env = (f env).st env fun r => .rt r env := rfl
@[simp] theorem sRetN_eq : sRetN env = .rt (.d .none) env := rfl
@[simp] theorem sIf_eq (c : Ev → R Bool) (f g : Ev → SR) : sIf c f g env = (c env).st env fun b => if b = true then f env else g env := rfl
@[simp] theorem sFor_eq (it : Ev → R (List D)) (g : D → Ev → Option Ev) (f : Ev → SR) : sFor it g f env = (it env).st env fun ds => forL g f ds env := rfl
@[simp] theorem sDrop_eq (f : Ev → R D) : sDrop f env = (f env).st env fun _ => .nx env := rfl
@[simp] theorem sAug_eq (h : D → D → Option D) (i : Nat) (f : Ev → R D) : sAug h i f env = (((eVar i env).bind fun x => (f env).bind fun y => R.of (h x y)).st env fun d => if i < env.length then .nx (env.set i (some (.d d))) else .no) := rfl
@[simp] theorem sAsg_eq (g : D → Ev → Option Ev) (f : Ev → R D) : sAsg g f env = (f env).st env fun d => match g d env with
  | some env' => .nx env'
  | none => .no := rfl
theorem ownL_of {i : Nat} {os : List Ow} (h : env[i]? = some (some (.l os))) (k : List Ow → SR) : ownL i env k = k os := by unfold ownL; rw [h]
@[simp] theorem sApp_eq (i : Nat) (f : Ev → R Ow) : sApp i f env = ownL i env fun os => (f env).st env fun r => if os.length < sizeLine then .nx (env.set i (some (.l (os ++ [r])))) else .no := rfl
@[simp] theorem sExt_eq (i : Nat) (f : Ev → R D) : sExt i f env = ownL i env fun os => (f env).st env fun d => (asL d).st env fun ds => if os.length + ds.length ≤ sizeLine then .nx (env.set i (some (.l (os ++ ds.map Ow.d)))) else .no := rfl
@[simp] theorem sPut_eq (i : Nat) (f : Ev → R Ow) (g : Ev → R D) : sPut i f g env = (f env).st env fun r => ownL i env fun os => (g env).st env (putAt i env os r) := rfl
@[simp] theorem ownL_0 (os : List Ow) (k : List Ow → SR) : ownL 0 (some (.l os) :: env) k = k os := rfl
@[simp] theorem ownL_1 (a : Option Ow) (os : List Ow) (k : List Ow → SR) : ownL 1 (a :: some (.l os) :: env) k = k os := rfl
@[simp] theorem ownL_2 (a b : Option Ow) (os : List Ow) (k : List Ow → SR) : ownL 2 (a :: b :: some (.l os) :: env) k = k os := rfl
@[simp] theorem ownL_3 (a b c : Option Ow) (os : List Ow) (k : List Ow → SR) : ownL 3 (a :: b :: c :: some (.l os) :: env) k = k os := rfl
@[simp] theorem ownL_4 (a b c d : Option Ow) (os : List Ow) (k : List Ow → SR) : ownL 4 (a :: b :: c :: d :: some (.l os) :: env) k = k os := rfl
@[simp] theorem ownL_5 (a b c d e : Option Ow) (os : List Ow) (k : List Ow → SR) : ownL 5 (a :: b :: c :: d :: e :: some (.l os) :: env) k = k os := rfl
@[simp] theorem ownL_6 (a b c d e f : Option Ow) (os : List Ow) (k : List Ow → SR) : ownL 6 (a :: b :: c :: d :: e :: f :: some (.l os) :: env) k = k os := rfl
@[simp] theorem gtName_eq (i : Nat) (d : D) : gtName i d env = if i < env.length then some (env.set i (some (.d d))) else none := rfl
@[simp] theorem gtTup_eq (n : Nat) (h : List D → Ev → Option Ev) (ds : List D) : gtTup n h (.tuple ds) env = if ds.length = n then h ds env else none := rfl
@[simp] theorem gtCons_eq (g : D → Ev → Option Ev) (h : List D → Ev → Option Ev) (d : D) (ds : List D) : gtCons g h (d :: ds) env = (g d env).bind (h ds) := rfl
@[simp] theorem gtNil_eq : gtNil [] env = some env := rfl
theorem guard_ok {c : Prop} {r : R α} (h : c) : guard c r = r := guard_pos h
@[simp] theorem guard_true {r : R α} : guard True r = r := guard_pos trivial
@[simp] theorem guard_small {a : Nat} {r : R α} (h : a ≤ sizeLine) : guard (a ≤ sizeLine) r = r := guard_pos h
end
@[simp] theorem gAddA_int (i j : Int) : gAddA (.int i) (.int j) = some (.int (i + j)) := rfl
@[simp] theorem gEq_int (i j : Int) : gEq (.int i) (.int j) = some (.bool (i == j)) := rfl
@[simp] theorem gNe_int (i j : Int) : gNe (.int i) (.int j) = some (.bool (!(i == j))) := rfl
@[simp] theorem gNeg_int (i : Int) : gNeg (.int i) = .ok (.int (-i)) := rfl
@[simp] theorem gIx_lst (ds : List D) (i : Int) : gIx (.list ds) (.int i) = atI ds i := rfl
@[simp] theorem gIsi_int_int (i : Int) : gIsi "int" (.int i) = .ok (.bool true) := by rfl
@[simp] theorem gIsi_bool_int (i : Int) : gIsi "bool" (.int i) = .ok (.bool false) := by first | rfl | decide +kernel | kernel_rfl
@[simp] theorem gIsi_list_list (ds : List D) : gIsi "list" (.list ds) = .ok (.bool true) := by rfl
@[simp] theorem gIsi_tup_tup (ds : List D) : gIsi "tuple" (.tuple ds) = .ok (.bool true) := by rfl
@[simp] theorem ixO_l (os : List Ow) (k : Int) : ixO (.l os) (.int k) = match atI os k with
    | some o => .ok o
    | none => .no := rfl
@[simp] theorem R.st_no {α : Type} (env : Ev) (f : α → SR) : (R.no : R α).st env f = .no := rfl
theorem atI_natD {α : Type} {xs : List α} {k : Nat} {x : α} (h : xs[k]? = some x) : atI xs (k : Int) = some x := by
  unfold atI ixN
  have hl := (List.getElem?_eq_some_iff.mp h).1
  rw [if_pos (by omega), if_pos (by omega)]
  simpa using h
theorem ixN_nat {n k : Nat} (h : k < n) : ixN n (k : Int) = some k := by
  unfold ixN
  rw [if_pos (by omega), if_pos (by omega)]
  simp
@[simp] theorem atI_0 {α : Type} (x : α) (xs : List α) : atI (x :: xs) 0 = some x := atI_natD (k := 0) rfl
@[simp] theorem atI_1 {α : Type} (x y : α) (xs : List α) : atI (x :: y :: xs) 1 = some y := atI_natD (k := 1) rfl
@[simp] theorem atI_2 {α : Type} (x y z : α) (xs : List α) : atI (x :: y :: z :: xs) 2 = some z := atI_natD (k := 2) rfl
@[simp] theorem atI_3 {α : Type} (x y z u : α) (xs : List α) : atI (x :: y :: z :: u :: xs) 3 = some u := atI_natD (k := 3) rfl
@[simp] theorem atI_4 {α : Type} (x y z u v : α) (xs : List α) : atI (x :: y :: z :: u :: v :: xs) 4 = some v := atI_natD (k := 4) rfl
theorem forL_ind {g : D → Ev → Option Ev} {f : Ev → SR} (items : List D) (I : Nat → Ev → Prop) (step : ∀ i d env, items[i]? = some d → I i env → ∃ env1, g d env = some env1 ∧ ∃ env2, (f env1 = .nx env2 ∨ f env1 = .ct env2) ∧ I (i + 1) env2) :
    ∀ env, I 0 env → ∃ env', forL g f items env = .nx env' ∧ I items.length env' := by
  suffices h : ∀ (ds : List D) (k : Nat) (env : Ev), items.drop k = ds → k ≤ items.length → I k env → ∃ env', forL g f ds env = .nx env' ∧ I items.length env' from fun env h0 => h items 0 env rfl (Nat.zero_le _) h0
  intro ds
  induction ds with
  | nil =>
    intro k env hd hk h
    have : k = items.length := by
      have := congrArg List.length hd
      simp at this
      omega
    subst this
    exact ⟨env, rfl, h⟩
  | cons d ds ih =>
    intro k env hd hk h
    have hk' : k < items.length := by
      have := congrArg List.length hd
      simp at this
      omega
    rw [List.drop_eq_getElem_cons hk'] at hd
    obtain ⟨e1, e2⟩ := List.cons.inj hd
    obtain ⟨env1, g1, env2, g2, g3⟩ := step k d env (by rw [List.getElem?_eq_getElem hk', e1]) h
    obtain ⟨env', r1, r2⟩ := ih (k + 1) env2 e2 hk' g3
    refine ⟨env', ?_, r2⟩
    unfold forL
    rw [g1]
    rcases g2 with g2 | g2 <;> (simp only; rw [g2]; exact r1)
theorem eLc_of {fi : Ev → R (List D)} {g : D → Ev → Option Ev} {c : Ev → R Bool} {e : Ev → R Ow} {vs : List Nat} {env : Ev} {ds : List D} {rs : List Ow} (h1 : fi env = .ok ds) (hl : ds.length ≤ sizeLine) (h2 : lcR g c e (wipeE env vs) ds = .ok rs) : eLc fi g c e vs env = .ok (.l rs) := by
  unfold eLc
  rw [h1, R.bind_ok, guard_ok hl, h2]
  rfl
def finR : SR → R Ow
  | .nx _ => .ok (.d .none)
  | .rt r _ => .ok r
  | .ex c _ => .ex c
  | _ => .no
theorem runB_fin (k : Nat) (f : Ev → SR) (ds : List D) : runB k f ds = finR (f (envOf k ds)) := by
  unfold runB
  cases f (envOf k ds) <;> rfl
@[simp] theorem finR_nx (env : Ev) : finR (.nx env) = .ok (.d .none) := rfl
@[simp] theorem finR_rt (r : Ow) (env : Ev) : finR (.rt r env) = .ok r := rfl
@[simp] theorem finR_ex (c : Str) (env : Ev) : finR (.ex c env) = .ex c := rfl
@[simp] theorem finR_no : finR .no = .no := rfl
@[simp] theorem envOf_nil (k : Nat) : envOf k [] = List.replicate k none := rfl
@[simp] theorem envOf_cons (k : Nat) (d : D) (ds : List D) : envOf k (d :: ds) = some (.d d) :: envOf k ds := rfl
end Mir
end
set_option Elab.async false
set_option linter.all false
set_option maxRecDepth 100000
set_option maxHeartbeats 4000000
noncomputable section
namespace Mir
open PySem PySem.Spec L2

section
variable {X : Cx} {W : WX} {S : Nat → Bool}
def sNo (_ : Ev) : SR := .no
def inD (d : D) (ds : List D) : Bool := ds.any fun e => PyData.eqv e d
def inOk (d : D) (ds : List D) : Bool := d.canLay0 && decide (d.depth ≤ 130) && ds.all fun e => e.canLay0
def gInB (neg : Bool) : D → D → Option D
  | .str x, .str z => match x.cps.toList with
    | [c] => some (.bool (xor neg (decide (c ∈ z.cps.toList))))
    | _ => none
  | d, .list ds => if inOk d ds = true then some (.bool (xor neg (inD d ds))) else none
  | d, .tuple ds => if inOk d ds = true then some (.bool (xor neg (inD d ds))) else none
  | _, _ => none
def gIn := gInB false
def gNotIn := gInB true
def rInA (K : Kw) (neg : Bool) : R2 := fun x y H Q => ∃ d ds, Dp K H x d ∧ (Dp K H y (.list ds) ∨ Dp K H y (.tuple ds)) ∧ inOk d ds = true ∧ Q (.bl (xor neg (inD d ds))) H
theorem inOk_cases {d : D} {ds : List D} (h : inOk d ds = true) : d.canLay0 = true ∧ d.depth ≤ 130 ∧ ∀ e ∈ ds, e.canLay0 = true := by
  unfold inOk at h
  simp only [Bool.and_eq_true, decide_eq_true_eq, List.all_eq_true] at h
  exact ⟨h.1.1, h.1.2, h.2⟩
open Classical in
/-- what the items answer, by the values -/
def eqW (s : Shared) (d : D) (ds : List D) (u : Value) : Bool := if ∃ e as, e ∈ ds ∧ PySem.Reads s.heap u e as ∧ PyData.eqv e d = true then true else false
theorem eqW_of {s : Shared} {d e : D} {ds : List D} {u : Value} {as : List Addr} (he : e ∈ ds) (hc : ∀ e ∈ ds, e.canLay0 = true) (r : PySem.Reads s.heap u e as) : eqW s d ds u = PyData.eqv e d := by
  unfold eqW
  cases h : PyData.eqv e d with
  | true => exact if_pos ⟨e, as, he, r, h⟩
  | false =>
    refine if_neg fun ⟨e', as', h1, h2, h3⟩ => ?_
    have := SeqAt.Reads.unique e' e u as' as (hc e' h1) h2 r
    subst this
    rw [h] at h3; cases h3
theorem any_eqW {s : Shared} {d : D} {ds0 : List D} (hc : ∀ e ∈ ds0, e.canLay0 = true) : ∀ {ds : List D} {us : List Value}, (∀ e ∈ ds, e ∈ ds0) → PySem.W.EachIs (fun v d => ∃ as, PySem.Reads s.heap v d as) us ds → us.any (eqW s d ds0) = ds.any fun e => PyData.eqv e d
  | _, _, _, .nil => rfl
  | _, _, hs, .cons ⟨as, r⟩ t => by
    rw [List.any_cons, List.any_cons, eqW_of (hs _ List.mem_cons_self) hc r, any_eqW hc (fun e he => hs e (List.mem_cons_of_mem _ he)) t]
theorem eachIs_mem {α β : Type} {T : α → β → Prop} : ∀ {as : List α} {bs : List β}, PySem.W.EachIs T as bs → ∀ a ∈ as, ∃ b ∈ bs, T a b
  | _, _, .nil, a, h => by cases h
  | _, _, .cons h t, a, hm => by
    rcases List.mem_cons.mp hm with e | e
    · subst e; exact ⟨_, List.mem_cons_self, h⟩
    · obtain ⟨b, b1, b2⟩ := eachIs_mem t a e
      exact ⟨b, List.mem_cons_of_mem _ b1, b2⟩
theorem each_reads0 {X : Cx} {pins : List (Addr × Obj)} {s : Shared} {σ : L2.St} {H : Hp} (I : Inv X pins σ H s) : ∀ {xs : List V} {vs : List Value} {ds : List D}, Vals xs vs → DpAll X.KK H xs ds → (∀ d ∈ ds, d.canLay0 = true) → PySem.W.EachIs (fun v d => ∃ as, PySem.Reads s.heap v d as) vs ds
  | _, _, _, .nil, h, _ => by cases h; exact .nil
  | _, _, _, .cons r t, h, c => by
    cases h with
    | cons h1 h2 => exact .cons (L2.Dp.reads I _ _ _ (Dp.kit _ _ h1 (c _ List.mem_cons_self)) r) (each_reads0 I t h2 fun d hd => c d (List.mem_cons_of_mem _ hd))
theorem op_inA (neg : Bool) (hu : X.A.units + 140 < cLine) : OpR X (compareOp (if neg then .NotIn else .In)) (rInA X.KK neg) := by
  intro pins s σ H x y v u Q I rx ry h
  obtain ⟨d, ds, hx, hy, ok, q⟩ := h
  obtain ⟨c1, c2, c3⟩ := inOk_cases ok
  obtain ⟨bs, rd⟩ := L2.Dp.reads I d x v (Dp.kit _ _ hx c1) rx
  have key : ∀ (its : List Value), PySem.W.EachIs (fun v d => ∃ as, PySem.Reads s.heap v d as) its ds → (∀ y, y ∈ its.toArray → SeqAt.EqAt X.A.in1 s y v (eqW s d ds y)) ∧ its.toArray.any (eqW s d ds) = inD d ds := fun its er => by
    refine ⟨fun w hw => ?_, ?_⟩
    · obtain ⟨e, he, as, re⟩ := eachIs_mem er w (by simpa using hw)
      rw [eqW_of he c3 re]
      refine SeqAt.eqAt_reads e d X.A.in1 s w v as bs re rd (c3 e he) c1 ?_
      have := Nat.min_le_right e.depth d.depth
      show X.A.units + 1 + min e.depth d.depth < cLine
      omega
    · rw [show its.toArray.any (eqW s d ds) = its.any (eqW s d ds) by simp, any_eqW c3 (fun _ h => h) er]
      rfl
  rcases hy with hy | hy
  · obtain ⟨p, xs, rfl, h1, h2⟩ := dp_lst hy
    obtain ⟨its, r, pl, hz⟩ := I.list h1
    cases ry
    obtain ⟨k1, k2⟩ := key its (each_reads0 I r h2 c3)
    cases neg with
    | false => exact SeqAt.in_listAt (eqW s d ds) pl.isList k1 ⟨.bl _, H, I, by rw [k2]; rfl, by simpa using q⟩
    | true => exact SeqAt.notIn_listAt (eqW s d ds) pl.isList k1 ⟨.bl _, H, I, by rw [k2]; rfl, by simpa using q⟩
  · obtain ⟨p, xs, rfl, h1, h2⟩ := dp_tup hy
    obtain ⟨its, r, pl, hz⟩ := I.tuple h1
    cases ry
    obtain ⟨k1, k2⟩ := key its (each_reads0 I r h2 c3)
    cases neg with
    | false => exact SeqAt.in_tupleAt (eqW s d ds) pl k1 ⟨.bl _, H, I, by rw [k2]; rfl, by simpa using q⟩
    | true => exact SeqAt.notIn_tupleAt (eqW s d ds) pl k1 ⟨.bl _, H, I, by rw [k2]; rfl, by simpa using q⟩
theorem str_one {x : Str} {c : Nat} (h : x.cps.toList = [c]) : x = ⟨#[c]⟩ := by
  cases x with
  | mk a =>
    have : a = #[c] := Array.toList_inj.mp h
    rw [this]
theorem opS_in {K : Kw} : OpS K (fun x y H Q => rInS x y H Q ∨ rInA K false x y H Q) gIn := by
  intro H x y dx dy d Q hx hy e q
  unfold gIn gInB at e
  split at e
  · rename_i a z
    split at e
    · rename_i c hc
      cases e
      cases dp_str hx
      cases dp_str hy
      exact .inl ⟨c, z, by rw [str_one hc], rfl, by simpa using q _ fun F => .bl _⟩
    · cases e
  · split at e
    · cases e
      exact .inr ⟨_, _, hx, .inl hy, ‹_›, q _ fun F => .bl _⟩
    · cases e
  · split at e
    · cases e
      exact .inr ⟨_, _, hx, .inr hy, ‹_›, q _ fun F => .bl _⟩
    · cases e
  · cases e
theorem opS_notIn {K : Kw} : OpS K (fun x y H Q => rNotInS x y H Q ∨ rInA K true x y H Q) gNotIn := by
  intro H x y dx dy d Q hx hy e q
  unfold gNotIn gInB at e
  split at e
  · rename_i a z
    split at e
    · rename_i c hc
      cases e
      cases dp_str hx
      cases dp_str hy
      exact .inl ⟨c, z, by rw [str_one hc], rfl, by simpa using q _ fun F => .bl _⟩
    · cases e
  · split at e
    · cases e
      exact .inr ⟨_, _, hx, .inl hy, ‹_›, q _ fun F => .bl _⟩
    · cases e
  · split at e
    · cases e
      exact .inr ⟨_, _, hx, .inr hy, ‹_›, q _ fun F => .bl _⟩
    · cases e
  · cases e
variable {a b : Expr} {pos : Pos} {f g : Ev → R D}
theorem op_inF (hu : X.A.units + 140 < cLine) : OpR X (compareOp .In) (rInA X.KK false) := op_inA false hu
theorem op_inT (hu : X.A.units + 140 < cLine) : OpR X (compareOp .NotIn) (rInA X.KK true) := op_inA true hu
theorem df_in (hu : X.A.units + 140 < cLine) (ha : DV X W a f) (hb : DV X W b g) (hm : behindInMarks .In b = false := by first | exact nomark _ | rfl) : DF X W (.Compare a [.In] [b] pos) (eBin gIn f g) := df_cmp (OpR.or op_inS (op_inF hu)) opS_in ha hb hm
theorem dt_in (hu : X.A.units + 140 < cLine) (ha : DV X W a f) (hb : DV X W b g) (hm : behindInMarks .In b = false := by first | exact nomark _ | rfl) : DT X W (.Compare a [.In] [b] pos) (eB (eBin gIn f g) asB) := dt_cmp (OpR.or op_inS (op_inF hu)) opS_in ha hb hm
theorem dt_notIn (hu : X.A.units + 140 < cLine) (ha : DV X W a f) (hb : DV X W b g) (hm : behindInMarks .NotIn b = false := by first | exact nomark _ | rfl) : DT X W (.Compare a [.NotIn] [b] pos) (eB (eBin gNotIn f g) asB) := dt_cmp (OpR.or op_notInS (op_inT hu)) opS_notIn ha hb hm
end
theorem gIn_sign (c : Nat) (z : Str) : gIn (.str ⟨#[c]⟩) (.str z) = some (.bool (decide (c ∈ z.cps.toList))) := by
  show some (PyData.bool (xor false (decide (c ∈ z.cps.toList)))) = _
  simp
@[simp] theorem sNo_eq (env : Ev) : sNo env = .no := rfl
end Mir
end
set_option Elab.async false
set_option linter.all false
set_option maxRecDepth 100000
noncomputable section
namespace Mir
open PySem PySem.Spec L2
@[simp] theorem ownL_7 (a0 a1 a2 a3 a4 a5 a6 : Option Ow) (os : List Ow) (env : Ev) (k : List Ow → SR) : ownL 7 (a0 :: a1 :: a2 :: a3 :: a4 :: a5 :: a6 :: some (.l os) :: env) k = k os := rfl
@[simp] theorem eVarO_8 (a0 a1 a2 a3 a4 a5 a6 a7 : Option Ow) (x : Ow) (env : Ev) : eVarO 8 (a0 :: a1 :: a2 :: a3 :: a4 :: a5 :: a6 :: a7 :: some x :: env) = .ok x := rfl
@[simp] theorem ownL_8 (a0 a1 a2 a3 a4 a5 a6 a7 : Option Ow) (os : List Ow) (env : Ev) (k : List Ow → SR) : ownL 8 (a0 :: a1 :: a2 :: a3 :: a4 :: a5 :: a6 :: a7 :: some (.l os) :: env) k = k os := rfl
@[simp] theorem eVarO_9 (a0 a1 a2 a3 a4 a5 a6 a7 a8 : Option Ow) (x : Ow) (env : Ev) : eVarO 9 (a0 :: a1 :: a2 :: a3 :: a4 :: a5 :: a6 :: a7 :: a8 :: some x :: env) = .ok x := rfl
@[simp] theorem ownL_9 (a0 a1 a2 a3 a4 a5 a6 a7 a8 : Option Ow) (os : List Ow) (env : Ev) (k : List Ow → SR) : ownL 9 (a0 :: a1 :: a2 :: a3 :: a4 :: a5 :: a6 :: a7 :: a8 :: some (.l os) :: env) k = k os := rfl
@[simp] theorem eVar_10 (a0 a1 a2 a3 a4 a5 a6 a7 a8 a9 : Option Ow) (x : D) (env : Ev) : eVar 10 (a0 :: a1 :: a2 :: a3 :: a4 :: a5 :: a6 :: a7 :: a8 :: a9 :: some (.d x) :: env) = .ok x := rfl
@[simp] theorem eVarO_10 (a0 a1 a2 a3 a4 a5 a6 a7 a8 a9 : Option Ow) (x : Ow) (env : Ev) : eVarO 10 (a0 :: a1 :: a2 :: a3 :: a4 :: a5 :: a6 :: a7 :: a8 :: a9 :: some x :: env) = .ok x := rfl
@[simp] theorem ownL_10 (a0 a1 a2 a3 a4 a5 a6 a7 a8 a9 : Option Ow) (os : List Ow) (env : Ev) (k : List Ow → SR) : ownL 10 (a0 :: a1 :: a2 :: a3 :: a4 :: a5 :: a6 :: a7 :: a8 :: a9 :: some (.l os) :: env) k = k os := rfl
@[simp] theorem eVar_11 (a0 a1 a2 a3 a4 a5 a6 a7 a8 a9 a10 : Option Ow) (x : D) (env : Ev) : eVar 11 (a0 :: a1 :: a2 :: a3 :: a4 :: a5 :: a6 :: a7 :: a8 :: a9 :: a10 :: some (.d x) :: env) = .ok x := rfl
@[simp] theorem eVarO_11 (a0 a1 a2 a3 a4 a5 a6 a7 a8 a9 a10 : Option Ow) (x : Ow) (env : Ev) : eVarO 11 (a0 :: a1 :: a2 :: a3 :: a4 :: a5 :: a6 :: a7 :: a8 :: a9 :: a10 :: some x :: env) = .ok x := rfl
@[simp] theorem ownL_11 (a0 a1 a2 a3 a4 a5 a6 a7 a8 a9 a10 : Option Ow) (os : List Ow) (env : Ev) (k : List Ow → SR) : ownL 11 (a0 :: a1 :: a2 :: a3 :: a4 :: a5 :: a6 :: a7 :: a8 :: a9 :: a10 :: some (.l os) :: env) k = k os := rfl
@[simp] theorem eVar_12 (a0 a1 a2 a3 a4 a5 a6 a7 a8 a9 a10 a11 : Option Ow) (x : D) (env : Ev) : eVar 12 (a0 :: a1 :: a2 :: a3 :: a4 :: a5 :: a6 :: a7 :: a8 :: a9 :: a10 :: a11 :: some (.d x) :: env) = .ok x := rfl
@[simp] theorem eVarO_12 (a0 a1 a2 a3 a4 a5 a6 a7 a8 a9 a10 a11 : Option Ow) (x : Ow) (env : Ev) : eVarO 12 (a0 :: a1 :: a2 :: a3 :: a4 :: a5 :: a6 :: a7 :: a8 :: a9 :: a10 :: a11 :: some x :: env) = .ok x := rfl
@[simp] theorem ownL_12 (a0 a1 a2 a3 a4 a5 a6 a7 a8 a9 a10 a11 : Option Ow) (os : List Ow) (env : Ev) (k : List Ow → SR) : ownL 12 (a0 :: a1 :: a2 :: a3 :: a4 :: a5 :: a6 :: a7 :: a8 :: a9 :: a10 :: a11 :: some (.l os) :: env) k = k os := rfl
@[simp] theorem eVar_13 (a0 a1 a2 a3 a4 a5 a6 a7 a8 a9 a10 a11 a12 : Option Ow) (x : D) (env : Ev) : eVar 13 (a0 :: a1 :: a2 :: a3 :: a4 :: a5 :: a6 :: a7 :: a8 :: a9 :: a10 :: a11 :: a12 :: some (.d x) :: env) = .ok x := rfl
@[simp] theorem eVarO_13 (a0 a1 a2 a3 a4 a5 a6 a7 a8 a9 a10 a11 a12 : Option Ow) (x : Ow) (env : Ev) : eVarO 13 (a0 :: a1 :: a2 :: a3 :: a4 :: a5 :: a6 :: a7 :: a8 :: a9 :: a10 :: a11 :: a12 :: some x :: env) = .ok x := rfl
@[simp] theorem ownL_13 (a0 a1 a2 a3 a4 a5 a6 a7 a8 a9 a10 a11 a12 : Option Ow) (os : List Ow) (env : Ev) (k : List Ow → SR) : ownL 13 (a0 :: a1 :: a2 :: a3 :: a4 :: a5 :: a6 :: a7 :: a8 :: a9 :: a10 :: a11 :: a12 :: some (.l os) :: env) k = k os := rfl
@[simp] theorem eVar_14 (a0 a1 a2 a3 a4 a5 a6 a7 a8 a9 a10 a11 a12 a13 : Option Ow) (x : D) (env : Ev) : eVar 14 (a0 :: a1 :: a2 :: a3 :: a4 :: a5 :: a6 :: a7 :: a8 :: a9 :: a10 :: a11 :: a12 :: a13 :: some (.d x) :: env) = .ok x := rfl
@[simp] theorem eVarO_14 (a0 a1 a2 a3 a4 a5 a6 a7 a8 a9 a10 a11 a12 a13 : Option Ow) (x : Ow) (env : Ev) : eVarO 14 (a0 :: a1 :: a2 :: a3 :: a4 :: a5 :: a6 :: a7 :: a8 :: a9 :: a10 :: a11 :: a12 :: a13 :: some x :: env) = .ok x := rfl
@[simp] theorem ownL_14 (a0 a1 a2 a3 a4 a5 a6 a7 a8 a9 a10 a11 a12 a13 : Option Ow) (os : List Ow) (env : Ev) (k : List Ow → SR) : ownL 14 (a0 :: a1 :: a2 :: a3 :: a4 :: a5 :: a6 :: a7 :: a8 :: a9 :: a10 :: a11 :: a12 :: a13 :: some (.l os) :: env) k = k os := rfl
@[simp] theorem eVar_15 (a0 a1 a2 a3 a4 a5 a6 a7 a8 a9 a10 a11 a12 a13 a14 : Option Ow) (x : D) (env : Ev) : eVar 15 (a0 :: a1 :: a2 :: a3 :: a4 :: a5 :: a6 :: a7 :: a8 :: a9 :: a10 :: a11 :: a12 :: a13 :: a14 :: some (.d x) :: env) = .ok x := rfl
@[simp] theorem eVarO_15 (a0 a1 a2 a3 a4 a5 a6 a7 a8 a9 a10 a11 a12 a13 a14 : Option Ow) (x : Ow) (env : Ev) : eVarO 15 (a0 :: a1 :: a2 :: a3 :: a4 :: a5 :: a6 :: a7 :: a8 :: a9 :: a10 :: a11 :: a12 :: a13 :: a14 :: some x :: env) = .ok x := rfl
@[simp] theorem ownL_15 (a0 a1 a2 a3 a4 a5 a6 a7 a8 a9 a10 a11 a12 a13 a14 : Option Ow) (os : List Ow) (env : Ev) (k : List Ow → SR) : ownL 15 (a0 :: a1 :: a2 :: a3 :: a4 :: a5 :: a6 :: a7 :: a8 :: a9 :: a10 :: a11 :: a12 :: a13 :: a14 :: some (.l os) :: env) k = k os := rfl
@[simp] theorem eVar_16 (a0 a1 a2 a3 a4 a5 a6 a7 a8 a9 a10 a11 a12 a13 a14 a15 : Option Ow) (x : D) (env : Ev) : eVar 16 (a0 :: a1 :: a2 :: a3 :: a4 :: a5 :: a6 :: a7 :: a8 :: a9 :: a10 :: a11 :: a12 :: a13 :: a14 :: a15 :: some (.d x) :: env) = .ok x := rfl
@[simp] theorem eVarO_16 (a0 a1 a2 a3 a4 a5 a6 a7 a8 a9 a10 a11 a12 a13 a14 a15 : Option Ow) (x : Ow) (env : Ev) : eVarO 16 (a0 :: a1 :: a2 :: a3 :: a4 :: a5 :: a6 :: a7 :: a8 :: a9 :: a10 :: a11 :: a12 :: a13 :: a14 :: a15 :: some x :: env) = .ok x := rfl
@[simp] theorem ownL_16 (a0 a1 a2 a3 a4 a5 a6 a7 a8 a9 a10 a11 a12 a13 a14 a15 : Option Ow) (os : List Ow) (env : Ev) (k : List Ow → SR) : ownL 16 (a0 :: a1 :: a2 :: a3 :: a4 :: a5 :: a6 :: a7 :: a8 :: a9 :: a10 :: a11 :: a12 :: a13 :: a14 :: a15 :: some (.l os) :: env) k = k os := rfl
@[simp] theorem eVar_17 (a0 a1 a2 a3 a4 a5 a6 a7 a8 a9 a10 a11 a12 a13 a14 a15 a16 : Option Ow) (x : D) (env : Ev) : eVar 17 (a0 :: a1 :: a2 :: a3 :: a4 :: a5 :: a6 :: a7 :: a8 :: a9 :: a10 :: a11 :: a12 :: a13 :: a14 :: a15 :: a16 :: some (.d x) :: env) = .ok x := rfl
@[simp] theorem eVarO_17 (a0 a1 a2 a3 a4 a5 a6 a7 a8 a9 a10 a11 a12 a13 a14 a15 a16 : Option Ow) (x : Ow) (env : Ev) : eVarO 17 (a0 :: a1 :: a2 :: a3 :: a4 :: a5 :: a6 :: a7 :: a8 :: a9 :: a10 :: a11 :: a12 :: a13 :: a14 :: a15 :: a16 :: some x :: env) = .ok x := rfl
@[simp] theorem ownL_17 (a0 a1 a2 a3 a4 a5 a6 a7 a8 a9 a10 a11 a12 a13 a14 a15 a16 : Option Ow) (os : List Ow) (env : Ev) (k : List Ow → SR) : ownL 17 (a0 :: a1 :: a2 :: a3 :: a4 :: a5 :: a6 :: a7 :: a8 :: a9 :: a10 :: a11 :: a12 :: a13 :: a14 :: a15 :: a16 :: some (.l os) :: env) k = k os := rfl
@[simp] theorem eVar_18 (a0 a1 a2 a3 a4 a5 a6 a7 a8 a9 a10 a11 a12 a13 a14 a15 a16 a17 : Option Ow) (x : D) (env : Ev) : eVar 18 (a0 :: a1 :: a2 :: a3 :: a4 :: a5 :: a6 :: a7 :: a8 :: a9 :: a10 :: a11 :: a12 :: a13 :: a14 :: a15 :: a16 :: a17 :: some (.d x) :: env) = .ok x := rfl
@[simp] theorem eVarO_18 (a0 a1 a2 a3 a4 a5 a6 a7 a8 a9 a10 a11 a12 a13 a14 a15 a16 a17 : Option Ow) (x : Ow) (env : Ev) : eVarO 18 (a0 :: a1 :: a2 :: a3 :: a4 :: a5 :: a6 :: a7 :: a8 :: a9 :: a10 :: a11 :: a12 :: a13 :: a14 :: a15 :: a16 :: a17 :: some x :: env) = .ok x := rfl
@[simp] theorem ownL_18 (a0 a1 a2 a3 a4 a5 a6 a7 a8 a9 a10 a11 a12 a13 a14 a15 a16 a17 : Option Ow) (os : List Ow) (env : Ev) (k : List Ow → SR) : ownL 18 (a0 :: a1 :: a2 :: a3 :: a4 :: a5 :: a6 :: a7 :: a8 :: a9 :: a10 :: a11 :: a12 :: a13 :: a14 :: a15 :: a16 :: a17 :: some (.l os) :: env) k = k os := rfl
@[simp] theorem eVar_19 (a0 a1 a2 a3 a4 a5 a6 a7 a8 a9 a10 a11 a12 a13 a14 a15 a16 a17 a18 : Option Ow) (x : D) (env : Ev) : eVar 19 (a0 :: a1 :: a2 :: a3 :: a4 :: a5 :: a6 :: a7 :: a8 :: a9 :: a10 :: a11 :: a12 :: a13 :: a14 :: a15 :: a16 :: a17 :: a18 :: some (.d x) :: env) = .ok x := rfl
@[simp] theorem eVarO_19 (a0 a1 a2 a3 a4 a5 a6 a7 a8 a9 a10 a11 a12 a13 a14 a15 a16 a17 a18 : Option Ow) (x : Ow) (env : Ev) : eVarO 19 (a0 :: a1 :: a2 :: a3 :: a4 :: a5 :: a6 :: a7 :: a8 :: a9 :: a10 :: a11 :: a12 :: a13 :: a14 :: a15 :: a16 :: a17 :: a18 :: some x :: env) = .ok x := rfl
@[simp] theorem ownL_19 (a0 a1 a2 a3 a4 a5 a6 a7 a8 a9 a10 a11 a12 a13 a14 a15 a16 a17 a18 : Option Ow) (os : List Ow) (env : Ev) (k : List Ow → SR) : ownL 19 (a0 :: a1 :: a2 :: a3 :: a4 :: a5 :: a6 :: a7 :: a8 :: a9 :: a10 :: a11 :: a12 :: a13 :: a14 :: a15 :: a16 :: a17 :: a18 :: some (.l os) :: env) k = k os := rfl
@[simp] theorem eVar_20 (a0 a1 a2 a3 a4 a5 a6 a7 a8 a9 a10 a11 a12 a13 a14 a15 a16 a17 a18 a19 : Option Ow) (x : D) (env : Ev) : eVar 20 (a0 :: a1 :: a2 :: a3 :: a4 :: a5 :: a6 :: a7 :: a8 :: a9 :: a10 :: a11 :: a12 :: a13 :: a14 :: a15 :: a16 :: a17 :: a18 :: a19 :: some (.d x) :: env) = .ok x := rfl
@[simp] theorem eVarO_20 (a0 a1 a2 a3 a4 a5 a6 a7 a8 a9 a10 a11 a12 a13 a14 a15 a16 a17 a18 a19 : Option Ow) (x : Ow) (env : Ev) : eVarO 20 (a0 :: a1 :: a2 :: a3 :: a4 :: a5 :: a6 :: a7 :: a8 :: a9 :: a10 :: a11 :: a12 :: a13 :: a14 :: a15 :: a16 :: a17 :: a18 :: a19 :: some x :: env) = .ok x := rfl
@[simp] theorem ownL_20 (a0 a1 a2 a3 a4 a5 a6 a7 a8 a9 a10 a11 a12 a13 a14 a15 a16 a17 a18 a19 : Option Ow) (os : List Ow) (env : Ev) (k : List Ow → SR) : ownL 20 (a0 :: a1 :: a2 :: a3 :: a4 :: a5 :: a6 :: a7 :: a8 :: a9 :: a10 :: a11 :: a12 :: a13 :: a14 :: a15 :: a16 :: a17 :: a18 :: a19 :: some (.l os) :: env) k = k os := rfl
@[simp] theorem eVar_21 (a0 a1 a2 a3 a4 a5 a6 a7 a8 a9 a10 a11 a12 a13 a14 a15 a16 a17 a18 a19 a20 : Option Ow) (x : D) (env : Ev) : eVar 21 (a0 :: a1 :: a2 :: a3 :: a4 :: a5 :: a6 :: a7 :: a8 :: a9 :: a10 :: a11 :: a12 :: a13 :: a14 :: a15 :: a16 :: a17 :: a18 :: a19 :: a20 :: some (.d x) :: env) = .ok x := rfl
@[simp] theorem eVarO_21 (a0 a1 a2 a3 a4 a5 a6 a7 a8 a9 a10 a11 a12 a13 a14 a15 a16 a17 a18 a19 a20 : Option Ow) (x : Ow) (env : Ev) : eVarO 21 (a0 :: a1 :: a2 :: a3 :: a4 :: a5 :: a6 :: a7 :: a8 :: a9 :: a10 :: a11 :: a12 :: a13 :: a14 :: a15 :: a16 :: a17 :: a18 :: a19 :: a20 :: some x :: env) = .ok x := rfl
@[simp] theorem ownL_21 (a0 a1 a2 a3 a4 a5 a6 a7 a8 a9 a10 a11 a12 a13 a14 a15 a16 a17 a18 a19 a20 : Option Ow) (os : List Ow) (env : Ev) (k : List Ow → SR) : ownL 21 (a0 :: a1 :: a2 :: a3 :: a4 :: a5 :: a6 :: a7 :: a8 :: a9 :: a10 :: a11 :: a12 :: a13 :: a14 :: a15 :: a16 :: a17 :: a18 :: a19 :: a20 :: some (.l os) :: env) k = k os := rfl
@[simp] theorem eVar_22 (a0 a1 a2 a3 a4 a5 a6 a7 a8 a9 a10 a11 a12 a13 a14 a15 a16 a17 a18 a19 a20 a21 : Option Ow) (x : D) (env : Ev) : eVar 22 (a0 :: a1 :: a2 :: a3 :: a4 :: a5 :: a6 :: a7 :: a8 :: a9 :: a10 :: a11 :: a12 :: a13 :: a14 :: a15 :: a16 :: a17 :: a18 :: a19 :: a20 :: a21 :: some (.d x) :: env) = .ok x := rfl
@[simp] theorem eVarO_22 (a0 a1 a2 a3 a4 a5 a6 a7 a8 a9 a10 a11 a12 a13 a14 a15 a16 a17 a18 a19 a20 a21 : Option Ow) (x : Ow) (env : Ev) : eVarO 22 (a0 :: a1 :: a2 :: a3 :: a4 :: a5 :: a6 :: a7 :: a8 :: a9 :: a10 :: a11 :: a12 :: a13 :: a14 :: a15 :: a16 :: a17 :: a18 :: a19 :: a20 :: a21 :: some x :: env) = .ok x := rfl
@[simp] theorem ownL_22 (a0 a1 a2 a3 a4 a5 a6 a7 a8 a9 a10 a11 a12 a13 a14 a15 a16 a17 a18 a19 a20 a21 : Option Ow) (os : List Ow) (env : Ev) (k : List Ow → SR) : ownL 22 (a0 :: a1 :: a2 :: a3 :: a4 :: a5 :: a6 :: a7 :: a8 :: a9 :: a10 :: a11 :: a12 :: a13 :: a14 :: a15 :: a16 :: a17 :: a18 :: a19 :: a20 :: a21 :: some (.l os) :: env) k = k os := rfl
@[simp] theorem eVar_23 (a0 a1 a2 a3 a4 a5 a6 a7 a8 a9 a10 a11 a12 a13 a14 a15 a16 a17 a18 a19 a20 a21 a22 : Option Ow) (x : D) (env : Ev) : eVar 23 (a0 :: a1 :: a2 :: a3 :: a4 :: a5 :: a6 :: a7 :: a8 :: a9 :: a10 :: a11 :: a12 :: a13 :: a14 :: a15 :: a16 :: a17 :: a18 :: a19 :: a20 :: a21 :: a22 :: some (.d x) :: env) = .ok x := rfl
@[simp] theorem eVarO_23 (a0 a1 a2 a3 a4 a5 a6 a7 a8 a9 a10 a11 a12 a13 a14 a15 a16 a17 a18 a19 a20 a21 a22 : Option Ow) (x : Ow) (env : Ev) : eVarO 23 (a0 :: a1 :: a2 :: a3 :: a4 :: a5 :: a6 :: a7 :: a8 :: a9 :: a10 :: a11 :: a12 :: a13 :: a14 :: a15 :: a16 :: a17 :: a18 :: a19 :: a20 :: a21 :: a22 :: some x :: env) = .ok x := rfl
@[simp] theorem ownL_23 (a0 a1 a2 a3 a4 a5 a6 a7 a8 a9 a10 a11 a12 a13 a14 a15 a16 a17 a18 a19 a20 a21 a22 : Option Ow) (os : List Ow) (env : Ev) (k : List Ow → SR) : ownL 23 (a0 :: a1 :: a2 :: a3 :: a4 :: a5 :: a6 :: a7 :: a8 :: a9 :: a10 :: a11 :: a12 :: a13 :: a14 :: a15 :: a16 :: a17 :: a18 :: a19 :: a20 :: a21 :: a22 :: some (.l os) :: env) k = k os := rfl
@[simp] theorem eVar_24 (a0 a1 a2 a3 a4 a5 a6 a7 a8 a9 a10 a11 a12 a13 a14 a15 a16 a17 a18 a19 a20 a21 a22 a23 : Option Ow) (x : D) (env : Ev) : eVar 24 (a0 :: a1 :: a2 :: a3 :: a4 :: a5 :: a6 :: a7 :: a8 :: a9 :: a10 :: a11 :: a12 :: a13 :: a14 :: a15 :: a16 :: a17 :: a18 :: a19 :: a20 :: a21 :: a22 :: a23 :: some (.d x) :: env) = .ok x := rfl
@[simp] theorem eVarO_24 (a0 a1 a2 a3 a4 a5 a6 a7 a8 a9 a10 a11 a12 a13 a14 a15 a16 a17 a18 a19 a20 a21 a22 a23 : Option Ow) (x : Ow) (env : Ev) : eVarO 24 (a0 :: a1 :: a2 :: a3 :: a4 :: a5 :: a6 :: a7 :: a8 :: a9 :: a10 :: a11 :: a12 :: a13 :: a14 :: a15 :: a16 :: a17 :: a18 :: a19 :: a20 :: a21 :: a22 :: a23 :: some x :: env) = .ok x := rfl
@[simp] theorem ownL_24 (a0 a1 a2 a3 a4 a5 a6 a7 a8 a9 a10 a11 a12 a13 a14 a15 a16 a17 a18 a19 a20 a21 a22 a23 : Option Ow) (os : List Ow) (env : Ev) (k : List Ow → SR) : ownL 24 (a0 :: a1 :: a2 :: a3 :: a4 :: a5 :: a6 :: a7 :: a8 :: a9 :: a10 :: a11 :: a12 :: a13 :: a14 :: a15 :: a16 :: a17 :: a18 :: a19 :: a20 :: a21 :: a22 :: a23 :: some (.l os) :: env) k = k os := rfl
@[simp] theorem eVar_25 (a0 a1 a2 a3 a4 a5 a6 a7 a8 a9 a10 a11 a12 a13 a14 a15 a16 a17 a18 a19 a20 a21 a22 a23 a24 : Option Ow) (x : D) (env : Ev) : eVar 25 (a0 :: a1 :: a2 :: a3 :: a4 :: a5 :: a6 :: a7 :: a8 :: a9 :: a10 :: a11 :: a12 :: a13 :: a14 :: a15 :: a16 :: a17 :: a18 :: a19 :: a20 :: a21 :: a22 :: a23 :: a24 :: some (.d x) :: env) = .ok x := rfl
@[simp] theorem eVarO_25 (a0 a1 a2 a3 a4 a5 a6 a7 a8 a9 a10 a11 a12 a13 a14 a15 a16 a17 a18 a19 a20 a21 a22 a23 a24 : Option Ow) (x : Ow) (env : Ev) : eVarO 25 (a0 :: a1 :: a2 :: a3 :: a4 :: a5 :: a6 :: a7 :: a8 :: a9 :: a10 :: a11 :: a12 :: a13 :: a14 :: a15 :: a16 :: a17 :: a18 :: a19 :: a20 :: a21 :: a22 :: a23 :: a24 :: some x :: env) = .ok x := rfl
@[simp] theorem ownL_25 (a0 a1 a2 a3 a4 a5 a6 a7 a8 a9 a10 a11 a12 a13 a14 a15 a16 a17 a18 a19 a20 a21 a22 a23 a24 : Option Ow) (os : List Ow) (env : Ev) (k : List Ow → SR) : ownL 25 (a0 :: a1 :: a2 :: a3 :: a4 :: a5 :: a6 :: a7 :: a8 :: a9 :: a10 :: a11 :: a12 :: a13 :: a14 :: a15 :: a16 :: a17 :: a18 :: a19 :: a20 :: a21 :: a22 :: a23 :: a24 :: some (.l os) :: env) k = k os := rfl
theorem fin_step {f g : Ev → SR} {env env1 : Ev} {o : R Ow} (h1 : f env = .nx env1) (h2 : finR (g env1) = o) : finR (sSeq f g env) = o := by
  rw [sSeq_eq, h1]
  exact h2
end Mir
end
set_option Elab.async false
set_option linter.all false
set_option maxRecDepth 100000
set_option maxHeartbeats 4000000
noncomputable section
namespace Mir
open PySem PySem.Spec L2

def PostX (K : Kw) {α β : Type} (P : Hp → α → β → Prop) (F H : Hp) (fp : List Addr) (σ : L2.St) : R (α × Ev) → (β → Hp → Prop) → Prop
  | .ok (a, env), Q => ∀ v F' H' fp', StepS F H fp F' H' fp' → Sat K F' H' σ env fp' → P F' a v → Q v H'
  | _, _ => False
def SmX (K : Kw) {α β : Type} (P : Hp → α → β → Prop) (t : L2.St → Hp → (β → Hp → Prop) → Prop) (f : Ev → R (α × Ev)) : Prop :=
  ∀ F H σ env fp Q, Sat K F H σ env fp → PostX K P F H fp σ (f env) Q → t σ H Q
def XD (K : Kw) (F : Hp) (d : D) (v : V) : Prop := Dp K F v d
section
variable {K : Kw} {α β γ δ : Type} {P : Hp → α → β → Prop} {P2 : Hp → γ → δ → Prop} {F H F1 H1 : Hp} {fp fp1 : List Addr} {σ : L2.St}
theorem PostX.step {r : R (α × Ev)} {Q : β → Hp → Prop} (h : PostX K P F H fp σ r Q) (s : StepS F H fp F1 H1 fp1) : PostX K P F1 H1 fp1 σ r Q := by
  cases r with
  | no => exact h
  | ex c => exact h
  | ok p => exact fun v F' H' fp' s' => h v F' H' fp' (s.trans s')
theorem SmX.go {t : L2.St → Hp → (β → Hp → Prop) → Prop} {f : Ev → R (α × Ev)} (s : SmX K P t f) {g : α × Ev → R (γ × Ev)} {env : Ev} {Q : δ → Hp → Prop} {T : β → Hp → Prop} (sat : Sat K F H σ env fp) (h : PostX K P2 F H fp σ ((f env).bind g) Q)
    (k : ∀ a env1 v F1 H1 fp1, StepS F H fp F1 H1 fp1 → Sat K F1 H1 σ env1 fp1 → P F1 a v → PostX K P2 F1 H1 fp1 σ (g (a, env1)) Q → T v H1) : t σ H T := by
  refine s F H σ env fp T sat ?_
  cases e : f env with
  | no => rw [e] at h; exact h
  | ex c => rw [e] at h; exact h
  | ok p =>
    obtain ⟨a, env1⟩ := p
    rw [e] at h
    exact fun v F' H' fp' st sat' q => k a env1 v F' H' fp' st sat' q (PostX.step (show PostX K P2 F H fp σ (g (a, env1)) Q from h) st)
end
section
variable (X : Cx)
def DXF (e : Expr) (f : Ev → R (D × Ev)) : Prop := ∃ t, PE X e t ∧ SmX X.KK (XD X.KK) t f
end
section
variable {X : Cx} {W : WX} {e a b : Expr} {es : List Expr} {pos p : Pos} {x : Str}
/-- a plain expression -/
def xP (f : Ev → R D) (env : Ev) : R (D × Ev) := match f env with
  | .ok d => .ok (d, env)
  | _ => .no
def xBin (g : D → D → Option D) (f h : Ev → R (D × Ev)) (env : Ev) : R (D × Ev) := (f env).bind fun p => (h p.2).bind fun q => (R.of (g p.1 q.1)).bind fun d => .ok (d, q.2)
def xNil (env : Ev) : R (List D × Ev) := .ok ([], env)
def xCons (f : Ev → R (D × Ev)) (g : Ev → R (List D × Ev)) (env : Ev) : R (List D × Ev) := (f env).bind fun p => (g p.2).bind fun q => .ok (p.1 :: q.1, q.2)
/-- a def that changes nothing, called -/
def xCall (m : List D → R Ow) (fa : Ev → R (List D × Ev)) (env : Ev) : R (D × Ev) := (fa env).bind fun p => match m p.1 with
  | .ok r => .ok (viewD r, p.2)
  | _ => .no
def lstAt (i : Nat) (env : Ev) : Option (List D) := match env[i]? with
  | some (some (.l os)) => unDs os
  | _ => none
end
end Mir
end
set_option Elab.async false
set_option linter.all false
set_option maxRecDepth 100000
set_option maxHeartbeats 4000000
noncomputable section
namespace Mir
open PySem PySem.Spec L2

def tOfX (K : Kw) (f : Ev → R (D × Ev)) : TE := fun σ H Q => ∃ F env fp, Sat K F H σ env fp ∧ PostX K (XD K) F H fp σ (f env) Q
theorem DXF.can {X : Cx} {e : Expr} {f : Ev → R (D × Ev)} (h : DXF X e f) : PE X e (tOfX X.KK f) := by
  obtain ⟨t, p, s⟩ := h
  refine PE.imp p ?_
  rintro σ H Q ⟨F, env, fp, sat, h⟩
  exact s F H σ env fp Q sat h
theorem EnvAt.re {K : Kw} {F H : Hp} {σ : L2.St} {env : Ev} {fp : List Addr} (h : EnvAt K F H σ env fp) : ∀ {σ' : L2.St}, σ'.length = σ.length → (∀ (j : Nat) (o : Ow), env[j]? = some (some o) → σ'[j]? = σ[j]?) → EnvAt K F H σ' env fp := by
  induction h with
  | nil =>
    intro σ' hl _
    cases σ' with
    | nil => exact .nil
    | cons => simp at hl
  | @non x σ env fp h ih =>
    intro σ' hl hs
    cases σ' with
    | nil => simp at hl
    | cons y σ' => exact .non (ih (by simpa using hl) fun j o e => by simpa using hs (j + 1) o (by simpa using e))
  | @som v o σ env fp fps h1 h2 ih =>
    intro σ' hl hs
    cases σ' with
    | nil => simp at hl
    | cons y σ' =>
      have := hs 0 o rfl
      simp at this
      subst this
      exact .som h1 (ih (by simpa using hl) fun j o e => by simpa using hs (j + 1) o (by simpa using e))
section
variable {X : Cx} {W : WX} {S : Nat → Bool} {pos : Pos}
def xSet (i : Nat) (r : R (D × Ev)) : SR := match r with
  | .ok (d, env1) => if i < env1.length then .nx (env1.set i (some (.d d))) else .no
  | _ => .no
def sXSet (i : Nat) (f : Ev → R (D × Ev)) (env : Ev) : SR := xSet i (f env)
def sXRet (f : Ev → R (D × Ev)) (env : Ev) : SR := match f env with
  | .ok (d, env1) => .rt (.d d) env1
  | _ => .no
/-- tuple(e), list handed -/
def xCa (g : List D → Option Ow) (fa : Ev → R (List D × Ev)) (env : Ev) : R (D × Ev) := (fa env).bind fun p => match g p.1 with
  | some r => .ok (viewD r, p.2)
  | none => .no
end
section
variable {P : Program} {w : World} {K : PySem.W.Frag} {mg : Str → Option Value} {base : Heap}
end
end Mir
end
set_option Elab.async false
set_option linter.all false
set_option maxRecDepth 100000
set_option maxHeartbeats 4000000
noncomputable section
namespace RT
open PySem PySem.Spec PyProof.Rows
section
variable {prog : Program} {w : World} {A : Around} {E : Value → Shared → Prop} {s : Shared}
end
end RT
namespace Mir
open PySem PySem.Spec PyProof.Rows L2 RT
section
variable {X : Cx} {W : WX}
def gListRev : D → Option Ow
  | .list ds => some (.l (ds.reverse.map Ow.d))
  | _ => none
@[simp] theorem gListRev_list (ds : List D) : gListRev (.list ds) = some (.l (ds.reverse.map Ow.d)) := rfl
theorem DpAll.reverse {K : Kw} {H : Hp} : ∀ {ds : List D} {vs : List V}, DpAll K H vs ds → DpAll K H vs.reverse ds.reverse
  | [], _, h => by cases h; exact .nil
  | d :: ds, _, h => by
    cases h with
    | cons h1 h2 =>
      rw [List.reverse_cons, List.reverse_cons]
      exact Mir.DpAll.append (DpAll.reverse h2) (.cons h1 .nil)
def eListRev (f : Ev → R D) (env : Ev) : R Ow := (f env).bind fun d => R.of (gListRev d)
@[simp] theorem eListRev_eq (f : Ev → R D) (env : Ev) : eListRev f env = (f env).bind fun d => R.of (gListRev d) := rfl
end
end Mir
end
set_option Elab.async false
set_option linter.all false
set_option maxRecDepth 100000
set_option maxHeartbeats 4000000
noncomputable section
namespace Mir
open PySem PySem.Spec PyProof.Rows L2
def repS (z : Str) (n : Nat) : Str := ⟨(List.replicate n z.cps.toList).flatten.toArray⟩
section
variable {X : Cx} {W : WX} {a b : Expr} {pos : Pos} {f g : Ev → R D}
def gMulS : D → D → Option D
  | .int i, .int j => gMul (.int i) (.int j)
  | .str z, .int n => if 1 ≤ n ∧ n ≤ 1000000 ∧ z.length * n.toNat ≤ sizeLine then some (.str (repS z n.toNat)) else none
  | _, _ => none
@[simp] theorem gMulS_int (i j : Int) : gMulS (.int i) (.int j) = gMul (.int i) (.int j) := rfl
def gIsB : D → D → Option D
  | .bool p, .bool q => some (.bool (p == q))
  | _, _ => none
def gNotB : D → D → Option D
  | .bool p, .bool q => some (.bool (!(p == q)))
  | _, _ => none
@[simp] theorem gIsB_bool (p q : Bool) : gIsB (.bool p) (.bool q) = some (.bool (p == q)) := rfl
@[simp] theorem gNotB_bool (p q : Bool) : gNotB (.bool p) (.bool q) = some (.bool (!(p == q))) := rfl
section
variable {F G : Ev → R (D × Ev)}
end
end
end Mir
end
set_option Elab.async false
set_option linter.all false
set_option maxRecDepth 100000
set_option maxHeartbeats 4000000
noncomputable section
namespace Mir
open PySem PySem.Spec L2
section
variable {X : Cx} {W : WX} {S : Nat → Bool} {pos : Pos}
/-- a target stored from an expression that changes own lists -/
def sXAsg (g : D → Ev → Option Ev) (f : Ev → R (D × Ev)) (env : Ev) : SR := match f env with
  | .ok (d, env1) => match g d env1 with
    | some env2 => .nx env2
    | none => .no
  | _ => .no
end
def flatD : D → Bool
  | .none => true
  | .bool _ => true
  | .int _ => true
  | .str _ => true
  | _ => false
def flatR : R Ow → R D
  | .ok (.d x) => if flatD x = true then .ok x else .no
  | .ex c => .ex c
  | _ => .no
def eCallV (m : List D → R Ow) (fa : Ev → R (List D)) (env : Ev) : R D := (fa env).bind fun ds => flatR (m ds)
@[simp] theorem eCallV_eq (m : List D → R Ow) (fa : Ev → R (List D)) (env : Ev) : eCallV m fa env = (fa env).bind fun ds => flatR (m ds) := rfl
@[simp] theorem flatR_bool (b : Bool) : flatR (.ok (.d (.bool b))) = .ok (.bool b) := rfl
@[simp] theorem flatR_int (b : Int) : flatR (.ok (.d (.int b))) = .ok (.int b) := rfl
@[simp] theorem flatR_none : flatR (.ok (.d .none)) = .ok .none := rfl
section
variable {X : Cx} {W : WX} {e : Expr} {es : List Expr} {pos p : Pos}
end
section
variable (env : Ev)
theorem lstAt_of {i : Nat} {env : Ev} {dk : List D} (h : env[i]? = some (some (.l (dk.map Ow.d)))) : lstAt i env = some dk := by unfold lstAt; rw [h]; exact unDs_map dk
@[simp] theorem lstAt_0 (dk : List D) : lstAt 0 (some (.l (dk.map Ow.d)) :: env) = some dk := lstAt_of rfl
@[simp] theorem lstAt_0n : lstAt 0 (some (.l []) :: env) = some [] := rfl
@[simp] theorem lstAt_s (i : Nat) (x : Option Ow) : lstAt (i + 1) (x :: env) = lstAt i env := by unfold lstAt; rw [List.getElem?_cons_succ]
@[simp] theorem xP_eq (f : Ev → R D) : xP f env = match f env with
  | .ok d => .ok (d, env)
  | _ => .no := rfl
@[simp] theorem xBin_eq (g : D → D → Option D) (f h : Ev → R (D × Ev)) : xBin g f h env = (f env).bind fun p => (h p.2).bind fun q => (R.of (g p.1 q.1)).bind fun d => .ok (d, q.2) := rfl
@[simp] theorem xNil_eq : xNil env = .ok ([], env) := rfl
@[simp] theorem xCons_eq (f : Ev → R (D × Ev)) (g : Ev → R (List D × Ev)) : xCons f g env = (f env).bind fun p => (g p.2).bind fun q => .ok (p.1 :: q.1, q.2) := rfl
@[simp] theorem xCall_eq (m : List D → R Ow) (fa : Ev → R (List D × Ev)) : xCall m fa env = (fa env).bind fun p => match m p.1 with
  | .ok r => .ok (viewD r, p.2)
  | _ => .no := rfl
@[simp] theorem xCa_eq (g : List D → Option Ow) (fa : Ev → R (List D × Ev)) : xCa g fa env = (fa env).bind fun p => match g p.1 with
  | some r => .ok (viewD r, p.2)
  | none => .no := rfl
@[simp] theorem sXSet_eq (i : Nat) (f : Ev → R (D × Ev)) : sXSet i f env = match f env with
  | .ok (d, env1) => if i < env1.length then .nx (env1.set i (some (.d d))) else .no
  | _ => .no := by unfold sXSet xSet; rfl
@[simp] theorem sXRet_eq (f : Ev → R (D × Ev)) : sXRet f env = match f env with
  | .ok (d, env1) => .rt (.d d) env1
  | _ => .no := rfl
@[simp] theorem sXAsg_eq (g : D → Ev → Option Ev) (f : Ev → R (D × Ev)) : sXAsg g f env = match f env with
  | .ok (d, env1) => match g d env1 with
    | some env2 => .nx env2
    | none => .no
  | _ => .no := rfl
end
end Mir
end
set_option Elab.async false
set_option linter.all false
set_option maxRecDepth 100000
set_option maxHeartbeats 4000000
noncomputable section
namespace Mir
open PySem PySem.Spec PyProof.Rows L2
def strsD : List D → Option (List Str)
  | [] => some []
  | .str z :: ds => (strsD ds).map fun zs => z :: zs
  | _ :: _ => none
theorem strsD_map : ∀ zs : List Str, strsD (zs.map PyData.str) = some zs
  | [] => rfl
  | z :: zs => by rw [List.map_cons, strsD, strsD_map zs]; rfl
theorem strsD_dp {K : Kw} {F : Hp} : ∀ {ds : List D} {vs : List V} {zs : List Str}, DpAll K F vs ds → strsD ds = some zs → vs = zs.map V.str
  | [], vs, zs, h, e => by cases h; cases e; rfl
  | d :: ds, vs, zs, h, e => by
    cases h with
    | cons h1 h2 =>
      unfold strsD at e
      split at e
      · rename_i he; cases he
      · rename_i z ds' he
        cases he
        obtain ⟨ws, w1, rfl⟩ := Option.map_eq_some_iff.mp e
        rw [strsD_dp h2 w1, List.map_cons]
        cases dp_str h1
        rfl
      · cases e
def joinS (a : Str) (ys : List Str) : Option D := open Classical in if (ys.map (·.length)).sum + ys.length * a.length ≤ 16777216 then some (.str (Txt.join a ys)) else none
def gJoin : D → D → Option D
  | .str a, .list ds => (strsD ds).bind (joinS a)
  | .str a, .tuple ds => (strsD ds).bind (joinS a)
  | _, _ => none
theorem joinS_ok {a : Str} {ys : List Str} (h : (ys.map (·.length)).sum + ys.length * a.length ≤ 16777216) : joinS a ys = some (.str (Txt.join a ys)) := by
  unfold joinS
  rw [if_pos h]
theorem gJoin_list {a : Str} {ys : List Str} (h : (ys.map (·.length)).sum + ys.length * a.length ≤ 16777216) : gJoin (.str a) (.list (ys.map PyData.str)) = some (.str (Txt.join a ys)) := by
  show (strsD _).bind _ = _
  rw [strsD_map]
  exact joinS_ok h
def eJoin (f g : Ev → R D) (env : Ev) : R D := (f env).bind fun d => match d with
  | .str z => (g env).bind fun d' => R.of (gJoin (.str z) d')
  | _ => .no
theorem eJoin_eq {f g : Ev → R D} {env : Ev} {a : Str} {d : D} (h : f env = .ok (.str a)) (h2 : g env = .ok d) : eJoin f g env = R.of (gJoin (.str a) d) := by
  unfold eJoin
  rw [h, R.bind_ok]
  simp only [h2, R.bind_ok]
section
variable {X : Cx} {W : WX} {o e : Expr} {apos pos : Pos} {f g : Ev → R D}
theorem joinS_some {a : Str} {ys : List Str} {d : D} (h : joinS a ys = some d) : (ys.map (·.length)).sum + ys.length * a.length ≤ 16777216 ∧ d = .str (Txt.join a ys) := by
  unfold joinS at h
  split at h
  · rename_i c
    exact ⟨c, (Option.some.inj h).symm⟩
  · cases h
theorem df_join (ho : DV X W o f) (he : DL X W e g)
    (hs : starEach [e] X.env = [(false, eval e X.env)] := by rfl)
    (hb : attributeBase o (Str.ofString "join") X.env (eval o X.env) = eval o X.env := by rfl)
    (hp : (apos.endLine == pos.line) = true := by rfl) : DF X W (.Call (.Attribute o "join" apos) [e] [] pos) (eJoin f g) := by
  obtain ⟨ta, pa, sa⟩ := ho
  obtain ⟨tb, pb, sb⟩ := he
  refine ⟨_, pe_join pa pb hs hb hp, fun F H σ env fp Q sat hp => ?_⟩
  refine sa.go sat hp fun d v F1 H1 sat1 q _ h1 => ?_
  have key : ∀ z, d = .str z → (∃ a, v = V.str a) := fun z hz => by subst hz; cases dp_str q; exact ⟨_, rfl⟩
  cases d with
  | str z =>
    refine ⟨key z rfl, ?_⟩
    cases dp_str q
    refine sb.go sat1 h1 fun d' v' F2 H2 sat2 q' x2 h2 => ?_
    obtain ⟨r, hr, h3⟩ := post_of h2
    cases d' with
    | list ds =>
      obtain ⟨ys, y1, y2⟩ := Option.bind_eq_some_iff.mp hr
      obtain ⟨c, rfl⟩ := joinS_some y2
      obtain ⟨p, vs, rfl, p1, p2⟩ := q'
      have ev := strsD_dp p2 y1
      subst ev
      exact ⟨z, p, ys, rfl, rfl, .inl p1, c, h3 _ _ _ (.refl sat2.fh) (.str _)⟩
    | tuple ds =>
      obtain ⟨ys, y1, y2⟩ := Option.bind_eq_some_iff.mp hr
      obtain ⟨c, rfl⟩ := joinS_some y2
      obtain ⟨p, vs, rfl, p1, p2⟩ := dp_tup q'
      have ev := strsD_dp p2 y1
      subst ev
      exact ⟨z, p, ys, rfl, rfl, .inr (SqT_mono sat2.fh p1), c, h3 _ _ _ (.refl sat2.fh) (.str _)⟩
    | _ => cases hr
  | _ => exact h1.elim
end
end Mir
end
set_option Elab.async false
set_option linter.all false
set_option maxRecDepth 100000
set_option maxHeartbeats 4000000
noncomputable section
namespace Mir
open PySem PySem.Spec PyProof.Rows L2
section
variable {X : Cx} {W : WX} {S : Nat → Bool} {e a b : Expr} {es : List Expr} {pos p : Pos} {x : Str}
def xTup (f : Ev → R (List D × Ev)) (env : Ev) : R (D × Ev) := (f env).bind fun p => guard (p.1.length ≤ sizeLine) (.ok (.tuple p.1, p.2))
def xBinO (g : D → D → Option Ow) (f h : Ev → R (D × Ev)) (env : Ev) : R (D × Ev) := (f env).bind fun p => (h p.2).bind fun q => (R.of (g p.1 q.1)).bind fun o => .ok (viewD o, q.2)
def xRg1 (f : Ev → R (List D × Ev)) (env : Ev) : R (List D × Ev) := (f env).bind fun p => (rg1 p.1).bind fun ds => .ok (ds, p.2)
end
section
variable {X : Cx} {W : WX} {S : Nat → Bool} {e : Expr} {pos cpos apos npos : Pos} {x : Str}
section
variable (env : Ev)
@[simp] theorem xTup_eq (f : Ev → R (List D × Ev)) : xTup f env = (f env).bind fun p => guard (p.1.length ≤ sizeLine) (.ok (.tuple p.1, p.2)) := rfl
@[simp] theorem xBinO_eq (g : D → D → Option Ow) (f h : Ev → R (D × Ev)) : xBinO g f h env = (f env).bind fun p => (h p.2).bind fun q => (R.of (g p.1 q.1)).bind fun o => .ok (viewD o, q.2) := rfl
@[simp] theorem xRg1_eq (f : Ev → R (List D × Ev)) : xRg1 f env = (f env).bind fun p => (rg1 p.1).bind fun ds => .ok (ds, p.2) := rfl
end
end
end Mir
end
set_option Elab.async false
set_option linter.all false
set_option maxRecDepth 100000
set_option maxHeartbeats 4000000
noncomputable section
namespace Mir
open PySem PySem.Spec PyProof.Rows L2
def pairsD : List D → Option (List (Str × D))
  | [] => some []
  | .tuple [.str k, v] :: ds => (pairsD ds).map fun r => (k, v) :: r
  | _ :: _ => none
/-- the last pair of the key -/
def lastP : List (Str × D) → Str → Option D
  | [], _ => none
  | p :: ps, k => (lastP ps k).or (if p.1 = k then some p.2 else none)
def asPairs : D → Option (List (Str × D))
  | .list ds => pairsD ds
  | _ => none
def lookP (ps : List (Str × D)) : D → Option D
  | .str k => lastP ps k
  | _ => none
def eDictIx (f g : Ev → R D) (env : Ev) : R D := (f env).bind fun d => match asPairs d with
  | none => .no
  | some ps => (g env).bind fun k => R.of (lookP ps k)
def inP (ps : List (Str × D)) (no : Bool) : D → Option D
  | .str k => some (.bool ((lastP ps k).isSome != no))
  | _ => none
def eInDict (no : Bool) (g f : Ev → R D) (env : Ev) : R D := (g env).bind fun k => (f env).bind fun d => match asPairs d with
  | none => .no
  | some ps => R.of (inP ps no k)
@[simp] theorem eDictIx_eq (f g : Ev → R D) (env : Ev) : eDictIx f g env = (f env).bind fun d => match asPairs d with
  | none => .no
  | some ps => (g env).bind fun k => R.of (lookP ps k) := rfl
@[simp] theorem eInDict_eq (no : Bool) (g f : Ev → R D) (env : Ev) : eInDict no g f env = (g env).bind fun k => (f env).bind fun d => match asPairs d with
  | none => .no
  | some ps => R.of (inP ps no k) := rfl
@[simp] theorem lookP_str (ps : List (Str × D)) (k : Str) : lookP ps (.str k) = lastP ps k := rfl
@[simp] theorem inP_str (ps : List (Str × D)) (no : Bool) (k : Str) : inP ps no (.str k) = some (.bool ((lastP ps k).isSome != no)) := rfl
section
variable {X : Cx} {W : WX} {e key : Expr} {p pos cpos : Pos} {f g : Ev → R D}
end
section
variable {X : Cx} {W : WX} {a b c : Expr} {pos : Pos} {f g h : Ev → R D}
end
end Mir
end
set_option Elab.async false
set_option linter.all false
set_option maxRecDepth 100000
set_option maxHeartbeats 4000000
noncomputable section
namespace Mir
open PySem PySem.Spec PyProof.Rows L2
theorem fits (x : Int) (h : -(2 ^ 62) ≤ x) (h' : x < 2 ^ 62) : Builtin.Range.rangeFitsLong x = true := by
  unfold Builtin.Range.rangeFitsLong
  simp only [Bool.and_eq_true, decide_eq_true_eq]
  constructor <;> omega
section
variable {X : Cx} {W : WX} {tg e e2 e3 : Expr} {p pos : Pos} {fa : Ev → R (List D)}
end
end Mir
end
set_option Elab.async false
set_option linter.all false
set_option maxRecDepth 100000
set_option maxHeartbeats 4000000
noncomputable section
namespace Mir
open PySem PySem.Spec PyProof.Rows L2
open AutoSeq1 (wpAny_loadPart')
section
variable {X : Cx} {W : WX} {S : Nat → Bool} {e : Expr} {pos cpos apos npos : Pos} {x : Str}
def asT : D → R (List D)
  | .tuple ds => .ok ds
  | _ => .no
@[simp] theorem asT_tup (ds : List D) : asT (.tuple ds) = .ok ds := rfl
def sExtT (i : Nat) (f : Ev → R D) (env : Ev) : SR := ownL i env fun os => (f env).st env fun d => (asT d).st env fun ds => if os.length + ds.length ≤ sizeLine then .nx (env.set i (some (.l (os ++ ds.map Ow.d)))) else .no
@[simp] theorem sExtT_eq (i : Nat) (f : Ev → R D) (env : Ev) : sExtT i f env = ownL i env fun os => (f env).st env fun d => (asT d).st env fun ds => if os.length + ds.length ≤ sizeLine then .nx (env.set i (some (.l (os ++ ds.map Ow.d)))) else .no := rfl
end
end Mir
end
set_option Elab.async false
set_option linter.all false
set_option maxRecDepth 100000
set_option maxHeartbeats 4000000
noncomputable section
namespace Mir
open PySem PySem.Spec PySem.Calls PyProof.Rows L2
def keyEq : D → D → Bool
  | .int i, .int j => i == j
  | .str x, .str y => x == y
  | _, _ => false
def isKey : D → Bool
  | .int _ => true
  | .str _ => true
  | _ => false
def getP (ps : List (D × D)) (k : D) : Option D := (ps.find? fun p => keyEq p.1 k).map (·.2)
def putP (ps : List (D × D)) (k v : D) : List (D × D) := if (ps.any fun p => keyEq p.1 k) = true then ps.map (fun p => if keyEq p.1 k = true then (p.1, v) else p) else ps ++ [(k, v)]
section
variable {X : Cx} {W : WX} {S : Nat → Bool} {e k : Expr} {pos tpos npos p2 : Pos} {x : Str} {f g : Ev → R D}
/-- {} -/
def eDictNew (_ : Ev) : R Ow := .ok (.m [])
@[simp] theorem eDictNew_eq (env : Ev) : eDictNew env = .ok (.m []) := rfl
/-- the own dict at a slot -/
def mAt (i : Nat) (env : Ev) : Option (List (D × D)) := match env[i]? with
  | some (some (.m ps)) => some ps
  | _ => none
/-- d[k], d any data that is a dict -/
def gGetD : D → D → Option D
  | .dict ps, k => if isKey k = true then getP ps k else none
  | _, _ => none
end
@[simp] theorem mAt_0 (ps : List (D × D)) (env : Ev) : mAt 0 (some (.m ps) :: env) = some ps := rfl
@[simp] theorem mAt_s (i : Nat) (x : Option Ow) (env : Ev) : mAt (i + 1) (x :: env) = mAt i env := by unfold mAt; rw [List.getElem?_cons_succ]
@[simp] theorem mAt_1 (a0 : Option Ow) (ps : List (D × D)) (env : Ev) : mAt 1 (a0 :: some (.m ps) :: env) = some ps := rfl
@[simp] theorem mAt_2 (a0 a1 : Option Ow) (ps : List (D × D)) (env : Ev) : mAt 2 (a0 :: a1 :: some (.m ps) :: env) = some ps := rfl
@[simp] theorem mAt_3 (a0 a1 a2 : Option Ow) (ps : List (D × D)) (env : Ev) : mAt 3 (a0 :: a1 :: a2 :: some (.m ps) :: env) = some ps := rfl
@[simp] theorem mAt_4 (a0 a1 a2 a3 : Option Ow) (ps : List (D × D)) (env : Ev) : mAt 4 (a0 :: a1 :: a2 :: a3 :: some (.m ps) :: env) = some ps := rfl
@[simp] theorem gGetD_dict (ps : List (D × D)) (k : D) : gGetD (.dict ps) k = if isKey k = true then getP ps k else none := rfl
@[simp] theorem isKey_int (i : Int) : isKey (.int i) = true := rfl
@[simp] theorem isKey_str (z : Str) : isKey (.str z) = true := rfl
end Mir
end
set_option Elab.async false
set_option linter.all false
set_option maxRecDepth 100000
set_option maxHeartbeats 4000000
noncomputable section
namespace Mir
open PySem PySem.Spec L2
section
variable {X : Cx} {W : WX} {S : Nat → Bool} {e k : Expr} {pos tpos npos p2 : Pos} {x : Str} {f g : Ev → R D}
/-- what a stateful expression tells, walked: a list -/
def xSeq (f : Ev → R (D × Ev)) (env : Ev) : R (List D × Ev) := (f env).bind fun p => match p.1 with
  | .list ds => .ok (ds, p.2)
  | _ => .no
@[simp] theorem xSeq_eq (f : Ev → R (D × Ev)) (env : Ev) : xSeq f env = (f env).bind fun p => match p.1 with
  | .list ds => .ok (ds, p.2)
  | _ => .no := rfl
end
end Mir
end
set_option Elab.async false
set_option linter.all false
set_option maxRecDepth 100000
set_option maxHeartbeats 4000000
noncomputable section
namespace Mir
open PySem PySem.Spec PyProof.Rows L2
/-- what is to be known of an own class over ValueError -/
structure ExcT (K : PySem.W.Frag) (mg : Str → Option Value) (x : Str) (C : Addr) : Prop where
  gC : mg x = some (.ref C)
  ex : PySem.W.excIn K C [.type "ValueError", .type "Exception", .type "BaseException", .type "object"] "ValueError.__new__" = true
  kC : PySem.W.keepIn K (.ref C) = true
  bP : PySem.W.subIn K (.ref C) (.type "BaseException") = some true
  tP : PySem.W.typeIn K (.ref C) = some (.type "type")
def sRaise (x : Str) (env : Ev) : SR := .ex x env
@[simp] theorem sRaise_eq (x : Str) (env : Ev) : sRaise x env = .ex x env := rfl
section
variable {X : Cx} {W : WX} {S : Nat → Bool} {pos p p2 np pos' : Pos} {x m : Str} {j : Nat} {C : Addr}
theorem ds_raise (hc : X.calm = true) (tk : Takes X W) (T : ExcT X.K X.mg x C) (hg : Gl X x) (hdb : (x == ("__debug__" : Str)) = false := by decide) : DS X W S (.Raise (some (.Call (.Name x p) [.Constant (.str m) j p2] [] pos')) none pos) (sRaise x) := by
  refine ⟨_, ps_raise hc tk (pmk_own PySem.F.excBase_ValueError T.ex T.gC T.kC (raises_own T.bP T.tP) hg hdb), fun F H σ env fp D sat h => ?_⟩
  exact h C σ F H fp T.gC (.refl _ _) (StepS.of_ext (.refl sat.fh) fp) sat
theorem PSs.imp {st : List Stmt} {t t' : TS} (h : PSs X st t) (k : ∀ D σ H, t' D σ H → t D σ H) : PSs X st t' := ⟨fun pins s σ H D I q => h.run pins s σ H D I (k D σ H q)⟩
/-- canonical: what a block's mirror asks -/
def tsOf (X : Cx) (W : WX) (S : Nat → Bool) (f : Ev → SR) : TS := fun D σ H => ∃ F env fp, Sat X.KK F H σ env fp ∧ PostS X W S σ F H fp D (f env)
theorem DSs.can {st : List Stmt} {f : Ev → SR} (h : DSs X W S st f) : PSs X st (tsOf X W S f) := by
  obtain ⟨t, p, s⟩ := h
  refine PSs.imp p ?_
  rintro D σ H ⟨F, env, fp, sat, h⟩
  exact s F H σ env fp D sat h
end
section
variable {X : Cx} {W : WX} {S : Nat → Bool} {i : Nat} {a : Addr} {pos p p2 np pos' : Pos} {x n T : Str} {e e1 e2 : Expr} {g g1 g2 : Ev → R D}
/-- a flat name -/
def eFlat (k : Nat) (env : Ev) : R D := (eVar k env).bind fun d => if flatD d = true then .ok d else .no
@[simp] theorem eFlat_eq (k : Nat) (env : Ev) : eFlat k env = (eVar k env).bind fun d => if flatD d = true then .ok d else .no := rfl
/-- int(a truth) -/
def eIntB (g : Ev → R D) (env : Ev) : R D := (g env).bind fun d => match d with
  | .bool b => .ok (.int (if b = true then 1 else 0))
  | _ => .no
@[simp] theorem eIntB_eq (g : Ev → R D) (env : Ev) : eIntB g env = (g env).bind fun d => match d with
  | .bool b => .ok (.int (if b = true then 1 else 0))
  | _ => .no := rfl
/-- + of whole numbers -/
def eAddI (g1 g2 : Ev → R D) (env : Ev) : R D := (g1 env).bind fun x => (g2 env).bind fun y => match x, y with
  | .int i, .int j => .ok (.int (i + j))
  | _, _ => .no
@[simp] theorem eAddI_eq (g1 g2 : Ev → R D) (env : Ev) : eAddI g1 g2 env = (g1 env).bind fun x => (g2 env).bind fun y => match x, y with
  | .int i, .int j => .ok (.int (i + j))
  | _, _ => .no := rfl
end
end Mir
end
set_option Elab.async false
set_option linter.all false
set_option maxRecDepth 100000
set_option maxHeartbeats 4000000
noncomputable section
namespace Mir
open PySem PySem.Spec PyProof.Rows L2
section
variable {X : Cx} {W : WX} {S : Nat → Bool} {i : Nat} {a : Addr} {pos p p2 np pos' : Pos} {x n T : Str} {e e1 e2 : Expr} {g g1 g2 : Ev → R D}
end
section
variable {K : PySem.W.Frag}
end
end Mir
end
set_option Elab.async false
set_option linter.all false
set_option maxRecDepth 100000
set_option maxHeartbeats 4000000
noncomputable section
namespace Mir
open PySem PySem.Spec PyProof.Rows L2
def gLtS : D → D → Option D
  | .str x, .str y => some (.bool (decide (x.cps.toList < y.cps.toList)))
  | _, _ => none
@[simp] theorem gLtS_str (x y : Str) : gLtS (.str x) (.str y) = some (.bool (decide (x.cps.toList < y.cps.toList))) := rfl
section
variable {X : Cx} {W : WX} {a b : Expr} {f g : Ev → R D} {pos : Pos}
end
end Mir
end
set_option Elab.async false
set_option linter.all false
set_option maxRecDepth 100000
set_option maxHeartbeats 4000000
noncomputable section
namespace Mir
open PySem PySem.Spec PyProof.Rows L2
section
variable {X : Cx} {W : WX} {S : Nat → Bool} {e k : Expr} {pos cpos apos npos tpos : Pos} {x : Str}
def sInsS (i : Nat) (g : Ev → R D) (f : Ev → R Ow) (env : Ev) : SR := ownL i env fun os => (g env).st env fun d => match d with
  | .int n => (f env).st env fun r => match insO os r n with
    | some os' => .nx (env.set i (some (.l os')))
    | none => .no
  | _ => .no
theorem ds_insS {g : Ev → R D} {f : Ev → R Ow} (i : Nat) (hk : DV X W k g) (he : DE X W e f) (hN : X.N[i]? = some x := by rfl) (hv : Vis X.env.scope x := by first | exact Or.inl rfl | exact Or.inr (Or.inl rfl) | exact Or.inr (Or.inr rfl)) (hd : (x == ("__debug__" : Str)) = false := by decide) (hcd : (x == ("__classdict__" : Str)) = false := by decide)
    (hbase : attributeBase (.Name x npos) "insert" X.env (eval (.Name x npos) X.env) = eval (.Name x npos) X.env := by rfl)
    (hfew : ((backTo cpos (starEach [k, e] X.env)).all (fun x => !x.1) && (backToKw cpos (keywordEach [] X.env)).all (fun x => x.1.isSome) && decide ([k, e].length + ([] : List Keyword).length + (if ([] : List Keyword).isEmpty then 0 else 1) < 30)) = true := by rfl)
    (hline : (apos.endLine == cpos.line) = true := by rfl) (hst : starEach [k, e] X.env = (false, eval k X.env) :: starEach [e] X.env := by rfl) (hplain : (backTo cpos (starEach [e] X.env)).any (·.1) = false := by rfl)
    (hst2 : starEach [e] X.env = (false, eval e X.env) :: starEach [] X.env := by rfl)
    (hsw : swapsWith (.Call (.Attribute (.Name x npos) "insert" apos) [k, e] [] cpos) none pos.line X.env = pure false := by rfl) : DS X W S (.Expr (.Call (.Attribute (.Name x npos) "insert" apos) [k, e] [] cpos) pos) (sInsS i g f) := by
  obtain ⟨t, p, s⟩ := he
  obtain ⟨t', p', s'⟩ := hk
  refine ⟨_, ps_expr (pe_bm PySem.F.plainAttrs_list PySem.F.slot_list_insert PySem.F.type_list_insert mt_insert (pe_var hN hv hd hcd) (pa_cons p' (pa_cons p pa_nil hst2) hst) hbase hfew hline hst hplain) hsw, fun F H σ env fp D sat h => ?_⟩
  obtain ⟨os, eo, h⟩ := ownL_post h
  obtain ⟨a, vs, fo, c1, c0, c2, c3, c4, c5, c6, c7⟩ := sat.mut eo
  refine ⟨.ref a, c1, .inl ⟨rfl, vs, SqL.of c2⟩, ?_⟩
  refine s'.st sat h fun d u F1 H1 sat1 q1 x1 h2 => ?_
  cases d with
  | int n =>
    cases dp_int q1
    obtain ⟨a', vs', fo', d1, d0, d2, d3, d4, d5, d6, d7⟩ := sat1.mut eo
    rw [c1] at d1; cases d1
    rw [x1.hh _ _ c2] at d2; cases d2
    refine s F1 H1 σ env fp _ sat1 ?_
    cases ef : f env with
    | no => simp only [ef] at h2; exact h2
    | ex c => simp only [ef] at h2; exact fun C F' H' m x => h2 C σ F' H' fp m (.refl _ _) (StepS.of_ext x fp) (sat1.ext x)
    | ok r =>
      simp only [ef] at h2
      intro v F2 H2 x2 ⟨fx, ow, nx, fr⟩
      simp only [R.st_ok] at h2
      split at h2
      · rename_i os' hos
        unfold insO at hos
        split at hos
        · rename_i cc
          cases hos
          have c2' := x1.hh _ _ c2
          have hb := x2.hh _ _ c2'
          have la := OwnAll.len d3
          obtain ⟨fo2, g1, g2, g3⟩ := OwnAll.drop' n.toNat (own_mut (vs' := vs.take n.toNat ++ [v] ++ vs.drop n.toNat) x2 c2' d3 d5) (own_mut1 x2.fh (mut_free x2 d0 c2') hb ow fun z => by rw [fr a z] at c2'; cases c2') d4 nx fun b hb z => by
            obtain ⟨_, w, e⟩ := OwnAll.there _ _ _ d3 b z
            rw [fr b hb] at e; cases e
          obtain ⟨fp', st, sat'⟩ := d7 F2 H2 _ _ fo2 x2 g1 g2 fun b hb => (g3 b hb).imp id (fr b)
          exact ⟨a, vs, n, v, rfl, rfl, hb, by rw [la]; exact cc.1, cc.2.1, cc.2.2, h2 σ F2 _ fp' (.refl _ _) st sat'⟩
        · cases hos
      · exact h2.elim
  | _ => exact h2.elim
theorem sInsS_of {i : Nat} {g : Ev → R D} {f : Ev → R Ow} {env : Ev} {os : List Ow} {n : Nat} {r : Ow} (h0 : env[i]? = some (some (.l os))) (h1 : g env = .ok (.int (n : Nat))) (h2 : f env = .ok r) (hl : os.length < 1000) (hn : n ≤ 1000) : sInsS i g f env = .nx (env.set i (some (.l (os.take n ++ [r] ++ os.drop n)))) := by
  unfold sInsS
  rw [ownL_of env h0, h1]
  show (f env).st env (fun r => match insO os r (n : Int) with
    | some os' => .nx (env.set i (some (.l os')))
    | none => .no) = _
  rw [h2, R.st_ok]
  have : insO os r (n : Int) = some (os.take n ++ [r] ++ os.drop n) := by
    unfold insO
    rw [if_pos ⟨by rw [sizeLine_eq]; omega, by omega, by omega⟩, Int.toNat_natCast]
  rw [this]
end
end Mir
end
set_option Elab.async false
set_option linter.all false
set_option maxRecDepth 100000
set_option maxHeartbeats 4000000
noncomputable section
namespace Mir
open PySem PySem.Spec PyProof.Rows L2
section
variable {K : Kw} {F H : Hp} {σ : L2.St} {env : Ev} {fp : List Addr}
end
section
variable {X : Cx} {W : WX} {S : Nat → Bool} {e k k2 : Expr} {pos cpos apos npos tpos tpos2 : Pos} {x : Str}
end
end Mir
end
set_option Elab.async false
set_option linter.all false
set_option maxRecDepth 100000
set_option maxHeartbeats 4000000
noncomputable section
namespace Mir
open PySem PySem.Spec PyProof.Rows L2
section
variable {X : Cx} {W : WX} {S : Nat → Bool} {e k : Expr} {es : List Expr} {pos cpos apos npos p p2 pos2 : Pos} {x : Str} {tg : Expr}
def mergeD (acc : List (D × D)) (ps : List (Str × D)) : List (D × D) := ps.foldl (fun acc p => putP acc (.str p.1) p.2) acc
def eDictOf (f : Ev → R D) (env : Ev) : R Ow := (f env).bind fun d => match asPairs d with
  | none => .no
  | some ps => .ok (.m (mergeD [] ps))
@[simp] theorem eDictOf_eq (f : Ev → R D) (env : Ev) : eDictOf f env = (f env).bind fun d => match asPairs d with
  | none => .no
  | some ps => .ok (.m (mergeD [] ps)) := rfl
def PAo (K : Kw) (H : Hp) (os : List Ow) (vs : List V) (F' H' : Hp) : Prop := ∃ fp, OwnAll K F' H' vs os fp ∧ fp.Nodup ∧ ∀ b ∈ fp, H b = none
def DAo (X : Cx) (W : WX) (es : List Expr) (f : Ev → R (List Ow)) : Prop := ∃ t, PA X es t ∧ Sm X W (PAo X.KK) t f
def oNil (_ : Ev) : R (List Ow) := .ok []
def oCons (f : Ev → R Ow) (g : Ev → R (List Ow)) (env : Ev) : R (List Ow) := (f env).bind fun o => (g env).map fun os => o :: os
@[simp] theorem oNil_eq (env : Ev) : oNil env = .ok [] := rfl
@[simp] theorem oCons_eq (f : Ev → R Ow) (g : Ev → R (List Ow)) (env : Ev) : oCons f g env = (f env).bind fun o => (g env).map fun os => o :: os := rfl
theorem dao_nil : DAo X W [] oNil := ⟨_, pa_nil, fun F H σ env fp Q sat h => h _ F H (.refl sat.fh) ⟨[], .nil, List.nodup_nil, fun b z => nomatch z⟩⟩
theorem dao_cons {f : Ev → R Ow} {g : Ev → R (List Ow)} (hf : DE X W e f) (hg : DAo X W es g) (hs : starEach (e :: es) X.env = (false, eval e X.env) :: starEach es X.env := by rfl) : DAo X W (e :: es) (oCons f g) := by
  obtain ⟨t, p, s⟩ := hf
  obtain ⟨t', p', s'⟩ := hg
  refine ⟨_, pa_cons p p' hs, fun F H σ env fp Q sat h => ?_⟩
  refine s F H σ env fp _ sat ?_
  unfold oCons at h
  cases ef : f env with
  | no => rw [ef] at h; exact h.elim
  | ex c => rw [ef] at h; exact h
  | ok o =>
    rw [ef] at h
    intro v F1 H1 x1 ⟨fx, ow, nx, fr⟩
    refine s' F1 H1 σ env fp _ (sat.ext x1) ?_
    cases eg : g env with
    | no => rw [eg] at h; exact h.elim
    | ex c => rw [eg] at h; exact fun C F' H' m x => h C F' H' m (x1.trans x)
    | ok os =>
      rw [eg] at h
      intro vs F2 H2 x2 ⟨fy, oy, ny, fry⟩
      have h' : Post X W (PAo X.KK) F H σ (.ok (o :: os)) Q := h
      refine h' (v :: vs) F2 H2 (x1.trans x2) ⟨fx ++ fy, .cons (ow.ext x2) oy, ?_, fun b hb => ?_⟩
      · rw [List.nodup_append]
        refine ⟨nx, ny, fun a ha b hb e => ?_⟩
        subst e
        obtain ⟨_, w, e⟩ := OwnAt.there _ _ _ ow a ha
        rw [fry a hb] at e; cases e
      · rcases List.mem_append.mp hb with z | z
        · exact fr b z
        · cases hz : H b with
          | none => rfl
          | some w => have := x1.hh _ _ hz; rw [fry b z] at this; cases this
def eLstO (f : Ev → R (List Ow)) (env : Ev) : R Ow := (f env).bind fun os => guard (os.length ≤ sizeLine) (.ok (.l os))
@[simp] theorem eLstO_eq (f : Ev → R (List Ow)) (env : Ev) : eLstO f env = (f env).bind fun os => guard (os.length ≤ sizeLine) (.ok (.l os)) := rfl
theorem de_lstO {f : Ev → R (List Ow)} (hf : DAo X W es f) : DE X W (.List es pos) (eLstO f) := by
  obtain ⟨t, p, s⟩ := hf
  refine ⟨_, pe_lst p, fun F H σ env fp Q sat h => ?_⟩
  refine s F H σ env fp _ sat ?_
  unfold eLstO at h
  cases ef : f env with
  | no => rw [ef] at h; exact h.elim
  | ex c => rw [ef] at h; exact h
  | ok os =>
    rw [ef] at h
    have h' : Post X W (POw X.KK) F H σ (guard (os.length ≤ sizeLine) (.ok (.l os))) Q := h
    intro vs F1 H1 x1 ⟨fy, oy, ny, fry⟩
    obtain ⟨hl, h2⟩ := guard_post h'
    refine ⟨by rw [OwnAll.len oy]; exact hl, fun p hp => ?_⟩
    have fh := x1.fh
    have x := Ext.own fh hp (.lst vs)
    have fp0 : ∀ b ∈ fy, b ≠ p := fun b hb e => by
      subst e
      obtain ⟨_, w, e⟩ := OwnAll.there _ _ _ oy b hb
      rw [hp] at e; cases e
    refine h2 _ F1 _ (x1.trans x) ⟨p :: fy, .l (free_of fh hp) upd_same (oy.ext x), List.nodup_cons.mpr ⟨fun z => fp0 p z rfl, ny⟩, fun b hb => ?_⟩
    rcases List.mem_cons.mp hb with z | z
    · subst z
      cases hz : H b with
      | none => rfl
      | some w => have := x1.hh _ _ hz; rw [hp] at this; cases this
    · exact fry b z
def eLenO (f : Ev → R Ow) (env : Ev) : R D := (f env).bind fun o => match o with
  | .l os => .ok (.int (os.length : Nat))
  | _ => .no
@[simp] theorem eLenO_eq (f : Ev → R Ow) (env : Ev) : eLenO f env = (f env).bind fun o => match o with
  | .l os => .ok (.int (os.length : Nat))
  | _ => .no := rfl
end
end Mir
end
set_option Elab.async false
set_option linter.all false
set_option maxRecDepth 100000
set_option maxHeartbeats 4000000
noncomputable section
namespace Mir
open PySem PySem.Spec PyProof.Rows L2
section
variable {K : Kw} {F H : Hp} {σ : L2.St} {env : Ev} {fp : List Addr}
end
section
variable {X : Cx} {W : WX} {S : Nat → Bool} {e k k2 : Expr} {pos npos tpos tpos2 : Pos} {x : Str}
end

section
variable {X : Cx} {W : WX} {S : Nat → Bool} {e : Expr} {st : Stmt} {fs : Ev → SR}
/-- an item of an own list, which is data -/
def asD : Ow → R D
  | .d x => .ok x
  | _ => .no
@[simp] theorem asD_d (x : D) : asD (.d x) = .ok x := rfl
end
end Mir
end
set_option Elab.async false
set_option linter.all false
set_option maxRecDepth 100000
set_option maxHeartbeats 4000000
noncomputable section
namespace Mir
open PySem PySem.Spec PyProof.Rows L2
section
variable {X : Cx} {W : WX} {S : Nat → Bool} {pos npos ypos : Pos} {x y : Str} {fs : Ev → SR}
end
end Mir
end
set_option Elab.async false
set_option linter.all false
set_option maxRecDepth 100000
set_option maxHeartbeats 4000000
noncomputable section
namespace Mir
open PySem PySem.Spec L2
section
variable {X : Cx} {es : List Expr} {pos : Pos}
def xLst (f : Ev → R (List D × Ev)) (env : Ev) : R (D × Ev) := (f env).bind fun p => guard (p.1.length ≤ sizeLine) (.ok (.list p.1, p.2))
@[simp] theorem xLst_eq (f : Ev → R (List D × Ev)) (env : Ev) : xLst f env = (f env).bind fun p => guard (p.1.length ≤ sizeLine) (.ok (.list p.1, p.2)) := rfl
end
end Mir
end
set_option Elab.async false
set_option linter.all false
set_option maxRecDepth 100000
set_option maxHeartbeats 4000000
noncomputable section
namespace Mir
open PySem PySem.Spec L2
section
variable {X : Cx} {W : WX} {S : Nat → Bool} {pos : Pos} {e a b : Expr} {x : Str} {npos : Pos}
end
end Mir
end
set_option Elab.async false
set_option linter.all false
set_option maxRecDepth 100000
set_option maxHeartbeats 4000000
noncomputable section
namespace Mir
open PySem PySem.Spec PyProof.Rows L2
section
variable {X : Cx} {W : WX} {o e : Expr} {apos cpos : Pos} {f g : Ev → R D}
def rTxIndex (x : V) (xs : List V) (H : Hp) (Q : VK) : Prop := ∃ a y i rest, x = .str a ∧ xs = [.str y] ∧ Builtin.Str.occurrences a y 0 a.length 1 = i :: rest ∧ Q (.int (i : Nat)) H
theorem mt_txIndex : MtR X "str.index" rTxIndex := by
  intro pins s σ H x xs v us Q I rx rv h
  obtain ⟨a, y, i, rest, rfl, rfl, ho, q⟩ := h
  obtain ⟨t, rfl⟩ := rx
  obtain ⟨u, rfl, ru⟩ := rv.one
  obtain ⟨t2, rfl⟩ := ru
  exact SC.index ho ⟨.int (i : Nat), H, I.tok _, ⟨_, rfl⟩, q⟩
def firstAt (z : Str) : List Str → Nat → Option Nat
  | [], _ => none
  | y :: ys, k => if (y == z) = true then some k else firstAt z ys (k + 1)
def firstAtI (z : Int) : List Int → Nat → Option Nat
  | [], _ => none
  | y :: ys, k => if y = z then some k else firstAtI z ys (k + 1)
/-- x.index(y): a text in a text, among texts, or a whole number among such -/
def gIndex : D → D → Option D
  | .str a, .str y => match Builtin.Str.occurrences a y 0 a.length 1 with
    | i :: _ => some (.int (i : Nat))
    | [] => none
  | .list ds, .str z => (strsD ds).bind fun ys => (firstAt z ys 0).map fun j => .int (j : Nat)
  | .list ds, .int z => (intsD ds).bind fun ys => (firstAtI z ys 0).map fun j => .int (j : Nat)
  | _, _ => none
def eTxIndex (f g : Ev → R D) (env : Ev) : R D := (f env).bind fun d => match d with
  | .str a => (g env).bind fun y => R.of (gIndex (.str a) y)
  | _ => .no
theorem df_txIndex (ho : DV X W o f) (he : DV X W e g)
    (hbase : attributeBase o "index" X.env (eval o X.env) = eval o X.env := by rfl)
    (hfew : ((backTo cpos (starEach [e] X.env)).all (fun x => !x.1) && (backToKw cpos (keywordEach [] X.env)).all (fun x => x.1.isSome) && decide ([e].length + ([] : List Keyword).length + (if ([] : List Keyword).isEmpty then 0 else 1) < 30)) = true := by rfl)
    (hline : (apos.endLine == cpos.line) = true := by rfl) (hst : starEach [e] X.env = (false, eval e X.env) :: starEach [] X.env := by rfl) (hplain : (backTo cpos (starEach [] X.env)).any (·.1) = false := by rfl) :
    DF X W (.Call (.Attribute o "index" apos) [e] [] cpos) (eTxIndex f g) := by
  obtain ⟨ta, pa, sa⟩ := ho
  obtain ⟨tb, pb, sb⟩ := he
  refine ⟨_, pe_bm PySem.F.plainAttrs_str PySem.F.slot_str_index PySem.F.type_str_index mt_txIndex pa (pa_cons pb pa_nil hst) hbase hfew hline hst hplain, fun F H σ env fp Q sat hp => ?_⟩
  refine sa.go sat hp fun d v F1 H1 sat1 q _ h1 => ?_
  cases d with
  | str a =>
    cases dp_str q
    refine ⟨rfl, ?_⟩
    refine sb.go sat1 h1 fun d' y F2 H2 sat2 q' x2 h2 => ?_
    obtain ⟨r, hr, h3⟩ := post_of h2
    cases d' with
    | str b =>
      cases dp_str q'
      have hr : (match Builtin.Str.occurrences a b 0 a.length 1 with
        | i :: _ => some (PyData.int (i : Nat))
        | [] => none) = some r := hr
      cases ho : Builtin.Str.occurrences a b 0 a.length 1 with
      | nil => rw [ho] at hr; cases hr
      | cons i rest =>
        rw [ho] at hr
        cases hr
        exact ⟨a, b, i, rest, rfl, rfl, ho, h3 _ F2 H2 (.refl sat2.fh) (.int _)⟩
    | _ => cases hr
  | _ => exact h1.elim
end
end Mir
end
set_option Elab.async false
set_option linter.all false
set_option maxRecDepth 100000
set_option maxHeartbeats 4000000
noncomputable section
namespace Mir
open PySem PySem.Spec PyProof.Rows L2
section
variable {X : Cx} {W : WX}
end
end Mir
end
set_option Elab.async false
set_option linter.all false
set_option maxRecDepth 100000
set_option maxHeartbeats 4000000
noncomputable section
namespace Mir
open PySem PySem.Spec PyProof.Rows L2
/-- what an exception at hand may be tracked as -/
structure ExH (φ : Heap → Prop) (cls : Value) (d : Option Addr) (a : Addr) : Prop where
  of : ∀ (h : Heap) (oe : Obj) (vs : Array Value), h.get? a = some oe → Zc cls d oe → oe.data = .fields vs → φ h
  st : ∀ h1 h2 : Heap, φ h1 → (∀ o, h1.get? a = some o → h2.get? a = some o) → φ h2
section
variable {X : Cx} {x n : Str} {c : Value} {i : Nat} {body suite : List Stmt} {b₀ : Stmt} {np pos pos' : Pos} {tb : WX → TS} {ts : TS} {Wout : WX}
end
/-- what each class is, where it is caught: true, let out: false; else not mirrored -/
def lookE : List (Str × Bool) → Str → Option Bool
  | [], _ => none
  | p :: ps, c => if p.1 = c then some p.2 else lookE ps c
/-- the own classes of a program, where they stand -/
structure OwnC (K : PySem.W.Frag) (mg : Str → Option Value) (c : Str) (C : Addr) : Prop where
  ns : PySem.W.nsIn K mainGlobals c = some (some (.ref C))
  gC : mg c = some (.ref C)
inductive CatchT (K : PySem.W.Frag) (mg : Str → Option Value) (x : Addr) : List (Str × Bool) → Prop
  | nil : CatchT K mg x []
  | cons {c : Str} {C : Addr} {b : Bool} {l : List (Str × Bool)} : OwnC K mg c C → PySem.W.exmOne K (.ref C) (.ref x) = some b → CatchT K mg x l → CatchT K mg x ((c, b) :: l)
/-- slot i holds nothing behind the suite -/
def dropT (i : Nat) : SR → SR
  | .nx env => .nx (env.set i none)
  | .rt r env => .rt r env
  | _ => .no
section
variable {X : Cx} {W : WX} {S : Nat → Bool} {x n : Str} {np pos pos' : Pos}
end
inductive TyE (K : Kw) (H : Hp) (x : V) (t : Value) : Prop
  | ty (h : TyX K.K H x t) : TyE K H x t
  | exc {a : Addr} {c : Str} {C : Addr} (hx : x = .ref a) (ht : t = .ref C) (ha : Rd H a (excO K a c)) (hc : PySem.W.nsIn K.K mainGlobals c = some (some (.ref C))) (ec : ExcC K.K C) : TyE K H x t
section
variable {X : Cx}
end
/-- a class asked of each own class, and of None -/
inductive AskT (K : PySem.W.Frag) (us : List Value) : List (Str × Bool) → Prop
  | nil : AskT K us []
  | cons {c : Str} {C : Addr} {b : Bool} {l : List (Str × Bool)} : PySem.W.nsIn K mainGlobals c = some (some (.ref C)) → ExcC K C → PySem.W.kitAny K (.ref C) us = some b → AskT K us l → AskT K us ((c, b) :: l)
/-- isinstance(e, X), e an exception or None -/
def gIsE (l : List (Str × Bool)) : D → R D
  | .none => .ok (.bool false)
  | .dict [(.none, .str c)] => match lookE l c with
    | some b => .ok (.bool b)
    | none => .no
  | _ => .no
@[simp] theorem gIsE_none (l : List (Str × Bool)) : gIsE l .none = .ok (.bool false) := rfl
section
variable {X : Cx} {W : WX} {a : Expr} {pos p p2 : Pos} {T : Str} {f : Ev → R D}
end
end Mir
end
set_option Elab.async false
set_option linter.all false
set_option maxRecDepth 100000
set_option maxHeartbeats 4000000
noncomputable section
namespace Mir
open PySem PySem.Spec PyProof.Rows L2
mutual
/-- data without lists and dicts: it can't lead to what may change -/
def cleanD : D → Bool
  | .none => true
  | .bool _ => true
  | .int _ => true
  | .str _ => true
  | .list _ => false
  | .tuple ds => cleanDs ds
  | .dict _ => false
def cleanDs : List D → Bool
  | [] => true
  | d :: ds => cleanD d && cleanDs ds
end
def cleanKv : List (D × D) → Bool
  | [] => true
  | p :: ps => cleanD p.2 && cleanKv ps
mutual
def cleanO : Ow → Bool
  | .d x => cleanD x
  | .l xs => cleanOs xs
  | .m ps => cleanKv ps
  | .t xs => cleanOs xs
  | .k _ xs => cleanOs xs
  | .n _ xs => cleanOs xs
  | .o _ _ xs => cleanOs xs
def cleanOs : List Ow → Bool
  | [] => true
  | o :: os => cleanO o && cleanOs os
end
theorem cleanOs_iff : ∀ ds : List Ow, cleanOs ds = true ↔ ∀ d ∈ ds, cleanO d = true
  | [] => by rw [cleanOs]; simp
  | d :: ds => by rw [cleanOs, Bool.and_eq_true, cleanOs_iff ds]; simp
mutual
theorem clean_key : ∀ k : NestedKey, cleanD k.data = true
  | .none => by rw [NestedKey.data, cleanD]
  | .num _ => by rw [NestedKey.data, cleanD]
  | .text _ => by rw [NestedKey.data, cleanD]
  | .tup ks => by rw [NestedKey.data, cleanD]; exact clean_keys ks
theorem clean_keys : ∀ ks : List NestedKey, cleanDs (NestedKey.datas ks) = true
  | [] => by rw [NestedKey.datas, cleanDs]
  | k :: ks => by rw [NestedKey.datas, cleanDs, clean_key k, clean_keys ks]; rfl
end
section
variable {K : Kw} {F' F'' H' : Hp} (hT : ∀ a xs, SqT K.K F' a xs → SqT K.K F'' a xs)
include hT
mutual
theorem Dp.thaw : ∀ (d : D) (v : V), Dp K F' v d → cleanD d = true → Dp K F'' v d
  | .none, _, h, _ => by rw [dp_none h]; exact .non
  | .bool b, _, h, _ => by rw [dp_bool h]; exact .bl b
  | .int i, _, h, _ => by rw [dp_int h]; exact .int i
  | .str z, _, h, _ => by rw [dp_str h]; exact .str z
  | .list _, _, _, c => by rw [cleanD] at c; cases c
  | .dict _, _, _, c => by rw [cleanD] at c; cases c
  | .tuple ds, _, h, c => by
    rw [cleanD] at c
    cases h with
    | tup h1 h2 => exact .tup (hT _ _ h1) (DpAll.thaw ds _ h2 c)
theorem DpAll.thaw : ∀ (ds : List D) (vs : List V), DpAll K F' vs ds → cleanDs ds = true → DpAll K F'' vs ds
  | [], _, h, _ => by cases h; exact .nil
  | d :: ds, _, h, c => by
    rw [cleanDs, Bool.and_eq_true] at c
    cases h with
    | cons h1 h2 => exact .cons (Dp.thaw d _ h1 c.1) (DpAll.thaw ds _ h2 c.2)
end
theorem DpKv.thaw : ∀ (ps : List (D × D)) (kvs : List (Key × V)), DpKv K F' kvs ps → cleanKv ps = true → DpKv K F'' kvs ps
  | [], _, h, _ => by cases h; exact .nil
  | p :: ps, _, h, c => by
    rw [cleanKv, Bool.and_eq_true] at c
    cases h with
    | cons h1 h2 => exact .cons (Dp.thaw hT _ _ h1 c.1) (DpKv.thaw ps _ h2 c.2)
variable (hn : ∀ b, F' b = none → F'' b = none)
include hn
mutual
theorem OwnAt.thaw : ∀ (o : Ow) (v : V) (fp : List Addr), OwnAt K F' H' v o fp → cleanO o = true → OwnAt K F'' H' v o fp
  | .d x, v, fp, h, c => by
    rw [cleanO] at c
    cases h with
    | d q => exact .d (Dp.thaw hT x v q c)
  | .l os, v, fp, h, c => by
    rw [cleanO] at c
    cases h with
    | l h1 h2 h3 => exact .l (hn _ h1) h2 (OwnAll.thaw os _ _ h3 c)
  | .m ps, v, fp, h, c => by
    rw [cleanO] at c
    cases h with
    | m h1 h2 h3 => exact .m (hn _ h1) h2 (DpKv.thaw hT ps _ h3 c)
  | .t os, v, fp, h, c => by
    rw [cleanO] at c
    cases h with
    | t h1 h2 => exact .t (hT _ _ h1) (OwnAll.thaw os _ _ h2 c)
  | .k _ os, v, fp, h, c => by
    rw [cleanO] at c
    cases h with
    | k h1 h2 h3 => exact .k (hn _ h1) h2 (OwnAll.thaw os _ _ h3 c)
  | .n _ os, v, fp, h, c => by
    rw [cleanO] at c
    cases h with
    | n h1 h2 h3 h4 => exact .n (hn _ h1) h2 (fun p hp => ⟨Dp.thaw hT _ _ (h3 p hp).1 (clean_key _), (h3 p hp).2⟩) (OwnAll.thaw os _ _ h4 c)
  | .o _ _ os, v, fp, h, c => by
    rw [cleanO] at c
    cases h with
    | o h0 h1 h2 h3 h4 h5 => exact .o h0 (hn _ h1) (hn _ h2) h3 h4 (OwnAll.thaw os _ _ h5 c)
theorem OwnAll.thaw : ∀ (os : List Ow) (vs : List V) (fp : List Addr), OwnAll K F' H' vs os fp → cleanOs os = true → OwnAll K F'' H' vs os fp
  | [], vs, fp, h, _ => by cases h; exact .nil
  | o :: os, vs, fp, h, c => by
    rw [cleanOs, Bool.and_eq_true] at c
    cases h with
    | cons h1 h2 => exact .cons (OwnAt.thaw o _ _ h1 c.1) (OwnAll.thaw os _ _ h2 c.2)
end
end
/-- neither a tuple nor a thing that is held still -/
def notT (u : HO) : Prop := (∀ xs, u ≠ .tup xs) ∧ ∀ o w, u ≠ .frz o w
mutual
theorem OwnAt.kinds {K : Kw} {F H : Hp} : ∀ (o : Ow) (v : V) (fp : List Addr), OwnAt K F H v o fp → ∀ b ∈ fp, ∃ u, H b = some u ∧ notT u
  | .d x, v, fp, h, b, hb => by cases h; cases hb
  | .l os, v, fp, h, b, hb => by
    cases h with
    | l h1 h2 h3 =>
      rcases List.mem_cons.mp hb with e | e
      · subst e; exact ⟨_, h2, (fun _ z => nomatch z), fun _ _ z => nomatch z⟩
      · exact OwnAll.kinds os _ _ h3 b e
  | .m ps, v, fp, h, b, hb => by
    cases h with
    | m h1 h2 h3 =>
      rw [List.mem_singleton] at hb
      subst hb; exact ⟨_, h2, (fun _ z => nomatch z), fun _ _ z => nomatch z⟩
  | .t os, v, fp, h, b, hb => by
    cases h with
    | t h1 h2 => exact OwnAll.kinds os _ _ h2 b hb
  | .k _ os, v, fp, h, b, hb => by
    cases h with
    | k h1 h2 h3 =>
      rcases List.mem_cons.mp hb with e | e
      · subst e; exact ⟨_, h2, (fun _ z => nomatch z), fun _ _ z => nomatch z⟩
      · exact OwnAll.kinds os _ _ h3 b e
  | .n _ os, v, fp, h, b, hb => by
    cases h with
    | n h1 h2 h3 h4 =>
      rcases List.mem_cons.mp hb with e | e
      · subst e; exact ⟨_, h2, (fun _ z => nomatch z), fun _ _ z => nomatch z⟩
      · exact OwnAll.kinds os _ _ h4 b e
  | .o _ _ os, v, fp, h, b, hb => by
    cases h with
    | o h0 h1 h2 h3 h4 h5 =>
      rcases List.mem_cons.mp hb with e | e
      · subst e; exact ⟨_, h3, (fun _ z => nomatch z), fun _ _ z => nomatch z⟩
      · rcases List.mem_cons.mp e with e | e
        · subst e; exact ⟨_, h4, (fun _ z => nomatch z), fun _ _ z => nomatch z⟩
        · exact OwnAll.kinds os _ _ h5 b e
theorem OwnAll.kinds {K : Kw} {F H : Hp} : ∀ (o : List Ow) (v : List V) (fp : List Addr), OwnAll K F H v o fp → ∀ b ∈ fp, ∃ u, H b = some u ∧ notT u
  | [], v, fp, h, b, hb => by cases h; cases hb
  | o :: os, v, fp, h, b, hb => by
    cases h with
    | cons h1 h2 =>
      rcases List.mem_append.mp hb with e | e
      · exact OwnAt.kinds o _ _ h1 b e
      · exact OwnAll.kinds os _ _ h2 b e
end
/-- the slots behind the statement: slot i is own again, those of dead are forgotten -/
def thawL (i : Nat) (o : Ow) (dead : List Nat) : Nat → Ev → Ev
  | _, [] => []
  | n, x :: xs => (if n = i then some o else if n ∈ dead then none else x) :: thawL i o dead (n + 1) xs
/-- what may stand in the other slots -/
def okAt (i : Nat) (dead keep : List Nat) (env : Ev) (n : Nat) (x : Option Ow) : Prop := n = i ∨ n ∈ dead ∨ x = none ∨ (∃ o, x = some o ∧ cleanO o = true) ∨ (n ∈ keep ∧ ∃ d, x = some (.d d) ∧ env[n]? = some (some (.d d)))
def okThaw (i : Nat) (dead keep : List Nat) (env env' : Ev) : Prop := ∀ j x, env'[j]? = some x → okAt i dead keep env j x
theorem thaw_env {K : Kw} {F' F'' H' : Hp} (hT : ∀ a xs, SqT K.K F' a xs → SqT K.K F'' a xs) (hn : ∀ b, F' b = none → F'' b = none) {i : Nat} {o : Ow} {dead keep : List Nat} {env : Ev} {v : V} {fo : List Addr} (ho : OwnAt K F'' H' v o fo) (no : fo.Nodup) :
    ∀ {σ : L2.St} {env' : Ev} {fp : List Addr}, EnvAt K F' H' σ env' fp → fp.Nodup → (∀ b ∈ fo, b ∉ fp) → ∀ n, (∀ j x, env'[j]? = some x → okAt i dead keep env (n + j) x) → (∀ j d, n + j ∈ keep → env[n + j]? = some (some (.d d)) → j < env'.length → ∃ v, σ[j]? = some (some v) ∧ Dp K F'' v d) →
    (∀ j, n + j = i → j < env'.length → σ[j]? = some (some v)) → ∃ fp', EnvAt K F'' H' σ (thawL i o dead n env') fp' ∧ fp'.Nodup ∧ ∀ b ∈ fp', b ∈ fp ∨ (b ∈ fo ∧ n ≤ i) := by
  intro σ env' fp h
  induction h with
  | nil => intro _ _ n _ _ _; exact ⟨[], .nil, List.nodup_nil, fun b z => nomatch z⟩
  | @non x σ' env2 fps h ih =>
    intro nd dj n ok kp sl
    obtain ⟨fp', e1, e2, e3⟩ := ih nd dj (n + 1) (fun j x hx => by have := ok (j + 1) x (by simpa using hx); rwa [show n + (j + 1) = n + 1 + j by omega] at this)
      (fun j d hj hd hl => by
        obtain ⟨v, a, b⟩ := kp (j + 1) d (by rwa [show n + (j + 1) = n + 1 + j by omega]) (by rwa [show n + (j + 1) = n + 1 + j by omega]) (by simpa using hl)
        exact ⟨v, by simpa using a, b⟩)
      (fun j hj hl => by simpa using sl (j + 1) (by omega) (by simpa using hl))
    unfold thawL
    by_cases hi : n = i
    · rw [if_pos hi]
      have hs := sl 0 (by omega) (by simp)
      simp only [List.getElem?_cons_zero, Option.some.injEq] at hs
      subst hs
      refine ⟨fo ++ fp', .som ho e1, ?_, fun b hb => ?_⟩
      · rw [List.nodup_append]
        refine ⟨no, e2, fun a ha b hb e => ?_⟩
        subst e
        rcases e3 a hb with z | z
        · exact dj a ha z
        · omega
      · rcases List.mem_append.mp hb with z | z
        · exact .inr ⟨z, by omega⟩
        · rcases e3 b z with z | z
          · exact .inl z
          · omega
    · rw [if_neg hi]
      have : (if n ∈ dead then (none : Option Ow) else none) = none := by split <;> rfl
      rw [this]
      exact ⟨fp', .non e1, e2, fun b hb => (e3 b hb).imp id fun z => ⟨z.1, by omega⟩⟩
  | @som u w σ' env2 f1 fps h1 h2 ih =>
    intro nd dj n ok kp sl
    rw [List.nodup_append] at nd
    obtain ⟨n1, n2, n3⟩ := nd
    obtain ⟨fp', e1, e2, e3⟩ := ih n2 (fun b hb z => dj b hb (List.mem_append_right _ z)) (n + 1) (fun j x hx => by have := ok (j + 1) x (by simpa using hx); rwa [show n + (j + 1) = n + 1 + j by omega] at this)
      (fun j d hj hd hl => by
        obtain ⟨v, a, b⟩ := kp (j + 1) d (by rwa [show n + (j + 1) = n + 1 + j by omega]) (by rwa [show n + (j + 1) = n + 1 + j by omega]) (by simpa using hl)
        exact ⟨v, by simpa using a, b⟩)
      (fun j hj hl => by simpa using sl (j + 1) (by omega) (by simpa using hl))
    unfold thawL
    by_cases hi : n = i
    · rw [if_pos hi]
      have hs := sl 0 (by omega) (by simp)
      simp only [List.getElem?_cons_zero, Option.some.injEq] at hs
      subst hs
      refine ⟨fo ++ fp', .som ho e1, ?_, fun b hb => ?_⟩
      · rw [List.nodup_append]
        refine ⟨no, e2, fun a ha b hb e => ?_⟩
        subst e
        rcases e3 a hb with z | z
        · exact dj a ha (List.mem_append_right _ z)
        · omega
      · rcases List.mem_append.mp hb with z | z
        · exact .inr ⟨z, by omega⟩
        · rcases e3 b z with z | z
          · exact .inl (List.mem_append_right _ z)
          · omega
    · rw [if_neg hi]
      by_cases hd : n ∈ dead
      · rw [if_pos hd]
        exact ⟨fp', .non e1, e2, fun b hb => (e3 b hb).imp (List.mem_append_right _) fun z => ⟨z.1, by omega⟩⟩
      · rw [if_neg hd]
        have key : ∃ g, OwnAt K F'' H' u w g ∧ g.Nodup ∧ ∀ b ∈ g, b ∈ f1 := by
          rcases ok 0 (some w) rfl with z | z | z | ⟨o', z, c⟩ | ⟨z, d, e, ee⟩
          · omega
          · exact absurd z hd
          · cases z
          · cases z
            exact ⟨f1, OwnAt.thaw hT hn _ _ _ h1 c, n1, fun _ z => z⟩
          · cases e
            obtain ⟨v', a, b⟩ := kp 0 d z ee (by simp)
            simp only [List.getElem?_cons_zero, Option.some.injEq] at a
            subst a
            exact ⟨[], .d b, List.nodup_nil, fun b z => nomatch z⟩
        obtain ⟨g, g1, g2, g3⟩ := key
        refine ⟨g ++ fp', .som g1 e1, ?_, fun b hb => ?_⟩
        · rw [List.nodup_append]
          refine ⟨g2, e2, fun a ha b hb e => ?_⟩
          subst e
          rcases e3 a hb with z | z
          · exact n3 a (g3 a ha) a z rfl
          · exact dj a z.1 (List.mem_append_left _ (g3 a ha))
        · rcases List.mem_append.mp hb with z | z
          · exact .inl (List.mem_append_left _ (g3 b z))
          · exact (e3 b z).imp (List.mem_append_right _) fun z => ⟨z.1, by omega⟩
/-- the slots that the statement leaves alone -/
def thawS (i : Nat) (keep : List Nat) (S : Nat → Bool) (j : Nat) : Bool := !(j == i) && !(keep.contains j) && S j
def thawR (i : Nat) (o : Ow) (dead keep : List Nat) (env env' : Ev) (f : Ev → SR) : SR := @ite _ (okThaw i dead keep env env' ∧ i < env'.length) (Classical.propDecidable _) (f (thawL i o dead 0 env')) .no
def sThaw (i : Nat) (dead keep : List Nat) (f : Ev → SR) (env : Ev) : SR := match env[i]? with
  | some (some o) => match f (env.set i (some (.d (viewD o)))) with
    | .nx env' => thawR i o dead keep env env' .nx
    | .bk env' => thawR i o dead keep env env' .bk
    | .ct env' => thawR i o dead keep env env' .ct
    | r => r
  | _ => .no
section
variable {X : Cx} {W : WX} {S : Nat → Bool} {fs : Ev → SR} {st : Stmt}
theorem thaw_sm {t : TS} (i : Nat) (dead keep : List Nat) (s : SmS X W (thawS i keep S) t fs) : SmS X W S t (sThaw i dead keep fs) := by
  intro F H σ env fp D sat h
  unfold sThaw at h
  cases he : env[i]? with
  | none => rw [he] at h; exact h.elim
  | some q =>
  cases q with
  | none => rw [he] at h; exact h.elim
  | some o =>
  rw [he] at h
  simp only at h
  have hi : i < env.length := (List.getElem?_eq_some_iff.mp he).1
  obtain ⟨fr, fo, a1, a2, a3, a3', a4, a5, a6⟩ := sat.en.put hi sat.nd
  obtain ⟨v, e1, e2⟩ := a5 o he
  have nx : ∀ b ∈ fo, F b = none := fun b hb => (OwnAt.there _ _ _ e2 b hb).1
  have st0 : StepS F H fo (frzAt F H fo) H [] := ⟨frzAt_same nx, fun b o e _ => e, fun b o e => (frzAt_of e).imp id .inl, fun b z => nomatch z⟩
  obtain ⟨fp1, b1, b2, b3⟩ := (a6 (frzAt F H fo) H fo [] st0 fun b hb z => a4 b z hb).2 v _ [] (.d (OwnAt.frz nx _ _ _ e2 fun _ z => z)) List.nodup_nil (fun _ z => nomatch z)
  have es : σ.set i (some v) = σ := set_self e1
  rw [es] at b3
  have sub1 : ∀ b ∈ fp1, b ∈ fr := fun b hb => (b2 b hb).elim (fun z => nomatch z) id
  have sat1 : Sat X.KK (frzAt F H fo) H σ (env.set i (some (.d (viewD o)))) fp1 := ⟨frzAt_in sat.fh, b3, b1⟩
  have stp1 : StepS F H fp (frzAt F H fo) H fp1 := ⟨frzAt_same nx, fun b o e _ => e, fun b o e => (frzAt_of e).imp id fun z => .inl (a2 b z), fun b hb => .inl (a1 b (sub1 b hb))⟩
  have offS : ∀ {σ' : L2.St}, OffS (thawS i keep S) σ σ' → OffS S σ σ' := fun o j hj => o j (by unfold thawS; rw [hj]; simp)
  -- behind the statement
  have back : ∀ (env' : Ev) (σ' : L2.St) (F' H' : Hp) (fp' : List Addr), OffS (thawS i keep S) σ σ' → StepS (frzAt F H fo) H fp1 F' H' fp' → Sat X.KK F' H' σ' env' fp' → okThaw i dead keep env env' → i < env'.length →
      ∃ F'' fp'', StepS F H fp F'' H' fp'' ∧ Sat X.KK F'' H' σ' (thawL i o dead 0 env') fp'' := by
    intro env' σ' F' H' fp' off st2 sat2 ok hil
    let F'' : Hp := fun b => if b ∈ fo then none else F' b
    have f0 : ∀ b, b ∉ fo → F'' b = F' b := fun b hb => if_neg hb
    have f1 : ∀ b, b ∈ fo → F'' b = none := fun b hb => if_pos hb
    have frz : ∀ b ∈ fo, ∃ u, F' b = some u ∧ H b = some u ∧ H' b = some u ∧ notT u := fun b hb => by
      obtain ⟨u, k1, k2⟩ := OwnAt.kinds _ _ _ e2 b hb
      have : frzAt F H fo b = some u := (if_pos hb).trans k1
      have q := st2.ff b u this
      exact ⟨u, q, k1, sat2.fh b u q, k2⟩
    have ffs : Same F F'' := fun b u e => by
      have : b ∉ fo := fun z => by rw [nx b z] at e; cases e
      rw [f0 b this]
      exact st2.ff b u (frzAt_same nx b u e)
    have hT : ∀ a xs, SqT X.K F' a xs → SqT X.K F'' a xs := fun a xs q => by
      rcases q with (q | ⟨ob, q⟩) | q
      · refine .inl (.inl ?_)
        rw [f0 a fun z => ?_]
        · exact q
        · obtain ⟨u, k1, _, _, k2⟩ := frz a z
          rw [k1] at q; cases q
          exact k2.1 _ rfl
      · refine .inl (.inr ⟨ob, ?_⟩)
        rw [f0 a fun z => ?_]
        · exact q
        · obtain ⟨u, k1, _, _, k2⟩ := frz a z
          rw [k1] at q; cases q
          exact k2.2 _ _ rfl
      · exact .inr q
    have hn : ∀ b, F' b = none → F'' b = none := fun b e => by
      by_cases z : b ∈ fo
      · exact f1 b z
      · rw [f0 b z]; exact e
    have stF : StepS F H fr F'' H' fp' := by
      refine ⟨ffs, fun b u e n => st2.fr b u e fun z => n (sub1 b z), fun b u e => ?_, fun b hb => (st2.sub b hb).imp (sub1 b) id⟩
      have z : b ∉ fo := fun z => by rw [f1 b z] at e; cases e
      rw [f0 b z] at e
      rcases st2.fn b u e with q | q | q
      · rcases frzAt_of q with q | q
        · exact .inl q
        · exact absurd q z
      · exact .inr (.inl (sub1 b q))
      · exact .inr (.inr q)
    have ho : OwnAt X.KK F'' H' v o fo := OwnAt.keep stF _ _ _ e2 fun b hb z => a4 b hb z
    have dj : ∀ b ∈ fo, b ∉ fp' := fun b hb z => by
      obtain ⟨u, k1, _⟩ := frz b hb
      rw [(sat2.en.there b z).1] at k1; cases k1
    obtain ⟨fp'', c1, c2, c3⟩ := thaw_env (K := X.KK) hT hn (i := i) (o := o) (dead := dead) (keep := keep) (env := env) ho a3' sat2.en sat2.nd dj 0 (fun j x hx => by rw [Nat.zero_add]; exact ok j x hx)
      (fun j d hj hd hl => by
        rw [Nat.zero_add] at hj hd
        obtain ⟨u, fu, k1, k2, _⟩ := sat.en.get hd
        cases k2 with
        | d k2 =>
          have : thawS i keep S j = false := by
            unfold thawS
            rw [show keep.contains j = true from by simpa using hj]
            simp
          exact ⟨u, by rw [off j this]; exact k1, dpUp k2 ffs⟩)
      (fun j hj hl => by
        rw [Nat.zero_add] at hj
        subst hj
        have : thawS j keep S j = false := by unfold thawS; simp
        rw [off j this]; exact e1)
    refine ⟨F'', fp'', ⟨ffs, fun b u e n => st2.fr b u e fun z => n (a1 b (sub1 b z)), fun b u e => (stF.fn b u e).imp id (.imp (a1 b) id), fun b hb => ?_⟩, fun b u e => ?_, c1, c2⟩
    · rcases c3 b hb with z | z
      · exact (stF.sub b z).imp (a1 b) id
      · exact .inl (a2 b z.1)
    · have z : b ∉ fo := fun z => by rw [f1 b z] at e; cases e
      rw [f0 b z] at e
      exact sat2.fh b u e
  refine s (frzAt F H fo) H σ _ fp1 D sat1 ?_
  cases ef : fs (env.set i (some (.d (viewD o)))) with
  | no => rw [ef] at h; exact h
  | rt r env' =>
    rw [ef] at h
    exact fun u σ' F' H' fx fp' off st2 => h u σ' F' H' fx fp' (offS off) (stp1.trans st2)
  | ex c env' =>
    rw [ef] at h
    exact fun C σ' F' H' fp' m off st2 => h C σ' F' H' fp' m (offS off) (stp1.trans st2)
  | nx env' =>
    rw [ef] at h
    intro σ' F' H' fp' off st2 sat2
    have h2 : PostS X W S σ F H fp D (thawR i o dead keep env env' .nx) := h
    unfold thawR at h2
    split at h2
    · rename_i c
      obtain ⟨F'', fp'', k1, k2⟩ := back env' σ' F' H' fp' off st2 sat2 c.1 c.2
      exact h2 σ' F'' H' fp'' (offS off) k1 k2
    · exact h2.elim
  | bk env' =>
    rw [ef] at h
    intro σ' F' H' fp' off st2 sat2
    have h2 : PostS X W S σ F H fp D (thawR i o dead keep env env' .bk) := h
    unfold thawR at h2
    split at h2
    · rename_i c
      obtain ⟨F'', fp'', k1, k2⟩ := back env' σ' F' H' fp' off st2 sat2 c.1 c.2
      exact h2 σ' F'' H' fp'' (offS off) k1 k2
    · exact h2.elim
  | ct env' =>
    rw [ef] at h
    intro σ' F' H' fp' off st2 sat2
    have h2 : PostS X W S σ F H fp D (thawR i o dead keep env env' .ct) := h
    unfold thawR at h2
    split at h2
    · rename_i c
      obtain ⟨F'', fp'', k1, k2⟩ := back env' σ' F' H' fp' off st2 sat2 c.1 c.2
      exact h2 σ' F'' H' fp'' (offS off) k1 k2
    · exact h2.elim
theorem ds_thaw (i : Nat) (dead keep : List Nat) (h : DS X W (thawS i keep S) st fs) : DS X W S st (sThaw i dead keep fs) := by
  obtain ⟨t, p, s⟩ := h
  exact ⟨t, p, thaw_sm i dead keep s⟩
/-- reckoned -/
theorem sThaw_nx {i : Nat} {dead keep : List Nat} {env env' : Ev} {o : Ow} (he : env[i]? = some (some o)) (hf : fs (env.set i (some (.d (viewD o)))) = .nx env') (ok : okThaw i dead keep env env') (hi : i < env'.length) : sThaw i dead keep fs env = .nx (thawL i o dead 0 env') := by
  unfold sThaw
  rw [he]
  simp only [hf]
  unfold thawR
  exact if_pos ⟨ok, hi⟩
end
end Mir
end
set_option Elab.async false
set_option linter.all false
set_option maxRecDepth 100000
set_option maxHeartbeats 4000000
noncomputable section
namespace Mir
open PySem PySem.Spec PyProof.Rows L2
section
variable {X : Cx} {W : WX} {S : Nat → Bool} {e a b : Expr} {es : List Expr} {pos : Pos} {f g : Ev → R Ow}
theorem OwnAll.append {K : Kw} {F H : Hp} : ∀ {os os' : List Ow} {vs ws : List V} {fp fp' : List Addr}, OwnAll K F H vs os fp → OwnAll K F H ws os' fp' → OwnAll K F H (vs ++ ws) (os ++ os') (fp ++ fp')
  | [], _, _, _, _, _, h, g => by cases h; exact g
  | o :: os, _, _, _, _, _, h, g => by
    cases h with
    | cons h1 h2 =>
      rw [List.append_assoc]
      exact .cons h1 (OwnAll.append h2 g)
/-- + of two new lists with own items -/
def eAddO (f g : Ev → R Ow) (env : Ev) : R Ow := (f env).bind fun x => (g env).bind fun y => match x, y with
  | .l xs, .l ys => guard (xs.length + ys.length ≤ sizeLine) (.ok (.l (xs ++ ys)))
  | _, _ => .no
@[simp] theorem eAddO_eq (f g : Ev → R Ow) (env : Ev) : eAddO f g env = (f env).bind fun x => (g env).bind fun y => match x, y with
  | .l xs, .l ys => guard (xs.length + ys.length ≤ sizeLine) (.ok (.l (xs ++ ys)))
  | _, _ => .no := rfl
/-- a tuple with own things in it -/
def eTupO (f : Ev → R (List Ow)) (env : Ev) : R Ow := (f env).bind fun os => guard (os.length ≤ sizeLine) (.ok (.t os))
@[simp] theorem eTupO_eq (f : Ev → R (List Ow)) (env : Ev) : eTupO f env = (f env).bind fun os => guard (os.length ≤ sizeLine) (.ok (.t os)) := rfl
theorem de_tupO {x1} {f : Ev → R (List Ow)} (hf : DAo X W es f) : DE X W (.Tuple es x1 pos) (eTupO f) := by
  obtain ⟨t, p, s⟩ := hf
  refine ⟨_, pe_tup p, fun F H σ env fp Q sat h => ?_⟩
  refine s F H σ env fp _ sat ?_
  rw [eTupO_eq] at h
  cases ef : f env with
  | no => rw [ef] at h; exact h.elim
  | ex c => rw [ef] at h; exact h
  | ok os =>
  rw [ef, R.bind_ok] at h
  obtain ⟨hl, h2⟩ := guard_post h
  intro vs F1 H1 x1 ⟨fo, o1, n1, r1⟩
  have sat1 := sat.ext x1
  refine ⟨by rw [o1.len]; exact hl, fun p hp => ?_⟩
  have x := Ext.frz sat1.fh hp (.tup vs)
  exact h2 _ _ _ (x1.trans x) ⟨fo, .t (SqT.of upd_same) (OwnAll.ext o1 x), n1, r1⟩
end
end Mir
end
set_option Elab.async false
set_option linter.all false
set_option maxRecDepth 100000
set_option maxHeartbeats 4000000
noncomputable section
namespace Mir
open PySem PySem.Spec PyProof.Rows L2
/-- an exception that has come to the clauses -/
structure Air (X : Cx) (pins : List (Addr × Obj)) (a : Addr) (B : Heap) (sI s' : Shared) (h3 : Heap) (σ : L2.St) (H : Hp) (cls : Value) (d : Option Addr) : Prop where
  J : Inv X pins σ H sI
  nb : ∀ b o, sI.heap.get? b = some o → b ∉ frs X.stack → B.get? b = some o
  fl : HandSPX.FlyingZ B (X.env :: X.outer) a (Zc cls d) h3
  up : sI.heap.UpToSlots h3
  na : H a = none
  os : s'.os = sI.os
  ag : AllBare s'.gens
def HdsT (X : Cx) (hds : List ExceptHandler) (w : WX → Ends → WX) : Prop := ∀ (Wout : WX), Takes X Wout → ∀ pins D a B sI s' h3 σ H cls d, Air X pins a B sI s' h3 σ H cls d → w Wout D cls d σ H →
  wpAny (model X.prog X.w) X.A (handleBy (.ref a) X.env hds) (SP X pins D) X.xe { s' with heap := h3 }
section
variable {X : Cx} {x n : Str} {c : Value} {i : Nat} {suite : List Stmt} {b₀ : Stmt} {np pos pos' : Pos} {ts : TS} {hds : List ExceptHandler} {w : WX → Ends → WX}
end
abbrev Cl := List (Str × Bool) × Option Nat × (Ev → SR)
def noX : SR → SR
  | .ex _ _ => .no
  | r => r
def sHds : List Cl → Str → Ev → SR
  | [], c, env => .ex c env
  | h :: hs, c, env => match lookE h.1 c with
    | some true => match h.2.1 with
      | some i => if i < env.length then dropT i (h.2.2 (env.set i (some (.d (excD c))))) else .no
      | none => noX (h.2.2 env)
    | some false => sHds hs c env
    | none => .no
section
variable {X : Cx} {W : WX} {S : Nat → Bool} {x n : Str} {np pos pos' : Pos} {hds : List ExceptHandler} {hs : List Cl}
structure HdsD (X : Cx) (W : WX) (S : Nat → Bool) (hds : List ExceptHandler) (hs : List Cl) (w : WX → Ends → WX) : Prop where
  run : HdsT X hds w
  sem : ∀ c C σ F H fp env D, X.mg c = some (.ref C) → Sat X.KK F H σ env fp → PostS X W S σ F H fp D (sHds hs c env) → w W D (.ref C) none σ H
end
section
variable {X : Cx} {W : WX} {S : Nat → Bool} {e : Expr} {pos : Pos} {f : Ev → R (D × Ev)}
end
end Mir
end
set_option Elab.async false
set_option linter.all false
set_option maxRecDepth 100000
set_option maxHeartbeats 4000000
noncomputable section
namespace HT
open PySem PySem.Spec PyProof.Rows
section
variable {prog : Program} {w : World} {A : Around} {E : Value → Shared → Prop} {s : Shared}
end
end HT
namespace Mir
open PySem PySem.Spec PyProof.Rows L2
section
variable {X : Cx} {W : WX}
def gRevA : D → Option Ow
  | .list ds => some (.l (ds.reverse.map Ow.d))
  | .tuple ds => some (.d (.tuple ds.reverse))
  | _ => none
@[simp] theorem gRevA_list (ds : List D) : gRevA (.list ds) = some (.l (ds.reverse.map Ow.d)) := rfl
@[simp] theorem gRevA_tup (ds : List D) : gRevA (.tuple ds) = some (.d (.tuple ds.reverse)) := rfl
def eRevA (f : Ev → R D) (env : Ev) : R Ow := (f env).bind fun d => R.of (gRevA d)
@[simp] theorem eRevA_eq (f : Ev → R D) (env : Ev) : eRevA f env = (f env).bind fun d => R.of (gRevA d) := rfl
end
end Mir
end
set_option Elab.async false
set_option linter.all false
set_option maxRecDepth 100000
set_option maxHeartbeats 4000000
noncomputable section
namespace Mir
open PySem PySem.Spec PyProof.Rows L2
def noFrz (u : HO) : Prop := ∀ o v, u ≠ .frz o v
/-- what F tells F' tells, but for locks -/
structure Rl (F F' : Hp) : Prop where
  rd : ∀ a u, noFrz u → Rd F a u → Rd F' a u
  ins : ∀ a C dx fs, F a = some (.ins C dx fs) → F' a = some (.ins C dx fs)
theorem Rl.seq {K : PySem.W.Frag} {F F' : Hp} (r : Rl F F') {a : Addr} {xs : List V} (h : SqL K F a xs) : SqL K F' a xs := h.imp (r.rd a _ fun _ _ z => nomatch z) id
theorem Rl.seqT {K : PySem.W.Frag} {F F' : Hp} (r : Rl F F') {a : Addr} {xs : List V} (h : SqT K F a xs) : SqT K F' a xs := h.imp (r.rd a _ fun _ _ z => nomatch z) id
section
variable {K : Kw}
mutual
theorem Dp.rl {H H' : Hp} (e : Rl H H') : ∀ (d : D) (v : V), Dp K H v d → Dp K H' v d
  | .none, _, h => by cases h; exact .non
  | .bool b, _, h => by cases h; exact .bl b
  | .int b, _, h => by cases h; exact .int b
  | .str b, _, h => by cases h; exact .str b
  | .list ds, _, h => by
    cases h with
    | lst hs ha => exact .lst (e.seq hs) (DpAll.rl e ds _ ha)
  | .tuple ds, _, h => by
    cases h with
    | tup hs ha => exact .tup (e.seqT hs) (DpAll.rl e ds _ ha)
  | .dict ps, _, h => by
    cases h with
    | dct hs ha => exact .dct (e.rd _ _ (fun _ _ z => nomatch z) hs) (DpKv.rl e ps _ ha)
    | dcn hs ha => exact .dcn (e.rd _ _ (fun _ _ z => nomatch z) hs) (DpKn.rl e ps _ ha)
    | exc hs => exact .exc (e.rd _ _ (fun _ _ z => nomatch z) hs)
    | ins hs => exact .ins (e.ins _ _ _ _ hs)
theorem DpAll.rl {H H' : Hp} (e : Rl H H') : ∀ (ds : List D) (vs : List V), DpAll K H vs ds → DpAll K H' vs ds
  | [], _, h => by cases h; exact .nil
  | d :: ds, _, h => by
    cases h with
    | cons h1 h2 => exact .cons (Dp.rl e d _ h1) (DpAll.rl e ds _ h2)
theorem DpKv.rl {H H' : Hp} (e : Rl H H') : ∀ (ps : List (D × D)) (kvs : List (Key × V)), DpKv K H kvs ps → DpKv K H' kvs ps
  | [], _, h => by cases h; exact .nil
  | (x, d) :: ps, _, h => by
    cases h with
    | cons h1 h2 => exact .cons (Dp.rl e d _ h1) (DpKv.rl e ps _ h2)
theorem DpKn.rl {H H' : Hp} (e : Rl H H') : ∀ (ps : List (D × D)) (kvs : List (NestedKey × Addr × V)), DpKn K H kvs ps → DpKn K H' kvs ps
  | [], _, h => by cases h; exact .nil
  | (x, d) :: ps, _, h => by
    cases h with
    | cons h0 h1 h2 h3 => exact .cons (Dp.rl e _ _ h0) h1 (Dp.rl e d _ h2) (DpKn.rl e ps _ h3)
end
/-- .. and what stands beside F stays -/
structure Rlh (F H F' H' : Hp) : Prop where
  rl : Rl F F'
  fn : ∀ a, F a = none → F' a = none
  hh : ∀ a x, F a = none → H a = some x → H' a = some x
mutual
theorem OwnAt.rl {F H F' H' : Hp} (e : Rlh F H F' H') : ∀ (o : Ow) (v : V) (fp : List Addr), OwnAt K F H v o fp → OwnAt K F' H' v o fp
  | .d x, _, _, h => by cases h with | d h => exact .d (Dp.rl e.rl _ _ h)
  | .l os, _, _, h => by cases h with | l h1 h2 h3 => exact .l (e.fn _ h1) (e.hh _ _ h1 h2) (OwnAll.rl e os _ _ h3)
  | .m ps, _, _, h => by cases h with | m h1 h2 h3 => exact .m (e.fn _ h1) (e.hh _ _ h1 h2) (DpKv.rl e.rl _ _ h3)
  | .t os, _, _, h => by cases h with | t h1 h2 => exact .t (e.rl.seqT h1) (OwnAll.rl e os _ _ h2)
  | .k ks os, _, _, h => by cases h with | k h1 h2 h3 => exact .k (e.fn _ h1) (e.hh _ _ h1 h2) (OwnAll.rl e os _ _ h3)
  | .n ks os, _, _, h => by cases h with | n h1 h2 h3 h4 => exact .n (e.fn _ h1) (e.hh _ _ h1 h2) (fun p hp => ⟨Dp.rl e.rl _ _ (h3 p hp).1, (h3 p hp).2⟩) (OwnAll.rl e os _ _ h4)
  | .o c ns os, _, _, h => by cases h with | o h1 h2 h3 h4 h5 h6 => exact .o h1 (e.fn _ h2) (e.fn _ h3) (e.hh _ _ h2 h4) (e.hh _ _ h3 h5) (OwnAll.rl e os _ _ h6)
theorem OwnAll.rl {F H F' H' : Hp} (e : Rlh F H F' H') : ∀ (os : List Ow) (vs : List V) (fp : List Addr), OwnAll K F H vs os fp → OwnAll K F' H' vs os fp
  | [], _, _, h => by cases h; exact .nil
  | o :: os, _, _, h => by
    cases h with
    | cons h1 h2 => exact .cons (OwnAt.rl e o _ _ h1) (OwnAll.rl e os _ _ h2)
end
theorem EnvAt.rl {F H F' H' : Hp} (e : Rlh F H F' H') {σ : L2.St} {env : Ev} {fp : List Addr} (h : EnvAt K F H σ env fp) : EnvAt K F' H' σ env fp := by
  induction h with
  | nil => exact .nil
  | non h ih => exact .non ih
  | som h1 h2 ih => exact .som (OwnAt.rl e _ _ _ h1) ih
end
section
variable {X : Cx} {pins : List (Addr × Obj)} {σ : L2.St} {H : Hp} {s : Shared} {d : Addr} {o : Obj}
end
section
variable {X : Cx} {W : WX} {S : Nat → Bool} {tg e : Expr} {td : TE}
theorem PS.or {st : Stmt} {t t' : TS} (h : PS X st t) (h' : PS X st t') : PS X st (fun D σ H => t D σ H ∨ t' D σ H) := ⟨fun pins s σ H D I q => by
  rcases q with q | q
  · exact h.run pins s σ H D I q
  · exact h'.run pins s σ H D I q⟩
end
end Mir
end
set_option Elab.async false
set_option linter.all false
set_option maxRecDepth 100000
set_option maxHeartbeats 4000000
noncomputable section
namespace Mir
open PySem PySem.Spec PyProof.Rows L2
abbrev NKvs := List (NestedKey × Addr × V)
section
variable {X : Cx} {pins : List (Addr × Obj)} {σ : L2.St} {H : Hp} {s : Shared}
variable {A : Around} {E : Value → Shared → Prop} {d b : Addr} {kvs : NKvs} {k : NestedKey}
end
def eqD (a b : D) : Bool := @decide (a = b) (Classical.propDecidable _)
theorem eqD_iff {a b : D} : eqD a b = true ↔ a = b := @decide_eq_true_iff _ (Classical.propDecidable _)
@[simp] theorem eqD_self (a : D) : eqD a a = true := eqD_iff.mpr rfl
section
variable {X : Cx} {W : WX} {a b e k : Expr} {f g : Ev → R D} {pos : Pos}
end
def nO (ps : List (D × D)) : Ow := .n (ps.map (·.1)) (ps.map fun p => .d p.2)
theorem zip_fs : ∀ ps : List (D × D), (ps.map (·.1)).zip (ps.map (·.2)) = ps
  | [] => rfl
  | p :: ps => by rw [List.map_cons, List.map_cons, List.zip_cons_cons, zip_fs ps]
@[simp] theorem viewD_nO (ps : List (D × D)) : viewD (nO ps) = .dict ps := by
  unfold nO
  rw [viewD_n]
  have : viewAll (ps.map fun p => Ow.d p.2) = ps.map (·.2) := by
    have := viewAll_mapd (ps.map (·.2))
    rw [List.map_map] at this
    exact this
  rw [this, zip_fs]
section
variable {X : Cx} {W : WX} {S : Nat → Bool} {e k : Expr} {pos tpos npos : Pos} {x : Str} {f g : Ev → R D}
def eDictNewN (_ : Ev) : R Ow := .ok (nO [])
@[simp] theorem eDictNewN_eq (env : Ev) : eDictNewN env = .ok (nO []) := rfl
end
end Mir
end
set_option Elab.async false
set_option linter.all false
set_option maxRecDepth 100000
set_option maxHeartbeats 4000000
noncomputable section
namespace Mir
open PySem PySem.Spec PyProof.Rows L2
section
variable {K : Kw} {F H : Hp} {σ : L2.St} {env : Ev} {fp : List Addr}
end
section
variable {X : Cx} {W : WX} {S : Nat → Bool} {e k : Expr} {pos tpos npos apos cpos : Pos} {x : Str} {f : Ev → R Ow} {g : Ev → R D}
end
end Mir
end
set_option Elab.async false
set_option linter.all false
set_option maxRecDepth 100000
set_option maxHeartbeats 4000000
noncomputable section
namespace Mir
open PySem PySem.Spec PyProof.Rows L2
section
variable {X : Cx} {W : WX} {a b : Expr} {pos : Pos} {f g : Ev → R D}
end
end Mir
set_option Elab.async false
set_option linter.all false
set_option maxRecDepth 100000
set_option maxHeartbeats 4000000
noncomputable section
namespace Mir
open PySem PySem.Spec PyProof.Rows L2
section
variable {X : Cx} {W : WX}
end
end Mir
set_option Elab.async false
set_option linter.all false
set_option maxRecDepth 100000
set_option maxHeartbeats 4000000
noncomputable section
namespace Mir
open PySem PySem.Spec PyProof.Rows L2
section
variable {X : Cx} {W : WX} {a b : Expr} {pos : Pos} {f g : Ev → R D}
end
def gMulZ : D → D → Option D
  | .int i, .int j => gMul (.int i) (.int j)
  | .str z, .int n => if 0 ≤ n ∧ n ≤ 1000000 ∧ z.length * n.toNat ≤ sizeLine then some (.str (repS z n.toNat)) else none
  | _, _ => none
@[simp] theorem gMulZ_int (i j : Int) : gMulZ (.int i) (.int j) = gMul (.int i) (.int j) := rfl
section
variable {X : Cx} {W : WX} {a b : Expr} {pos : Pos} {f g : Ev → R D}
end
section
variable {K : Kw} {F H : Hp} {σ : L2.St} {env : Ev} {fp : List Addr}
end
section
variable {X : Cx} {x : Str}
end
end Mir
set_option Elab.async false
set_option linter.all false
set_option maxRecDepth 100000
set_option maxHeartbeats 4000000
noncomputable section
namespace RT
open PySem PySem.Spec PyProof.Rows
open PySem.Sem (wp)
section
variable {prog : Program} {w : World} {A : Around} {E : Value → Shared → Prop} {s : Shared} {z TI TO i1 i2 T : Addr} {fp1 fp2 : List Addr} {n1 n2 i : Nat} {P1 P2 : Nat → Value → Prop} {St1 St2 : Nat → Heap → Prop} {f : Bool} {oT : Obj}
/-- a zip at turn i, with no tuple out or with one that is held -/
def ZipSt (h : Heap) (z TI TO S i1 i2 : Addr) (i : Nat) : Prop :=
  (i = 0 ∧ IsZip h z TI TO .none ∧ ∃ a1 a2, IsTupOf2 h TO a1 a2) ∨ ∃ T f oT, IsZipHeld h z TI TO T f ∧ h.get? T = some oT ∧ T ≠ z ∧ T ≠ i1 ∧ T ≠ i2 ∧ T ≠ S
theorem ZipSt.keep {h h' : Heap} {z TI TO S i1 i2 : Addr} {i : Nat} (q : ZipSt h z TI TO S i1 i2 i) (up : ∀ b o, b ≠ S → h.get? b = some o → h'.get? b = some o) (zs : z ≠ S) (ts : TO ≠ S) : ZipSt h' z TI TO S i1 i2 i := by
  rcases q with ⟨a, b, c, d, e⟩ | ⟨T, f, oT, a, b, c, d, e, g⟩
  · exact .inl ⟨a, up _ _ zs b, c, d, up _ _ ts e⟩
  · exact .inr ⟨T, f, oT, up _ _ zs a, up _ _ g b, c, d, e, g⟩
end
end RT
set_option Elab.async false
set_option linter.all false
set_option maxRecDepth 100000
set_option maxHeartbeats 4000000
noncomputable section
namespace RT
open PySem PySem.Spec PyProof.Rows
open PySem.Sem (wp)
structure ZipG (P1 P2 : Nat → Value → Prop) (lo : Addr) (h : Heap) (as : List Addr) : Prop where
  rise : as.Pairwise (· < ·)
  above : ∀ a ∈ as, lo < a
  pairs : ∀ (j : Nat) (a : Addr), as[j]? = some a → ∃ x y, P1 j x ∧ P2 j y ∧ h.get? a = some { cls := .type "tuple", data := .seq #[x, y] }
theorem ZipG.there {P1 P2 : Nat → Value → Prop} {lo : Addr} {h : Heap} {as : List Addr} (g : ZipG P1 P2 lo h as) {a : Addr} (ha : a ∈ as) : a < h.objs.size := by
  obtain ⟨j, hj⟩ := List.mem_iff_getElem?.mp ha
  obtain ⟨_, _, _, _, e⟩ := g.pairs j a hj
  exact Heap.lt_size e
section
variable {prog : Program} {w : World} {A : Around} {E : Value → Shared → Prop} {s : Shared} {R : Result → Shared → Prop} {z TI TO i1 i2 : Addr} {fp1 fp2 : List Addr} {n1 n2 : Nat} {P1 P2 : Nat → Value → Prop} {St1 St2 : Nat → Heap → Prop}
end
end RT
set_option Elab.async false
set_option linter.all false
set_option maxRecDepth 100000
set_option maxHeartbeats 4000000
noncomputable section
namespace Mir
open PySem PySem.Spec PyProof.Rows L2 RT
section
variable {X : Cx} {pins : List (Addr × Obj)} {σ : L2.St} {H : Hp} {s : Shared} {h' : Heap}
end
section
variable {X : Cx} {W : WX}
end
end Mir
end
noncomputable section
namespace Mir
open PySem PySem.Spec PyProof.Rows L2 RT
def ownL1 (zs : List D) : Ow := .l (zs.map Ow.d)
def eListZip (fa : Ev → R (List D)) : Ev → R Ow := eM (eB fa zpArg) ownL1
@[simp] theorem eListZip_eq (fa : Ev → R (List D)) (env : Ev) : eListZip fa env = ((fa env).bind zpArg).map ownL1 := rfl
section
variable {X : Cx} {W : WX}
end
end Mir
end
noncomputable section
namespace Mir
open PySem PySem.Spec PyProof.Rows L2
def gtLst (n : Nat) (h : List D → Ev → Option Ev) : D → Ev → Option Ev
  | .list ds, env => if ds.length = n then h ds env else none
  | _, _ => none
@[simp] theorem gtLst_eq (n : Nat) (h : List D → Ev → Option Ev) (ds : List D) (env : Ev) : gtLst n h (.list ds) env = if ds.length = n then h ds env else none := rfl
end Mir
end
set_option Elab.async false
set_option linter.all false
set_option maxRecDepth 100000
set_option maxHeartbeats 4000000
noncomputable section
namespace Mir
open PySem PySem.Spec PyProof.Rows L2
section
variable {K : Kw} {F H : Hp} {σ : L2.St} {env : Ev} {fp : List Addr}
end
def insV {α : Type} (p : Nat) (x : α) (xs : List α) : List α := xs.take p ++ x :: xs.drop p
@[simp] theorem insV_0 {α : Type} (x : α) (xs : List α) : insV 0 x xs = x :: xs := by simp [insV]
@[simp] theorem insV_s {α : Type} (p : Nat) (x y : α) (xs : List α) : insV (p + 1) x (y :: xs) = y :: insV p x xs := by simp [insV]
def envP (p l : Nat) (o : Ow) (ds : List D) : Ev := insV p (some o) (ds.map fun d => some (Ow.d d)) ++ List.replicate l none
section
variable {P : Program} {w : World} {K : PySem.W.Frag} {mg : Str → Option Value} {base : Heap}
end
inductive RY (α : Type) where
  | no
  | ok (a : α) (env : Ev)
  | ex (c : Str) (env : Ev)
def RY.bind {α β : Type} : RY α → (α → Ev → RY β) → RY β
  | .no, _ => .no
  | .ok a env, g => g a env
  | .ex c env, _ => .ex c env
@[simp] theorem RY.bind_ok {α β : Type} (a : α) (env : Ev) (g : α → Ev → RY β) : (RY.ok a env).bind g = g a env := rfl
@[simp] theorem RY.bind_ex {α β : Type} (c : Str) (env : Ev) (g : α → Ev → RY β) : (RY.ex c env : RY α).bind g = .ex c env := rfl
def PostY (X : Cx) (W : WX) {α β : Type} (P : Hp → α → β → Prop) (F H : Hp) (fp : List Addr) (σ : L2.St) : RY α → (β → Hp → Prop) → Prop
  | .no, _ => False
  | .ok a env, Q => ∀ v F' H' fp', StepS F H fp F' H' fp' → Sat X.KK F' H' σ env fp' → P F' a v → Q v H'
  | .ex c env, _ => ∀ C F' H' fp', X.mg c = some (.ref C) → StepS F H fp F' H' fp' → Sat X.KK F' H' σ env fp' → W (.ref C) none σ H'
def SmY (X : Cx) (W : WX) {α β : Type} (P : Hp → α → β → Prop) (t : L2.St → Hp → (β → Hp → Prop) → Prop) (f : Ev → RY α) : Prop :=
  ∀ F H σ env fp Q, Sat X.KK F H σ env fp → PostY X W P F H fp σ (f env) Q → t σ H Q
section
variable {X : Cx} {W : WX} {α β γ δ : Type} {P : Hp → α → β → Prop} {P2 : Hp → γ → δ → Prop} {F H F1 H1 : Hp} {fp fp1 : List Addr} {σ : L2.St}
theorem PostY.step {r : RY α} {Q : β → Hp → Prop} (h : PostY X W P F H fp σ r Q) (s : StepS F H fp F1 H1 fp1) : PostY X W P F1 H1 fp1 σ r Q := by
  cases r with
  | no => exact h
  | ex c env => exact fun C F' H' fp' m s' => h C F' H' fp' m (s.trans s')
  | ok a env => exact fun v F' H' fp' s' => h v F' H' fp' (s.trans s')
theorem SmY.go {t : L2.St → Hp → (β → Hp → Prop) → Prop} {f : Ev → RY α} (s : SmY X W P t f) {g : α → Ev → RY γ} {env : Ev} {Q : δ → Hp → Prop} {T : β → Hp → Prop} (sat : Sat X.KK F H σ env fp) (h : PostY X W P2 F H fp σ ((f env).bind g) Q)
    (k : ∀ a env1 v F1 H1 fp1, StepS F H fp F1 H1 fp1 → Sat X.KK F1 H1 σ env1 fp1 → P F1 a v → PostY X W P2 F1 H1 fp1 σ (g a env1) Q → T v H1) : t σ H T := by
  refine s F H σ env fp T sat ?_
  cases e : f env with
  | no => rw [e] at h; exact h
  | ex c env1 => rw [e] at h; exact h
  | ok a env1 =>
    rw [e] at h
    exact fun v F' H' fp' st sat' q => k a env1 v F' H' fp' st sat' q (PostY.step (show PostY X W P2 F H fp σ (g a env1) Q from h) st)
end
section
variable {X : Cx} {W : WX} {e a b : Expr} {es : List Expr} {pos p : Pos} {x : Str}
end
end Mir
end
set_option Elab.async false
set_option linter.all false
set_option maxRecDepth 100000
set_option maxHeartbeats 4000000
noncomputable section
namespace Mir
open PySem PySem.Spec PyProof.Rows L2
section
variable {X : Cx} {W : WX} {e a b : Expr} {es : List Expr} {pos p : Pos} {x : Str}
end
section
variable {X : Cx} {pins : List (Addr × Obj)} {σ : L2.St} {H : Hp} {s : Shared} {A : Around} {E : Value → Shared → Prop} {d b : Addr} {kvs : NKvs} {k : NestedKey}
end
section
variable {X : Cx} {W : WX} {o e f : Expr} {td ty tx : TE} {apos cpos npos : Pos} {x : Str}
end
section
variable {X : Cx} {W : WX} {S : Nat → Bool} {e : Expr} {pos cpos apos npos : Pos} {x : Str} {f : Ev → RY D}
end
end Mir
end
set_option Elab.async false
set_option linter.all false
set_option maxRecDepth 100000
set_option maxHeartbeats 4000000
noncomputable section
namespace Mir
open PySem PySem.Spec PyProof.Rows L2
section
variable {X : Cx} {W : WX} {e : Expr} {p pos npos : Pos} {x : Str} {td : TE}
end
end Mir
end
set_option Elab.async false
set_option linter.all false
set_option maxRecDepth 100000
set_option maxHeartbeats 4000000
noncomputable section
namespace Mir
open PySem PySem.Spec PyProof.Rows L2
section
variable {X : Cx} {W : WX} {x : Str} {p pos npos : Pos}
end
def finP1 (p : Nat) (d : D) (env : Ev) : R (D × Ow) := match env[p]? with
  | some (some o) => .ok (d, o)
  | _ => .no
def finP (p : Nat) : SR → R (D × Ow)
  | .nx env => finP1 p .none env
  | .rt (.d d) env => finP1 p d env
  | .ex c _ => .ex c
  | _ => .no
@[simp] theorem finP_nx (p : Nat) (env : Ev) : finP p (.nx env) = finP1 p .none env := rfl
@[simp] theorem finP_rt (p : Nat) (d : D) (env : Ev) : finP p (.rt (.d d) env) = finP1 p d env := rfl
@[simp] theorem finP_ex (p : Nat) (c : Str) (env : Ev) : finP p (.ex c env) = .ex c := rfl
@[simp] theorem finP1_0 (d : D) (o : Ow) (env : Ev) : finP1 0 d (some o :: env) = .ok (d, o) := rfl
@[simp] theorem finP1_s (p : Nat) (d : D) (x : Option Ow) (env : Ev) : finP1 (p + 1) d (x :: env) = finP1 p d env := rfl
@[simp] theorem envP_0 (l : Nat) (o : Ow) (ds : List D) : envP 0 l o ds = some o :: envOf l ds := by
  induction ds with
  | nil => simp [envP, envOf]
  | cons d ds ih => simp [envP, envOf] at ih ⊢
@[simp] theorem envP_s (p l : Nat) (o : Ow) (d : D) (ds : List D) : envP (p + 1) l o (d :: ds) = some (.d d) :: envP p l o ds := by simp [envP]
end Mir
end
set_option Elab.async false
set_option linter.all false
set_option maxRecDepth 100000
set_option maxHeartbeats 4000000
noncomputable section
namespace Mir
open PySem PySem.Spec L2
section
variable {X : Cx} {W : WX} {e o : Expr} {pos cpos apos : Pos}
end
end Mir
end
set_option Elab.async false
set_option linter.all false
set_option maxRecDepth 100000
namespace Mir
open PySem PySem.Spec L2
noncomputable section
section
variable {X : Cx} {W : List Str} {a b : Expr} {pos : Pos}
end
end
end Mir
set_option Elab.async false
set_option linter.all false
set_option maxRecDepth 100000
set_option maxHeartbeats 4000000
noncomputable section
namespace Mir
open PySem PySem.Spec PyProof.Rows L2
abbrev Pl := Ow × (Ow → Ev)
def At (K : Kw) (F H : Hp) (σ : L2.St) (fp : List Addr) (w : V) (q : Pl) : Prop := ∃ fo, OwnAt K F H w q.1 fo ∧ fo.Nodup ∧ (∀ b ∈ fo, b ∈ fp) ∧
  ∀ F1 H1 o' fn fx, StepS F H fx F1 H1 [] → (∀ b ∈ fx, b ∈ fo) → Same F1 H1 → OwnAt K F1 H1 w o' fn → fn.Nodup → (∀ b ∈ fn, b ∈ fo ∨ b ∉ fp) → ∃ fp', Sat K F1 H1 σ (q.2 o') fp' ∧ ∀ b ∈ fp', b ∈ fp ∨ b ∈ fn
section
variable {K : Kw} {F H F1 H1 : Hp} {σ : L2.St} {env : Ev} {fp : List Addr} {w : V} {q : Pl}
theorem At.ext (h : At K F H σ fp w q) (x : Ext F H F1 H1) : At K F1 H1 σ fp w q := by
  obtain ⟨fo, a1, a2, a3, a4⟩ := h
  exact ⟨fo, a1.ext x, a2, a3, fun F2 H2 o' fn fx st hx sm ow nd sub => a4 F2 H2 o' fn fx ((StepS.of_ext x fx).trans st) hx sm ow nd sub⟩
theorem At.var (sat : Sat K F H σ env fp) {i : Nat} {o : Ow} (hi : env[i]? = some (some o)) : ∃ w, σ[i]? = some (some w) ∧ At K F H σ fp w (o, fun o' => env.set i (some o')) := by
  have hl : i < env.length := (List.getElem?_eq_some_iff.mp hi).1
  obtain ⟨fr, fo, a1, a2, a3, a3', a4, a5, a6⟩ := sat.en.put hl sat.nd
  obtain ⟨w, e1, e2⟩ := a5 _ hi
  refine ⟨w, e1, fo, e2, a3', a2, fun F1 H1 o' fn fx st hx sm ow nd sub => ?_⟩
  obtain ⟨fp', b1, b2, b3⟩ := (a6 F1 H1 fx [] st fun b hb z => a4 b (hx b z) hb).2 w o' fn ow nd fun b hb z => by
    rcases sub b hb with u | u
    · exact a4 b u z
    · exact u (a1 b z)
  rw [set_self e1] at b3
  exact ⟨fp', ⟨sm, b3, b1⟩, fun b hb => (b2 b hb).elim .inr fun z => .inl (a1 b z)⟩
/-- one place further, in a list .. -/
theorem At.lst {os : List Ow} {bk : Ow → Ev} (h : At K F H σ fp w (.l os, bk)) {j : Nat} {o : Ow} (hj : os[j]? = some o) : ∃ a vs u, w = .ref a ∧ H a = some (.lst vs) ∧ vs.length = os.length ∧ vs[j]? = some u ∧ At K F H σ fp u (o, fun o' => bk (.l (os.set j o'))) := by
  obtain ⟨fo, a1, a2, a3, a4⟩ := h
  cases a1 with
  | @l a vs _ f0 m1 m2 m3 =>
  obtain ⟨nd1, nd2⟩ := List.nodup_cons.mp a2
  obtain ⟨u, f1, fr, g1, g2, g3, g4, g5, g6, g7, g8⟩ := OwnAll.get m3 nd2 hj
  refine ⟨a, vs, u, rfl, m2, m3.len, g1, f1, g2, g3, fun b hb => a3 b (List.mem_cons_of_mem _ (g5 b hb)), fun F1 H1 o' fn fx st hx sm ow nd sub => ?_⟩
  have na : a ∉ fx := fun z => nd1 (g5 a (hx a z))
  obtain ⟨f2, k1, k2, k3⟩ := g8 F1 H1 fx [] u o' fn st (fun b hb z => g7 b (hx b z) hb) ow nd fun b hb z => by
    rcases sub b hb with q | q
    · exact g7 b q z
    · exact q (a3 b (List.mem_cons_of_mem _ (g6 b z)))
  rw [set_selfV g1] at k1
  have nn : a ∉ f2 := fun z => by
    rcases k3 a z with q | q
    · rcases sub a q with q | q
      · exact nd1 (g5 a q)
      · exact q (a3 a List.mem_cons_self)
    · exact nd1 (g6 a q)
  obtain ⟨fp', s1, s2⟩ := a4 F1 H1 (.l (os.set j o')) (a :: f2) fx st (fun b hb => List.mem_cons_of_mem _ (g5 b (hx b hb))) sm (.l (st.none_of m1 m2 na) (st.fr _ _ m2 na) k1) (List.nodup_cons.mpr ⟨nn, k2⟩) fun b hb => by
    rcases List.mem_cons.mp hb with q | q
    · subst q; exact .inl List.mem_cons_self
    · rcases k3 b q with q | q
      · exact (sub b q).imp (fun z => List.mem_cons_of_mem _ (g5 b z)) id
      · exact .inl (List.mem_cons_of_mem _ (g6 b q))
  refine ⟨fp', s1, fun b hb => ?_⟩
  rcases s2 b hb with q | q
  · exact .inl q
  · rcases List.mem_cons.mp q with q | q
    · subst q; exact .inl (a3 _ List.mem_cons_self)
    · rcases k3 b q with q | q
      · exact .inr q
      · exact .inl (a3 b (List.mem_cons_of_mem _ (g6 b q)))
/-- .. and in a tuple -/
theorem At.tup {os : List Ow} {bk : Ow → Ev} (h : At K F H σ fp w (.t os, bk)) : ∃ a vs, w = .ref a ∧ SqT K.K F a vs ∧ vs.length = os.length ∧ ∀ (j : Nat) (o : Ow), os[j]? = some o → ∃ u, vs[j]? = some u ∧ At K F H σ fp u (o, fun o' => bk (.t (os.set j o'))) := by
  obtain ⟨fo, a1, a2, a3, a4⟩ := h
  cases a1 with
  | @t a vs _ f0 m1 m3 =>
  refine ⟨a, vs, rfl, m1, m3.len, fun j o hj => ?_⟩
  obtain ⟨u, f1, fr, g1, g2, g3, g4, g5, g6, g7, g8⟩ := OwnAll.get m3 a2 hj
  refine ⟨u, g1, f1, g2, g3, fun b hb => a3 b (g5 b hb), fun F1 H1 o' fn fx st hx sm ow nd sub => ?_⟩
  obtain ⟨f2, k1, k2, k3⟩ := g8 F1 H1 fx [] u o' fn st (fun b hb z => g7 b (hx b z) hb) ow nd fun b hb z => by
    rcases sub b hb with q | q
    · exact g7 b q z
    · exact q (a3 b (g6 b z))
  rw [set_selfV g1] at k1
  obtain ⟨fp', s1, s2⟩ := a4 F1 H1 (.t (os.set j o')) f2 fx st (fun b hb => g5 b (hx b hb)) sm (.t (SqT_mono st.ff m1) k1) k2 fun b hb => by
    rcases k3 b hb with q | q
    · exact (sub b q).imp (g5 b) id
    · exact .inl (g6 b q)
  refine ⟨fp', s1, fun b hb => ?_⟩
  rcases s2 b hb with q | q
  · exact .inl q
  · rcases k3 b q with q | q
    · exact .inr q
    · exact .inl (a3 b (g6 b q))
/-- the list that stands there, changed -/
theorem At.mut {os : List Ow} {bk : Ow → Ev} (h : At K F H σ fp w (.l os, bk)) (sat : Sat K F H σ env fp) : ∃ a vs fo, w = .ref a ∧ F a = none ∧ H a = some (.lst vs) ∧ a ∈ fp ∧ OwnAll K F H vs os fo ∧ fo.Nodup ∧ a ∉ fo ∧ (∀ b ∈ fo, b ∈ fp) ∧
    ∀ F1 H1 vs' os' fo', Ext F H F1 H1 → OwnAll K F1 (upd H1 a (.lst vs')) vs' os' fo' → fo'.Nodup → (∀ b ∈ fo', b ∈ fo ∨ b ∉ fp) → ∃ fp', Sat K F1 (upd H1 a (.lst vs')) σ (bk (.l os')) fp' ∧ ∀ b ∈ fp', b ∈ fp ∨ b ∈ fo' := by
  obtain ⟨fo, a1, a2, a3, a4⟩ := h
  cases a1 with
  | @l a vs _ f0 m1 m2 m3 =>
  obtain ⟨nd1, nd2⟩ := List.nodup_cons.mp a2
  refine ⟨a, vs, f0, rfl, m1, m2, a3 a List.mem_cons_self, m3, nd2, nd1, fun b hb => a3 b (List.mem_cons_of_mem _ hb), fun F1 H1 vs' os' fo' x ow nd sub => ?_⟩
  have fa := mut_free x m1 m2
  have na : a ∉ fo' := fun z => by
    rcases sub a z with q | q
    · exact nd1 q
    · exact q (a3 a List.mem_cons_self)
  obtain ⟨fp', s1, s2⟩ := a4 F1 (upd H1 a (.lst vs')) (.l os') (a :: fo') [a] (mut_step x m2) (fun b hb => by rw [List.mem_singleton.mp hb]; exact List.mem_cons_self) (mut_same x.fh fa) (.l fa upd_same ow) (List.nodup_cons.mpr ⟨na, nd⟩) fun b hb => by
    rcases List.mem_cons.mp hb with q | q
    · subst q; exact .inl List.mem_cons_self
    · exact (sub b q).imp (List.mem_cons_of_mem _) id
  refine ⟨fp', s1, fun b hb => ?_⟩
  rcases s2 b hb with q | q
  · exact .inl q
  · rcases List.mem_cons.mp q with q | q
    · subst q; exact .inl (a3 _ List.mem_cons_self)
    · exact .inr q
theorem step_mut {F H F1 H1 : Hp} {fp fp' fo' : List Addr} {a : Addr} {vs' : List V} (x : Ext F H F1 H1) (ha : a ∈ fp) (h : ∀ b ∈ fp', b ∈ fp ∨ b ∈ fo') (h2 : ∀ b ∈ fo', b ∈ fp ∨ H b = none) : StepS F H fp F1 (upd H1 a (.lst vs')) fp' where
  ff := x.ff
  fr := fun b o e n => by
    rw [upd_ne (fun z => n (by rw [z]; exact ha))]
    exact x.hh _ _ e
  fn := fun b o e => (x.fn b o e).imp id .inr
  sub := fun b hb => by
    rcases h b hb with q | q
    · exact .inl q
    · exact h2 b q
end
def PostPl (X : Cx) (W : WX) (F H : Hp) (σ : L2.St) (fp : List Addr) : R Pl → (V → Hp → Prop) → Prop
  | .no, _ => False
  | .ok q, Q => ∀ w F' H', Ext F H F' H' → At X.KK F' H' σ fp w q → Q w H'
  | .ex c, _ => ∀ C F' H', X.mg c = some (.ref C) → Ext F H F' H' → W (.ref C) none σ H'
def DPt (X : Cx) (W : WX) (e : Expr) (f : Ev → R Pl) : Prop := ∃ t, PE X e t ∧ ∀ F H σ env fp Q, Sat X.KK F H σ env fp → PostPl X W F H σ fp (f env) Q → t σ H Q
def pVar (i : Nat) (env : Ev) : R Pl := match env[i]? with
  | some (some o) => .ok (o, fun o' => env.set i (some o'))
  | _ => .no
def ixP (q : Pl) : D → R Pl
  | .int k => match q.1 with
    | .l os => match ixN os.length k with
      | some j => match os[j]? with
        | some o => .ok (o, fun o' => q.2 (.l (os.set j o')))
        | none => .no
      | none => .no
    | .t os => match ixN os.length k with
      | some j => match os[j]? with
        | some o => .ok (o, fun o' => q.2 (.t (os.set j o')))
        | none => .no
      | none => .no
    | _ => .no
  | _ => .no
def pIx (f : Ev → R Pl) (g : Ev → R D) (env : Ev) : R Pl := (f env).bind fun q => (g env).bind fun d => ixP q d
section
variable {X : Cx} {W : WX} {S : Nat → Bool} {e a b : Expr} {pos cpos apos npos tpos : Pos} {x : Str}
theorem dpt_var (i : Nat) {x : Str} (hN : X.N[i]? = some x := by rfl) (hv : Vis X.env.scope x := by first | exact Or.inl rfl | exact Or.inr (Or.inl rfl) | exact Or.inr (Or.inr rfl)) (hd : (x == ("__debug__" : Str)) = false := by decide)
    (hcd : (x == ("__classdict__" : Str)) = false := by decide) : DPt X W (.Name x pos) (pVar i) := by
  refine ⟨_, pe_var hN hv hd hcd, fun F H σ env fp Q sat h => ?_⟩
  unfold pVar at h
  split at h
  · rename_i o he
    obtain ⟨w, h1, h2⟩ := At.var sat he
    exact ⟨w, h1, h w F H (.refl sat.fh) h2⟩
  · exact h.elim
theorem dpt_ix {f : Ev → R Pl} {g : Ev → R D} (ha : DPt X W a f) (hb : DV X W b g) (hs : PlainIx b := by exact fun _ _ => rfl) : DPt X W (.Subscript a b pos) (pIx f g) := by
  obtain ⟨ta, pa, sa⟩ := ha
  obtain ⟨tb, pb, sb⟩ := hb
  refine ⟨_, pe_ix ix_seq pa pb hs, fun F H σ env fp Q sat h => ?_⟩
  refine sa F H σ env fp _ sat ?_
  unfold pIx at h
  cases ef : f env with
  | no => rw [ef] at h; exact h.elim
  | ex c => rw [ef] at h; exact h
  | ok q =>
  rw [ef, R.bind_ok] at h
  intro w F1 H1 x1 at1
  refine sb F1 H1 σ env fp _ (sat.ext x1) ?_
  cases eg : g env with
  | no => rw [eg] at h; exact h.elim
  | ex c => rw [eg] at h; exact fun C F' H' m x => h C F' H' m (x1.trans x)
  | ok d =>
  rw [eg, R.bind_ok] at h
  intro u F2 H2 x2 qd
  have at2 := at1.ext x2
  have x := x1.trans x2
  unfold ixP at h
  cases d with
  | int k =>
    cases dp_int qd
    obtain ⟨o, bk⟩ := q
    simp only at h
    cases o with
    | l os =>
      simp only at h
      cases hj : ixN os.length k with
      | none => rw [hj] at h; exact h.elim
      | some j =>
      rw [hj] at h
      simp only at h
      cases ho : os[j]? with
      | none => rw [ho] at h; exact h.elim
      | some o =>
      rw [ho] at h
      obtain ⟨p, vs, v, rfl, p1, p2, p3, p4⟩ := at2.lst ho
      exact .inl ⟨p, vs, k, v, rfl, rfl, SqL.of p1, by unfold atI; rw [p2, hj]; exact p3, h v F2 H2 x p4⟩
    | t os =>
      simp only at h
      cases hj : ixN os.length k with
      | none => rw [hj] at h; exact h.elim
      | some j =>
      rw [hj] at h
      simp only at h
      cases ho : os[j]? with
      | none => rw [ho] at h; exact h.elim
      | some o =>
      rw [ho] at h
      obtain ⟨p, vs, rfl, p1, p2, pj⟩ := at2.tup
      obtain ⟨v, p3, p4⟩ := pj j o ho
      exact .inr (.inl ⟨p, vs, k, v, rfl, rfl, SqT_mono (sat.ext x).fh p1, by unfold atI; rw [p2, hj]; exact p3, h v F2 H2 x p4⟩)
    | _ => exact h.elim
  | _ => exact h.elim
def ownP (r : R Pl) (env : Ev) (c : List Ow → (Ow → Ev) → SR) : SR := r.st env fun q => match q.1 with
  | .l os => c os q.2
  | _ => .no
end
/-- an own thing taken out of its slot -/
theorem Sat.take {K : Kw} {F H : Hp} {σ : L2.St} {env : Ev} {fp : List Addr} (s : Sat K F H σ env fp) {i : Nat} {o : Ow} (hi : env[i]? = some (some o)) : ∃ v fo fr, σ[i]? = some (some v) ∧ OwnAt K F H v o fo ∧ fo.Nodup ∧ Sat K F H σ (env.set i none) fr ∧ (∀ b ∈ fr, b ∈ fp) ∧ (∀ b ∈ fo, b ∈ fp) ∧ (∀ b ∈ fo, b ∉ fr) := by
  have hl : i < env.length := (List.getElem?_eq_some_iff.mp hi).1
  obtain ⟨fr, fo, a1, a2, a3, a4, a5, a6, a7⟩ := s.en.put hl s.nd
  obtain ⟨v, e1, e2⟩ := a6 o hi
  have z := (a7 F H [] [] (StepS.of_ext (.refl s.fh) []) fun _ _ => by simp).1 (some v)
  rw [set_self e1] at z
  exact ⟨v, fo, fr, e1, e2, a4, ⟨s.fh, z, a3⟩, a1, a2, a5⟩
section
variable {X : Cx} {W : WX} {S : Nat → Bool} {e a b : Expr} {pos pos2 cpos apos npos tpos p1 p2 p3 p4 : Pos} {x y : Str} {sts : List Stmt} {gs : Ev → SR} {k1 : Nat}
end
end Mir
end
set_option Elab.async false
set_option linter.all false
set_option maxRecDepth 100000
set_option maxHeartbeats 4000000
noncomputable section
namespace Mir
open PySem PySem.Spec PyProof.Rows L2
section
variable {X : Cx} {W : WX} {S : Nat → Bool} {e a : Expr} {pos cpos apos : Pos}
def sPApp (p : Ev → R Pl) (f : Ev → R Ow) (env : Ev) : SR := ownP (p env) env fun os bk => (f env).st env fun r => if os.length < sizeLine then .nx (bk (.l (os ++ [r]))) else .no
theorem ds_papp {p : Ev → R Pl} {f : Ev → R Ow} (hp : DPt X W a p) (he : DE X W e f)
    (hbase : attributeBase a "append" X.env (eval a X.env) = eval a X.env := by rfl)
    (hfew : ((backTo cpos (starEach [e] X.env)).all (fun x => !x.1) && (backToKw cpos (keywordEach [] X.env)).all (fun x => x.1.isSome) && decide ([e].length + ([] : List Keyword).length + (if ([] : List Keyword).isEmpty then 0 else 1) < 30)) = true := by rfl)
    (hline : (apos.endLine == cpos.line) = true := by rfl) (hst : starEach [e] X.env = (false, eval e X.env) :: starEach [] X.env := by rfl) (hplain : (backTo cpos (starEach [] X.env)).any (·.1) = false := by rfl)
    (hsw : swapsWith (.Call (.Attribute a "append" apos) [e] [] cpos) none pos.line X.env = pure false := by rfl) : DS X W S (.Expr (.Call (.Attribute a "append" apos) [e] [] cpos) pos) (sPApp p f) := by
  obtain ⟨t, pe, s⟩ := he
  obtain ⟨t2, pp, s2⟩ := hp
  refine ⟨_, ps_expr (pe_bm PySem.F.plainAttrs_list PySem.F.slot_list_append PySem.F.type_list_append mt_append pp (pa_cons pe pa_nil hst) hbase hfew hline hst hplain) hsw, fun F H σ env fp D sat hh => ?_⟩
  refine s2 F H σ env fp _ sat ?_
  unfold sPApp ownP at hh
  cases ep : p env with
  | no => rw [ep] at hh; exact hh.elim
  | ex c => rw [ep] at hh; exact fun C F' H' m x => hh C σ F' H' fp m (.refl _ _) (StepS.of_ext x fp) (sat.ext x)
  | ok q =>
  rw [ep, R.st_ok] at hh
  obtain ⟨o, bk⟩ := q
  simp only at hh
  cases o with
  | l os =>
    simp only at hh
    intro w F1 H1 x1 at1
    have sat1 := sat.ext x1
    obtain ⟨a, vs, fo, rfl, m1, m2, m3, m4, m5, m6, m7, m8⟩ := At.mut at1 sat1
    refine ⟨.inl ⟨rfl, vs, SqL.of m2⟩, ?_⟩
    refine s F1 H1 σ env fp _ sat1 ?_
    cases ef : f env with
    | no => rw [ef] at hh; exact hh
    | ex c => rw [ef] at hh; exact fun C F' H' m x => hh C σ F' H' fp m (.refl _ _) (StepS.of_ext (x1.trans x) fp) (sat1.ext x)
    | ok r =>
    rw [ef, R.st_ok] at hh
    intro v F2 H2 x2 ⟨fx, ow, nx, fr⟩
    split at hh
    case isFalse => exact hh.elim
    rename_i cc
    have there : ∀ b ∈ fp, H1 b ≠ none := fun b hb z => by
      obtain ⟨_, u, e⟩ := sat1.en.there b hb
      rw [z] at e; cases e
    have na : a ∉ fx := fun z => there a m3 (fr a z)
    have hb := x2.hh _ _ m2
    have f2 := mut_free x2 m1 m2
    obtain ⟨fo', g1, g2, g3⟩ := OwnAll.snoc (own_mut (vs' := vs ++ [v]) x2 m2 m4 m6) (own_mut1 (vs' := vs ++ [v]) x2.fh f2 hb ow na) m5 nx fun b hb z => there b (m7 b z) (fr b hb)
    obtain ⟨fp', s1, s2⟩ := m8 F2 H2 (vs ++ [v]) (os ++ [r]) fo' x2 g1 g2 fun b hb => (g3 b hb).imp id fun z q => there b q (fr b z)
    exact ⟨a, vs, v, rfl, rfl, hb, by rw [m4.len]; omega, hh σ F2 _ fp' (.refl _ _) (step_mut (x1.trans x2) m3 s2 fun b hb => (g3 b hb).imp (m7 b) fun z => x1.hh.free (fr b z)) s1⟩
  | _ => exact hh.elim
end
def mNil (env : Ev) : R (List Ow × Ev) := .ok ([], env)
def mCons (f : Ev → R Ow) (g : Ev → R (List Ow × Ev)) (env : Ev) : R (List Ow × Ev) := (f env).bind fun o => (g env).map fun p => (o :: p.1, p.2)
section
variable {X : Cx} {W : WX} {S : Nat → Bool} {e : Expr} {es : List Expr} {pos p1 : Pos} {x : Str}
end
section
variable (env : Ev)
@[simp] theorem mNil_eq : mNil env = .ok ([], env) := rfl
@[simp] theorem mCons_eq (f : Ev → R Ow) (g : Ev → R (List Ow × Ev)) : mCons f g env = (f env).bind fun o => (g env).map fun p => (o :: p.1, p.2) := rfl
end
end Mir
end
set_option Elab.async false
set_option linter.all false
set_option maxRecDepth 100000
set_option maxHeartbeats 4000000
noncomputable section
namespace Mir
open PySem PySem.Spec PyProof.Rows L2
section
variable {X : Cx} {W : WX} {S : Nat → Bool} {e : Expr} {p p2 pos pos2 p1 p3 : Pos} {x y : Str} {k1 : Nat}
end
end Mir
end
set_option Elab.async false
set_option linter.all false
set_option maxRecDepth 100000
set_option maxHeartbeats 4000000
noncomputable section
namespace Mir
open PySem PySem.Spec PyProof.Rows L2
section
variable {X : Cx} {W : WX} {e a b : Expr} {es : List Expr} {pos p : Pos} {x : Str}
end
end Mir
end
set_option Elab.async false
set_option linter.all false
set_option maxRecDepth 100000
set_option maxHeartbeats 4000000
noncomputable section
namespace Mir
open PySem PySem.Spec PyProof.Rows L2
section
variable {K : Kw} {F H : Hp} {σ : L2.St} {fp : List Addr} {w : V}
end
section
variable {X : Cx} {W : WX} {a b c : Expr} {apos cpos : Pos}
end
end Mir
end
set_option Elab.async false
set_option linter.all false
set_option maxRecDepth 100000
set_option maxHeartbeats 4000000
noncomputable section
namespace Mir
open PySem PySem.Spec PyProof.Rows L2
section
variable {T : Type} [DecidableEq T]
def onceL (ks : List T) : List T := ks.foldl step_dedup []
theorem onceL_snoc (ks : List T) (k : T) : onceL (ks ++ [k]) = step_dedup (onceL ks) k := by unfold onceL; rw [List.foldl_append]; rfl
theorem onceL_le (ks : List T) : (onceL ks).length ≤ ks.length := by
  have := foldl_step_dedup_length_le ([] : List T) ks
  simpa [onceL] using this
theorem sd_any (u : List T) (k j : T) : (step_dedup u k).any (· == j) = (u.any (· == j) || decide (j = k)) := by
  unfold step_dedup
  cases q : u.any (· == k) with
  | true =>
    rw [if_pos rfl]
    by_cases e : j = k
    · rw [e, q]; rfl
    · rw [decide_eq_false e, Bool.or_false]
  | false =>
    rw [if_neg (by simp), List.any_append, List.any_cons, List.any_nil, Bool.or_false]
    congr 1
    by_cases e : j = k
    · simp [e]
    · rw [decide_eq_false e]; exact beq_eq_false_iff_ne.mpr fun z => e z.symm
theorem sd_len (u : List T) (k : T) : (step_dedup u k).length = if u.any (· == k) = true then u.length else u.length + 1 := by
  unfold step_dedup; split <;> simp_all
end
section
variable {prog : Program} {w : World} {A : Around} {R : Result → Shared → Prop} {I : Addr} {fp wr : List Addr} {G : Array GenState → Array GenState → Prop} {P : Nat → Value → Prop} {St : Nat → Shared → Prop}
variable {T : Type} [DecidableEq T] {kd : KeyKind prog w T}
def SetHas (kd : KeyKind prog w T) (h : Heap) (S : Addr) (us : List T) : Prop := h.SetOf kd S (fun k => us.any (· == k)) us.length
theorem SetHas.eqv {h : Heap} {S : Addr} {us vs : List T} {f : T → Bool} {n : Nat} (g : h.SetOf kd S f n) (e : ∀ k, f k = vs.any (· == k)) (en : n = vs.length) : SetHas kd h S vs := by
  have e' : f = fun k => vs.any (· == k) := funext e
  subst e' en
  exact g
theorem set_run (ks : List T) (W : WalksS prog w A.in1 I fp wr G ks.length P St) (S : Addr) (out : S ∉ fp) (at' : ∀ i v, P i v → ∃ k, ks[i]? = some k ∧ kd.is k v = true ∧ v.scannable = true) (room : ks.length + 1 < scanBound) :
    ∀ (left i : Nat) (s : Shared), ks.length - i = left → i ≤ ks.length → St i s → SetHas kd s.heap S (onceL (ks.take i)) →
      (∀ s1, Moved (S :: wr) G s s1 → SetHas kd s1.heap S (onceL ks) → R (.ok (.ret .none)) s1) → codeAny (model prog w) A (.builtin "set.update.loop" ⟨[.ref S, .ref I], []⟩) R s := by
  have out2 : S ∉ wr := fun z => out (W.sub _ z)
  have more : ∀ b ∈ wr, b ∈ S :: wr := fun b z => .tail _ z
  intro left
  induction left with
  | zero =>
    intro i s e1 e2 st has fin
    obtain rfl : i = ks.length := by omega
    rw [List.take_length] at has
    refine codeAny_builtin PyProof.Rows.F.entry_set_update_loop ?_
    rw [Around.under_plainId PyProof.Rows.F.plain_set_update_loop _]
    show wpAny _ A.in1 (pyNext (.ref I) >>= _) _ _ s
    refine wpAny_bind (W.done s _ _ st fun s1 mv => ?_)
    show wpAny _ A.in1 (ret Value.none) _ _ s1
    refine wpAny_pure (fin s1 (mv.mono more) ?_)
    obtain ⟨o, es, ep, t, q, rest⟩ := has
    exact ⟨o, es, ep, t, mv.heap S _ out2 q, rest⟩
  | succ left ih =>
    intro i s e1 e2 st has fin
    have lt : i < ks.length := by omega
    refine codeAny_builtin PyProof.Rows.F.entry_set_update_loop ?_
    rw [Around.under_plainId PyProof.Rows.F.plain_set_update_loop _]
    show wpAny _ A.in1 (pyNext (.ref I) >>= _) _ _ s
    refine wpAny_bind (W.item i s _ _ lt st fun v s1 pv st1 mv => ?_)
    obtain ⟨k, gk, isk, sc⟩ := at' i v pv
    have has1 : SetHas kd s1.heap S (onceL (ks.take i)) := by
      obtain ⟨o, es, ep, t, q, rest⟩ := has
      exact ⟨o, es, ep, t, mv.heap S _ out2 q, rest⟩
    show wpAny _ A.in1 (holding [v] (setAdd S v) >>= _) _ _ s1
    refine wpAny_bind (wpAny_holding ?_)
    unfold setAdd
    refine wpAny_holding (wpAny_bind (kd.pyHash (k := k) isk ?_))
    have small : (onceL (ks.take i)).length + 1 < scanBound := by
      have q1 := onceL_le (ks.take i)
      have q2 := List.length_take_le i ks
      have q3 : (ks.take i).length ≤ ks.length := by rw [List.length_take]; omega
      omega
    refine wpAny_setAddHashed_of (knd := kd) (s := { s1 with toks := s1.toks + 1 }) isk sc has1 small fun h2 but has2 => ?_
    have tk : ks.take (i + 1) = ks.take i ++ [k] := by
      rw [List.take_add_one, gk]; rfl
    have has3 : SetHas kd h2 S (onceL (ks.take (i + 1))) := SetHas.eqv (us := ks) has2 (fun j => by rw [tk, onceL_snoc, sd_any]) (by rw [tk, onceL_snoc, sd_len])
    refine wpAny_pure ⟨plainId_quiet PyProof.Rows.F.plain_set_update_loop _, ih (i + 1) _ (by omega) lt (W.frame _ s1 _ _ st1 (Nat.le_succ _) fun b hb o e => ?_) has3 fun s2 mv2 has4 => ?_⟩
    · rw [but.2 b (fun z : b = S => out (z ▸ hb))]; exact e
    · refine fin s2 (Moved.trans W.gtrans ((mv.mono more).then_heap (Nat.le_succ _) fun b o hb e => ?_) mv2) has4
      rw [but.2 b (fun z : b = S => hb (by rw [z]; exact .head _))]; exact e
end
section
variable {prog : Program} {w : World} {A : Around} {E : Value → Shared → Prop} {s : Shared} {T : Type} [DecidableEq T]
def bareSet (led : Bool) : Obj := { cls := .type "set", dict := none, data := .set #[] 0 (.fresh 0 0 led) }
theorem call_setK (kd : KeyKind prog w T) {l : Addr} {items : Array Value} {ks : List T} {Q : Value → Shared → Prop}
    (hh : A.handled = none) (hl : s.heap.IsList l items) (len : items.size = ks.length) (at' : ∀ (i : Nat) (v : Value), items[i]? = some v → ∃ k, ks[i]? = some k ∧ kd.is k v = true ∧ v.scannable = true) (room : ks.length + 1 < scanBound)
    (h : ∀ (h1 : Heap) (tk : Nat), SetHas kd h1 s.heap.objs.size (onceL ks) → (∀ b o, b < s.heap.objs.size → s.heap.get? b = some o → h1.get? b = some o) → Q (.ref s.heap.objs.size) { s with heap := h1, toks := tk }) :
    wpAny (model prog w) A (call (.type "set") [.ref l]) Q E s := by
  obtain ⟨cc, tl, mro⟩ := PySem.F.called_set.mro
  have made := PySem.F.called_set.made
  have subt := PySem.F.called_set.sub
  refine wpAny_call (codeAny_of_tree ?_)
  show wpAny _ _ (callAny (.type "set") _) _ _ _
  refine wpAny_pure ⟨Code.quiet_builtin _ (by decide +kernel), codeAny_builtin PySem.F.entry_type_call ?_⟩
  rw [Around.under_plain (weight_type_call_type "set" [.ref l] []) rfl]
  have f1 := PySem.F.called_set.notType
  have f2 := PySem.F.called_set.canCreate
  have f3 := PySem.F.typeCall_set_1 (.ref l)
  repeat (any_goals (first | assumption | wp_step))
  refine codeAny_mono (code_set_new_1 (.ref l) (E := E) (Q₁ := fun u z => ∃ led : Bool, u = .ref s.heap.objs.size ∧ z = { s with heap := s.heap.push (bareSet led) }) fun led => ⟨led, rfl, rfl⟩) fun r z hr => ?_
  cases r with
  | error e => exact hr
  | ok fl =>
    cases fl with
    | ret u =>
      obtain ⟨led, rfl, rfl⟩ := hr
      have new : (s.heap.push (bareSet led)).get? s.heap.objs.size = some (bareSet led) := Heap.get?_push_size _ rfl
      have isT : Shared.TypeIs { s with heap := s.heap.push (bareSet led) } (.ref s.heap.objs.size) "set" := ⟨_, new, rfl⟩
      have f4 := PySem.F.called_set.init.lookup
      have f5 := PySem.F.called_set.init.bind (.ref s.heap.objs.size)
      repeat (any_goals (first | assumption | wp_step))
      refine codeAny_mono (codeAny_call_builtin (R := wants (fun u z => u = .none ∧ ∃ h1 tk, z = { s with heap := h1, toks := tk } ∧ SetHas kd h1 s.heap.objs.size (onceL ks) ∧ (∀ b o, b < s.heap.objs.size → s.heap.get? b = some o → h1.get? b = some o)) E)
        PySem.F.called_set.init.plain PySem.F.entry_set_init (check_set_init_1 isT ?_)) fun r2 z2 hr2 => ?_
      · obtain ⟨⟨oc, od, oda, osl⟩, ho, hc, nl, hd⟩ := hl
        simp only at hc hd
        subst hc
        subst hd
        have ho1 : (s.heap.push (bareSet led)).get? l = some { cls := .type "list", dict := od, data := .seq items nl, slots := osl } := Heap.get?_push_of_some _ ho
        have f6 := PySem.F.sub_list_set
        have f7 := PySem.F.sub_list_frozenset
        have f8 : (Value.type "list" == Value.type "dict") = false := by decide
        have hl1 : (s.heap.push (bareSet led)).IsList l items := ⟨_, ho1, rfl, nl, rfl⟩
        unfold Builtin.«set.__init__» noKeywords Builtin.Frozenset.updateFrom
        generalize ep : pyIter = PI
        wp_walk
        subst ep
        refine wpAny_pyIter_list hl1 (wpAny_bind (wpAny_runValue ?_))
        have lt : l < s.heap.objs.size := Heap.lt_size ho
        have hh3 : A.in1.in1.in1.handled = none := by simp [hh]
        have ne1 : l ≠ (s.heap.push (bareSet led)).objs.size := by
          rw [Heap.size_push]; exact Nat.ne_of_lt (Nat.lt_succ_of_lt lt)
        have out : s.heap.objs.size ∉ [(s.heap.push (bareSet led)).objs.size, l] := fun z => by
          rw [Heap.size_push] at z
          rcases List.mem_cons.mp z with z | z
          · exact absurd z (Nat.ne_of_lt (Nat.lt_succ_self _))
          · exact absurd (List.mem_singleton.mp z) (Nat.ne_of_gt lt)
        have W := (Walks.list hh3 (s.heap.push (bareSet led)).objs.size l ne1 items).toS (prog := prog) (w := w)
        rw [len] at W
        refine set_run (kd := kd) ks W s.heap.objs.size out at' room (ks.length - 0) 0 _ (by omega) (Nat.zero_le _) ⟨⟨_, Heap.get?_push_size _ rfl, rfl, rfl⟩, hl1.push _⟩ ?_ ?_
        · have g2 : ((s.heap.push (bareSet led)).push { cls := .type "list_iterator", data := .fields #[.ref l, .int 0 0] }).get? s.heap.objs.size = some (bareSet led) := Heap.get?_push_of_some _ new
          exact SetHas.eqv (us := ks) ((PyProof.Rows.setObjOf_fresh (knd := kd) led).setOf g2 (by unfold scanBound; omega)) (fun _ => rfl) rfl
        · intro z mv has
          obtain ⟨h1, g1, d1, tk1, os1⟩ := z
          have eg : g1 = s.gens := mv.gens
          have ed : d1 = s.drawn := mv.drawn
          have eo : os1 = s.os := mv.os
          subst eg ed eo
          show wpAny _ _ _ _ _ _
          refine wpAny_pure ?_
          show wpAny _ _ (ret Value.none) _ _ _
          refine wpAny_pure ⟨rfl, h1, tk1, rfl, has, fun b o hb e => mv.heap b o (fun z => ?_) (Heap.get?_push_of_some _ (Heap.get?_push_of_some _ e))⟩
          rw [Heap.size_push] at z
          rcases List.mem_cons.mp z with z | z
          · exact absurd z (Nat.ne_of_lt hb)
          · exact absurd (List.mem_singleton.mp z) (Nat.ne_of_lt (Nat.lt_succ_of_lt hb))
      · cases r2 with
        | error e => exact hr2
        | ok fl2 =>
          cases fl2 with
          | ret r =>
            obtain ⟨rfl, h1, tk, rfl, has, kept⟩ := hr2
            repeat (any_goals (first | assumption | wp_step))
            exact h _ _ has kept
          | _ => exact hr2.elim
    | _ => exact hr.elim
end
end Mir
end
set_option Elab.async false
set_option linter.all false
set_option maxRecDepth 100000
set_option maxHeartbeats 4000000
noncomputable section
namespace Mir
open PySem PySem.Spec PyProof.Rows L2
section
variable {X : Cx} {W : WX}
def tLenS (K : PySem.W.Frag) (ta : TE) : TE := fun σ H Q => ta σ H fun x H1 => ∃ l : Addr, x = .ref l ∧
  ((∃ ns : List Int, SqL K H1 l (ns.map V.int) ∧ ns.length ≤ 4000 ∧ Q (.int (onceL ns).length) H1) ∨ (∃ ts : List Str, SqL K H1 l (ts.map V.str) ∧ ts.length ≤ 4000 ∧ Q (.int (onceL ts).length) H1))
theorem intIs (w : World) (P : Program) {i : Int} {t : Nat} : (PySem.intKind P w).is i (.int i t) = true := intKind_is _ _ _ _
theorem strIs (w : World) (P : Program) {i : Str} {t : Nat} : (PySem.strKind P w).is i (.str i t) = true := by
  show (i == i) = true
  exact beq_self_eq_true i
theorem pe_lenS {a : Expr} {ta : TE} {p p2 q pos : Pos} (hg : Gl X "len") (hm : X.mg "len" = none) (hg2 : Gl X "set") (hm2 : X.mg "set" = none) (ha : PE X a ta) (hc : X.calm = true := by rfl)
    (na : starEach [a] X.env = (false, eval a X.env) :: starEach [] X.env := by rfl) : PE X (.Call (.Name "len" p) [.Call (.Name "set" p2) [a] [] q] [] pos) (tLenS X.K ta) := by
  refine ⟨fun pins s σ H Q I h => ?_⟩
  refine Call_ (ld_blt I hg hm boot_len (PyProof.Rows.callWith_builtin1 (PyProof.Rows.args_cons ?_ rfl) rfl rfl))
  refine Call_ (ld_blt I hg2 hm2 boot_set (PyProof.Rows.callWith_type1 (PyProof.Rows.args_cons (thn (ha.run pins s σ H _ I h) fun v s1 ⟨x, H1, I1, r1, q1⟩ => PyProof.Rows.args_nil ?_) na) na rfl))
  obtain ⟨l, rfl, q1⟩ := q1
  cases r1
  rcases q1 with ⟨ns, hq, small, q1⟩ | ⟨ns, hq, small, q1⟩
  all_goals
    obtain ⟨its, r, pl, hz⟩ := I1.list hq
    have e1 : its.toArray.size = ns.length := by rw [List.size_toArray, ← r.length, List.length_map]
  · refine call_setK (PySem.intKind X.prog X.w) (ks := ns) (I1.ok.hd hc) pl.isList e1 (fun i v e => ?_) (by unfold scanBound; omega) fun h1 tk has kept => PyProof.Rows.args_nil ?_
    · have e' : its[i]? = some v := by simpa using e
      obtain ⟨n, gn⟩ : ∃ n, ns[i]? = some n := by
        have := (List.getElem?_eq_some_iff.mp e').1
        exact ⟨_, List.getElem?_eq_getElem (by rw [← r.length, List.length_map] at this; exact this)⟩
      obtain ⟨w, gw, rw1⟩ := r.get (i := i) (x := .int n) (by rw [List.getElem?_map, gn]; rfl)
      rw [e'] at gw
      cases gw
      obtain ⟨t, rfl⟩ := rw1
      exact ⟨n, gn, intIs _ _, rfl⟩
    · obtain ⟨o, es, ep, t, ho, hex, hd, _, _, _, hf, hn⟩ := has
      have I2 : Inv X pins σ H1 { s1 with heap := h1, toks := tk } := I1.kept fun b o e => kept b o (Heap.lt_size e) e
      have := onceL_le ns
      exact call_len_set ho hex hd hf (by rw [hn] <;> omega) ⟨.int (onceL ns).length, H1, I2.tok _, ⟨_, by rw [hn]⟩, q1⟩
  · refine call_setK (PySem.strKind X.prog X.w) (ks := ns) (I1.ok.hd hc) pl.isList e1 (fun i v e => ?_) (by unfold scanBound; omega) fun h1 tk has kept => PyProof.Rows.args_nil ?_
    · have e' : its[i]? = some v := by simpa using e
      obtain ⟨n, gn⟩ : ∃ n, ns[i]? = some n := by
        have := (List.getElem?_eq_some_iff.mp e').1
        exact ⟨_, List.getElem?_eq_getElem (by rw [← r.length, List.length_map] at this; exact this)⟩
      obtain ⟨w, gw, rw1⟩ := r.get (i := i) (x := .str n) (by rw [List.getElem?_map, gn]; rfl)
      rw [e'] at gw
      cases gw
      obtain ⟨t, rfl⟩ := rw1
      exact ⟨n, gn, strIs _ _, rfl⟩
    · obtain ⟨o, es, ep, t, ho, hex, hd, _, _, _, hf, hn⟩ := has
      have I2 : Inv X pins σ H1 { s1 with heap := h1, toks := tk } := I1.kept fun b o e => kept b o (Heap.lt_size e) e
      have := onceL_le ns
      exact call_len_set ho hex hd hf (by rw [hn] <;> omega) ⟨.int (onceL ns).length, H1, I2.tok _, ⟨_, by rw [hn]⟩, q1⟩
def gLenSet : D → R D
  | .list ds => match intsD ds with
    | some ns => if ns.length ≤ 4000 then .ok (.int (onceL ns).length) else .no
    | none => match strsD ds with
      | some ts => if ts.length ≤ 4000 then .ok (.int (onceL ts).length) else .no
      | none => .no
  | _ => .no
theorem df_lenSet {a : Expr} {f : Ev → R D} {p p2 q pos : Pos} (hg : Gl X "len") (hm : X.mg "len" = none) (hg2 : Gl X "set") (hm2 : X.mg "set" = none) (ha : DL X W a f) (hc : X.calm = true := by rfl)
    (na : starEach [a] X.env = (false, eval a X.env) :: starEach [] X.env := by rfl) : DF X W (.Call (.Name "len" p) [.Call (.Name "set" p2) [a] [] q] [] pos) (eB f gLenSet) := by
  obtain ⟨t, pa, s⟩ := ha
  refine ⟨_, pe_lenS hg hm hg2 hm2 pa hc na, fun F H σ env fp Q sat hp => ?_⟩
  refine s.go sat hp fun d v F1 H1 sat1 q _ h1 => ?_
  unfold gLenSet at h1
  cases d with
  | list ds =>
    obtain ⟨l, vs, rfl, d1, d2⟩ := q
    simp only at h1
    cases e1 : intsD ds with
    | some ns =>
      rw [e1] at h1
      simp only at h1
      split at h1
      · rename_i small
        rw [intsD_eq e1] at d2
        rw [DpAll.ints _ d2] at d1
        exact ⟨l, rfl, .inl ⟨ns, d1, small, h1 _ F1 H1 (.refl sat1.fh) (.int _)⟩⟩
      · exact h1.elim
    | none =>
      rw [e1] at h1
      simp only at h1
      cases e2 : strsD ds with
      | some ts =>
        rw [e2] at h1
        simp only at h1
        split at h1
        · rename_i small
          rw [strsD_dp d2 e2] at d1
          exact ⟨l, rfl, .inr ⟨ts, d1, small, h1 _ F1 H1 (.refl sat1.fh) (.int _)⟩⟩
        · exact h1.elim
      | none => rw [e2] at h1; exact h1.elim
  | _ => exact h1.elim
end
end Mir
end
set_option Elab.async false
set_option linter.all false
set_option maxRecDepth 100000
set_option maxHeartbeats 4000000
noncomputable section
namespace Mir
open PySem PySem.Spec PySem.Calls PyProof.Rows L2
def itmD (ps : List (D × D)) : List D := ps.map fun p => .tuple [p.1, p.2]
def keysOk (ps : List (D × D)) : Bool := ps.all fun p => isKey p.1
section
variable {X : Cx} {W : WX} {e : Expr} {te : TE} {p apos cpos pos : Pos}
def gSortIt : D → Option Ow
  | .dict ps => if (keysOk ps && sortOk (itmD ps)) = true then some (.l ((sortedD (itmD ps)).map Ow.d)) else none
  | _ => none
end
@[simp] theorem gSortIt_dict (ps : List (D × D)) : gSortIt (.dict ps) = if (keysOk ps && sortOk (itmD ps)) = true then some (.l ((sortedD (itmD ps)).map Ow.d)) else none := rfl
end Mir
end
set_option Elab.async false
set_option linter.all false
set_option maxRecDepth 100000
set_option maxHeartbeats 4000000
noncomputable section
namespace Mir
open PySem PySem.Spec PyProof.Rows L2
section
variable {X : Cx} {W : WX} {e a b : Expr} {es : List Expr} {pos p : Pos}
end
end Mir
end
set_option Elab.async false
set_option linter.all false
set_option maxRecDepth 100000
set_option maxHeartbeats 4000000
noncomputable section
namespace Mir
open PySem PySem.Spec PyProof.Rows L2
/-- v the whole, u what stands at a place of it, s as told; put: the whole with another thing there; fr: the rest of the whole -/
structure Hole (K : Kw) (F H : Hp) (v u : V) (s : Ow) (put : Ow → Ow) (fo fr : List Addr) : Prop where
  own : OwnAt K F H u s fo
  ndo : fo.Nodup
  ndr : fr.Nodup
  dis : ∀ b ∈ fo, b ∉ fr
  thr : ∀ b ∈ fr, ∃ o, H b = some o
  back : ∀ F1 H1 fx fy s' fn, StepS F H fx F1 H1 fy → (∀ b ∈ fr, b ∉ fx) → OwnAt K F1 H1 u s' fn → fn.Nodup → (∀ b ∈ fn, b ∉ fr) → ∃ fp', OwnAt K F1 H1 v (put s') fp' ∧ fp'.Nodup ∧ ∀ b ∈ fp', b ∈ fn ∨ b ∈ fr
section
variable {K : Kw} {F H F1 H1 : Hp} {v u : V} {s s1 : Ow} {put : Ow → Ow} {fo fr fp fn fx fy : List Addr} {σ : L2.St} {env : Ev}
theorem Hole.here {o : Ow} (h : OwnAt K F H v o fp) (nd : fp.Nodup) : Hole K F H v v o id fp [] :=
  ⟨h, nd, List.nodup_nil, (fun _ _ z => nomatch z), (fun _ z => nomatch z), fun F1 H1 fx fy s' fn _ _ ow n _ => ⟨fn, ow, n, fun b hb => .inl hb⟩⟩
theorem Hole.move (h : Hole K F H v u s put fo fr) (st : StepS F H fx F1 H1 fy) (dj : ∀ b ∈ fr, b ∉ fx) (ow : OwnAt K F1 H1 u s1 fn) (nd : fn.Nodup) (dn : ∀ b ∈ fn, b ∉ fr) : Hole K F1 H1 v u s1 put fn fr where
  own := ow
  ndo := nd
  ndr := h.ndr
  dis := dn
  thr := fun b hb => by
    obtain ⟨o, e⟩ := h.thr b hb
    exact ⟨o, st.fr b o e (dj b hb)⟩
  back := fun F2 H2 gx gy s' fm st2 dj2 ow2 nd2 dn2 => by
    refine h.back F2 H2 (fx ++ gx) [] s' fm ⟨st.ff.trans st2.ff, fun b o e n => st2.fr b o (st.fr b o e fun z => n (List.mem_append_left _ z)) fun z => n (List.mem_append_right _ z), fun b o e => ?_, fun b z => nomatch z⟩ (fun b hb z => ?_) ow2 nd2 dn2
    · rcases st2.fn b o e with q | q | q
      · exact (st.fn b o q).imp id (.imp (List.mem_append_left _) id)
      · exact .inr (.inl (List.mem_append_right _ q))
      · by_cases hx : b ∈ fx
        · exact .inr (.inl (List.mem_append_left _ hx))
        · cases hb : H b with
          | none => exact .inr (.inr rfl)
          | some o2 => rw [st.fr b o2 hb hx] at q; cases q
    · rcases List.mem_append.mp z with z | z
      · exact dj b hb z
      · exact dj2 b hb z
theorem Hole.ext (h : Hole K F H v u s put fo fr) (x : Ext F H F1 H1) : Hole K F1 H1 v u s put fo fr :=
  h.move (StepS.of_ext x []) (fun _ _ z => (nomatch z)) (h.own.ext x) h.ndo h.dis
/-- one place further, in a list .. -/
theorem Hole.lst {os : List Ow} (h : Hole K F H v u (.l os) put fo fr) {j : Nat} {o : Ow} (hj : os[j]? = some o) : ∃ a vs w f1 f2, u = .ref a ∧ H a = some (.lst vs) ∧ vs.length = os.length ∧ vs[j]? = some w ∧ Hole K F H v w o (fun o' => put (.l (os.set j o'))) f1 f2 ∧
    (∀ b ∈ f1, b ∈ fo) ∧ (∀ b ∈ f2, b ∈ fo ∨ b ∈ fr) ∧ a ∈ f2 := by
  obtain ⟨h1, h2, h3, h4, h5, h6⟩ := h
  cases h1 with
  | @l a vs _ f0 m1 m2 m3 =>
  obtain ⟨nd1, nd2⟩ := List.nodup_cons.mp h2
  obtain ⟨w, f1, f2, g1, g2, g3, g4, g5, g6, g7, g8⟩ := OwnAll.get m3 nd2 hj
  have hm : ∀ b ∈ f1, b ∈ a :: f0 := fun b hb => List.mem_cons_of_mem _ (g5 b hb)
  have a2 : a ∉ f2 := fun z => nd1 (g6 a z)
  have d2 : ∀ b ∈ f2, b ∉ fr := fun b hb => h4 b (List.mem_cons_of_mem _ (g6 b hb))
  refine ⟨a, vs, w, f1, a :: (f2 ++ fr), rfl, m2, m3.len, g1, ⟨g2, g3, ?_, fun b hb z => ?_, fun b hb => ?_, fun F1 H1 fx fy s' fn st dj ow nd dn => ?_⟩, hm, fun b hb => ?_, List.mem_cons_self⟩
  · refine List.nodup_cons.mpr ⟨fun z => ?_, List.nodup_append.mpr ⟨g4, h3, fun b hb c hc e => d2 b hb (e ▸ hc)⟩⟩
    rcases List.mem_append.mp z with z | z
    · exact a2 z
    · exact h4 a List.mem_cons_self z
  · rcases List.mem_cons.mp z with z | z
    · exact nd1 (z ▸ g5 b hb)
    · rcases List.mem_append.mp z with z | z
      · exact g7 b hb z
      · exact h4 b (hm b hb) z
  · rcases List.mem_cons.mp hb with z | z
    · exact ⟨_, z ▸ m2⟩
    · rcases List.mem_append.mp z with z | z
      · exact (OwnAll.there _ _ _ m3 b (g6 b z)).2
      · exact h5 b z
  · obtain ⟨f3, k1, k2, k3⟩ := g8 F1 H1 fx fy w s' fn st (fun b hb => dj b (List.mem_cons_of_mem _ (List.mem_append_left _ hb))) ow nd fun b hb z => dn b hb (List.mem_cons_of_mem _ (List.mem_append_left _ z))
    rw [set_selfV g1] at k1
    have na : a ∉ fx := dj a List.mem_cons_self
    have a3 : a ∉ f3 := fun z => by
      rcases k3 a z with q | q
      · exact dn a q List.mem_cons_self
      · exact a2 q
    obtain ⟨fp', s1, s2, s3⟩ := h6 F1 H1 fx fy (.l (os.set j s')) (a :: f3) st (fun b hb => dj b (List.mem_cons_of_mem _ (List.mem_append_right _ hb))) (.l (st.none_of m1 m2 na) (st.fr _ _ m2 na) k1) (List.nodup_cons.mpr ⟨a3, k2⟩) fun b hb z => by
      rcases List.mem_cons.mp hb with q | q
      · exact h4 a List.mem_cons_self (q ▸ z)
      · rcases k3 b q with q | q
        · exact dn b q (List.mem_cons_of_mem _ (List.mem_append_right _ z))
        · exact d2 b q z
    refine ⟨fp', s1, s2, fun b hb => ?_⟩
    rcases s3 b hb with q | q
    · rcases List.mem_cons.mp q with q | q
      · exact .inr (q ▸ List.mem_cons_self)
      · rcases k3 b q with q | q
        · exact .inl q
        · exact .inr (List.mem_cons_of_mem _ (List.mem_append_left _ q))
    · exact .inr (List.mem_cons_of_mem _ (List.mem_append_right _ q))
  · rcases List.mem_cons.mp hb with z | z
    · exact .inl (z ▸ List.mem_cons_self)
    · rcases List.mem_append.mp z with z | z
      · exact .inl (List.mem_cons_of_mem _ (g6 b z))
      · exact .inr z
/-- .. or in a tuple -/
theorem Hole.tup {os : List Ow} (h : Hole K F H v u (.t os) put fo fr) : ∃ a vs, u = .ref a ∧ SqT K.K F a vs ∧ vs.length = os.length ∧ ∀ (j : Nat) (o : Ow), os[j]? = some o → ∃ w f1 f2, vs[j]? = some w ∧ Hole K F H v w o (fun o' => put (.t (os.set j o'))) f1 f2 ∧
    (∀ b ∈ f1, b ∈ fo) ∧ ∀ b ∈ f2, b ∈ fo ∨ b ∈ fr := by
  obtain ⟨h1, h2, h3, h4, h5, h6⟩ := h
  cases h1 with
  | @t a vs _ f0 m1 m3 =>
  refine ⟨a, vs, rfl, m1, m3.len, fun j o hj => ?_⟩
  obtain ⟨w, f1, f2, g1, g2, g3, g4, g5, g6, g7, g8⟩ := OwnAll.get m3 h2 hj
  have d2 : ∀ b ∈ f2, b ∉ fr := fun b hb => h4 b (g6 b hb)
  refine ⟨w, f1, f2 ++ fr, g1, ⟨g2, g3, List.nodup_append.mpr ⟨g4, h3, fun b hb c hc e => d2 b hb (e ▸ hc)⟩, fun b hb z => ?_, fun b hb => ?_, fun F1 H1 fx fy s' fn st dj ow nd dn => ?_⟩, g5, fun b hb => ?_⟩
  · rcases List.mem_append.mp z with z | z
    · exact g7 b hb z
    · exact h4 b (g5 b hb) z
  · rcases List.mem_append.mp hb with z | z
    · exact (OwnAll.there _ _ _ m3 b (g6 b z)).2
    · exact h5 b z
  · obtain ⟨f3, k1, k2, k3⟩ := g8 F1 H1 fx fy w s' fn st (fun b hb => dj b (List.mem_append_left _ hb)) ow nd fun b hb z => dn b hb (List.mem_append_left _ z)
    rw [set_selfV g1] at k1
    obtain ⟨fp', s1, s2, s3⟩ := h6 F1 H1 fx fy (.t (os.set j s')) f3 st (fun b hb => dj b (List.mem_append_right _ hb)) (.t (SqT_mono st.ff m1) k1) k2 fun b hb z => by
      rcases k3 b hb with q | q
      · exact dn b q (List.mem_append_right _ z)
      · exact d2 b q z
    refine ⟨fp', s1, s2, fun b hb => ?_⟩
    rcases s3 b hb with q | q
    · rcases k3 b q with q | q
      · exact .inl q
      · exact .inr (List.mem_append_left _ q)
    · exact .inr (List.mem_append_right _ q)
  · rcases List.mem_append.mp hb with z | z
    · exact .inl (g6 b z)
    · exact .inr z
end
abbrev Hl := Ow × (Ow → Ow)
def PostHl (X : Cx) (W : WX) (r : Nat) (F H : Hp) (σ : L2.St) (env : Ev) (fp : List Addr) : R Hl → (V → Hp → Prop) → Prop
  | .no, _ => False
  | .ok q, Q => ∀ v u F' H' fo fr fe, Ext F H F' H' → σ[r]? = some (some v) → r < env.length → Sat X.KK F' H' σ (env.set r none) fe → Hole X.KK F' H' v u q.1 q.2 fo fr → (∀ b ∈ fo ++ fr, b ∈ fp ∧ b ∉ fe) → (∀ b ∈ fe, b ∈ fp) → Q u H'
  | .ex c, _ => ∀ C F' H', X.mg c = some (.ref C) → Ext F H F' H' → W (.ref C) none σ H'
/-- a path from the own thing in slot r -/
def DHp (X : Cx) (W : WX) (r : Nat) (e : Expr) (f : Ev → R Hl) : Prop := ∃ t, PE X e t ∧ ∀ F H σ env fp Q, Sat X.KK F H σ env fp → PostHl X W r F H σ env fp (f env) Q → t σ H Q
def hVar (r : Nat) (env : Ev) : R Hl := match env[r]? with
  | some (some o) => .ok (o, id)
  | _ => .no
def ixH (q : Hl) : D → R Hl
  | .int k => match q.1 with
    | .l os => match ixN os.length k with
      | some j => match os[j]? with
        | some o => .ok (o, fun o' => q.2 (.l (os.set j o')))
        | none => .no
      | none => .no
    | .t os => match ixN os.length k with
      | some j => match os[j]? with
        | some o => .ok (o, fun o' => q.2 (.t (os.set j o')))
        | none => .no
      | none => .no
    | _ => .no
  | _ => .no
def hIx (f : Ev → R Hl) (g : Ev → R D) (env : Ev) : R Hl := (f env).bind fun q => (g env).bind fun d => ixH q d
section
variable {X : Cx} {W : WX} {S : Nat → Bool} {r : Nat} {e a b : Expr} {pos cpos apos npos tpos : Pos} {x : Str}
theorem dhp_var (r : Nat) {x : Str} (hN : X.N[r]? = some x := by rfl) (hv : Vis X.env.scope x := by first | exact Or.inl rfl | exact Or.inr (Or.inl rfl) | exact Or.inr (Or.inr rfl)) (hd : (x == ("__debug__" : Str)) = false := by decide)
    (hcd : (x == ("__classdict__" : Str)) = false := by decide) : DHp X W r (.Name x pos) (hVar r) := by
  refine ⟨_, pe_var hN hv hd hcd, fun F H σ env fp Q sat h => ?_⟩
  unfold hVar at h
  split at h
  · rename_i o he
    obtain ⟨v, fo, fr, e1, e2, e3, e4, e5, e6, e7⟩ := sat.take he
    refine ⟨v, e1, h v v F H fo [] fr (.refl sat.fh) e1 (List.getElem?_eq_some_iff.mp he).1 e4 (Hole.here e2 e3) (fun b hb => ?_) e5⟩
    rw [List.append_nil] at hb
    exact ⟨e6 b hb, e7 b hb⟩
  · exact h.elim
theorem dhp_ix {f : Ev → R Hl} {g : Ev → R D} (ha : DHp X W r a f) (hb : DV X W b g) (hs : PlainIx b := by exact fun _ _ => rfl) : DHp X W r (.Subscript a b pos) (hIx f g) := by
  obtain ⟨ta, pa, sa⟩ := ha
  obtain ⟨tb, pb, sb⟩ := hb
  refine ⟨_, pe_ix ix_seq pa pb hs, fun F H σ env fp Q sat h => ?_⟩
  refine sa F H σ env fp _ sat ?_
  unfold hIx at h
  cases ef : f env with
  | no => rw [ef] at h; exact h.elim
  | ex c => rw [ef] at h; exact h
  | ok q =>
  rw [ef, R.bind_ok] at h
  intro v w F1 H1 fo fr fe x1 hv hl sat1 ho1 in1 in2
  refine sb F1 H1 σ env fp _ (sat.ext x1) ?_
  cases eg : g env with
  | no => rw [eg] at h; exact h.elim
  | ex c => rw [eg] at h; exact fun C F' H' m x => h C F' H' m (x1.trans x)
  | ok d =>
  rw [eg, R.bind_ok] at h
  intro u F2 H2 x2 qd
  have ho2 := ho1.ext x2
  have x := x1.trans x2
  have sat2 := sat1.ext x2
  unfold ixH at h
  cases d with
  | int k =>
    cases dp_int qd
    obtain ⟨o, bk⟩ := q
    simp only at h
    cases o with
    | l os =>
      simp only at h
      cases hj : ixN os.length k with
      | none => rw [hj] at h; exact h.elim
      | some j =>
      rw [hj] at h
      simp only at h
      cases ho : os[j]? with
      | none => rw [ho] at h; exact h.elim
      | some o =>
      rw [ho] at h
      obtain ⟨p, vs, w', f1, f2, rfl, p1, p2, p3, p4, p5, p6, p7⟩ := ho2.lst ho
      refine .inl ⟨p, vs, k, w', rfl, rfl, SqL.of p1, by unfold atI; rw [p2, hj]; exact p3, h v w' F2 H2 f1 f2 fe x hv hl sat2 p4 (fun b hb => in1 b ?_) in2⟩
      rcases List.mem_append.mp hb with z | z
      · exact List.mem_append_left _ (p5 b z)
      · exact List.mem_append.mpr (p6 b z)
    | t os =>
      simp only at h
      cases hj : ixN os.length k with
      | none => rw [hj] at h; exact h.elim
      | some j =>
      rw [hj] at h
      simp only at h
      cases ho : os[j]? with
      | none => rw [ho] at h; exact h.elim
      | some o =>
      rw [ho] at h
      obtain ⟨p, vs, rfl, p1, p2, p3⟩ := ho2.tup
      obtain ⟨w', f1, f2, p4, p5, p6, p7⟩ := p3 j o ho
      refine .inr (.inl ⟨p, vs, k, w', rfl, rfl, SqT_mono sat2.fh p1, by unfold atI; rw [p2, hj]; exact p4, h v w' F2 H2 f1 f2 fe x hv hl sat2 p5 (fun b hb => in1 b ?_) in2⟩)
      rcases List.mem_append.mp hb with z | z
      · exact List.mem_append_left _ (p6 b z)
      · exact List.mem_append.mpr (p7 b z)
    | _ => exact h.elim
  | _ => exact h.elim
end
end Mir
end
set_option Elab.async false
set_option linter.all false
set_option maxRecDepth 100000
set_option maxHeartbeats 4000000
noncomputable section
namespace Mir
open PySem PySem.Spec PyProof.Rows L2
section
variable {K : Kw} {F H F1 H1 F' H' : Hp} {v u : V} {s s1 : Ow} {put : Ow → Ow} {fo fr fp fp1 fp' fp'' fx fy : List Addr} {σ : L2.St} {env e : Ev}
theorem step_comp (x : Ext F H F1 H1) (h1 : ∀ b ∈ fp1, b ∈ fp) (st : StepS F1 H1 fp1 F' H' fp') (h2 : ∀ b ∈ fp'', b ∈ fp' ∨ b ∈ fp) : StepS F H fp F' H' fp'' where
  ff := x.ff.trans st.ff
  fr := fun b o q n => st.fr b o (x.hh _ _ q) fun z => n (h1 b z)
  fn := fun b o q => by
    rcases st.fn b o q with z | z | z
    · exact (x.fn b o z).imp id .inr
    · exact .inr (.inl (h1 b z))
    · exact .inr (.inr (x.hh.free z))
  sub := fun b hb => by
    rcases h2 b hb with z | z
    · exact (st.sub b z).imp (h1 b) x.hh.free
    · exact .inl z
theorem put_back {r x : Nat} {s' : Ow} (sat : Sat K F' H' σ e fp') (hx : e[x]? = some (some s')) (ux : σ[x]? = some (some u)) (vr : σ[r]? = some (some v)) (hr : r < e.length) (ho : Hole K F1 H1 v u s put fo fr) (st : StepS F1 H1 fp1 F' H' fp') (d1 : ∀ b ∈ fr, b ∉ fp1) :
    ∃ fp'', Sat K F' H' σ ((e.set x none).set r (some (put s'))) fp'' ∧ (∀ b ∈ fp'', b ∈ fp' ∨ b ∈ fr) ∧ ∀ b ∈ fr, b ∉ fp' := by
  have d2 : ∀ b ∈ fr, b ∉ fp' := fun b hb z => by
    rcases st.sub b z with q | q
    · exact d1 b hb q
    · obtain ⟨o, eo⟩ := ho.thr b hb
      rw [q] at eo; cases eo
  obtain ⟨u', fn, fre, e1, e2, e3, e4, e5, e6, e7⟩ := sat.take hx
  rw [ux] at e1
  cases e1
  obtain ⟨f2, k1, k2, k3⟩ := ho.back F' H' fp1 fp' s' fn st d1 e2 e3 fun b hb z => d2 b z (e6 b hb)
  have hr' : r < (e.set x none).length := by rw [List.length_set]; exact hr
  obtain ⟨fp4, sat4, sub4⟩ := e4.put hr' k1 k2 fun b hb z => by
    rcases k3 b hb with q | q
    · exact e7 b q z
    · exact d2 b q (e5 b z)
  rw [set_self vr] at sat4
  refine ⟨fp4, sat4, fun b hb => ?_, d2⟩
  rcases sub4 b hb with q | q
  · exact (k3 b q).imp (e6 b) id
  · exact .inl (e5 b q)
end
def offB (S : Nat → Bool) (r x : Nat) (j : Nat) : Bool := S j && (j != r && j != x)
def fixB1 (r x : Nat) (put : Ow → Ow) (e : Ev) (k : Ev → SR) : SR := match e[x]? with
  | some (some s') => if r < e.length then k ((e.set x none).set r (some (put s'))) else .no
  | _ => .no
def fixB (r x : Nat) (put : Ow → Ow) : SR → SR
  | .no => .no
  | .nx e => fixB1 r x put e .nx
  | .bk e => fixB1 r x put e .bk
  | .ct e => fixB1 r x put e .ct
  | .rt q e => fixB1 r x put e (.rt q)
  | .ex c e => fixB1 r x put e (.ex c)
section
variable {X : Cx} {W : WX} {S : Nat → Bool} {r x : Nat}
theorem fixB1_some {put : Ow → Ow} {e : Ev} {k : Ev → SR} {P : SR → Prop} (hn : ¬ P .no) (h : P (fixB1 r x put e k)) : ∃ s', e[x]? = some (some s') ∧ r < e.length ∧ P (k ((e.set x none).set r (some (put s')))) := by
  unfold fixB1 at h
  split at h
  · rename_i s' hs
    split at h
    · exact ⟨s', hs, ‹_›, h⟩
    · exact absurd h hn
  · exact absurd h hn
theorem offB_sub {σ σ' : L2.St} (h : OffS (offB S r x) σ σ') : OffS S σ σ' := fun j hj => h j (by simp [offB, hj])
theorem fixB_post {σ σ1 : L2.St} {F H F1 H1 : Hp} {fp fp1 fo fr : List Addr} {v u : V} {s : Ow} {put : Ow → Ow} {D : Ends} {R0 : SR} (h : PostS X W S σ F H fp D (fixB r x put R0)) (x1 : Ext F H F1 H1) (sub : ∀ b ∈ fp1, b ∈ fp) (off : OffS S σ σ1)
    (ho : Hole X.KK F1 H1 v u s put fo fr) (d1 : ∀ b ∈ fr, b ∉ fp1) (frp : ∀ b ∈ fr, b ∈ fp) (vr : σ1[r]? = some (some v)) (ux : σ1[x]? = some (some u)) : PostS X W (offB S r x) σ1 F1 H1 fp1 D R0 := by
  have key : ∀ {σ' : L2.St} {F' H' : Hp} {fp' : List Addr} {e : Ev} {s' : Ow}, OffS (offB S r x) σ1 σ' → StepS F1 H1 fp1 F' H' fp' → Sat X.KK F' H' σ' e fp' → e[x]? = some (some s') → r < e.length →
      ∃ fp'', Sat X.KK F' H' σ' ((e.set x none).set r (some (put s'))) fp'' ∧ OffS S σ σ' ∧ StepS F H fp F' H' fp'' ∧ (∀ b ∈ fp'', b ∈ fp' ∨ b ∈ fr) := fun o st sat hx hr => by
    have ux' : _ := (o x (by simp [offB])).trans ux
    have vr' : _ := (o r (by simp [offB])).trans vr
    obtain ⟨fp'', k1, k2, k3⟩ := put_back sat hx ux' vr' hr ho st d1
    exact ⟨fp'', k1, off.trans (offB_sub o), step_comp x1 sub st fun b hb => (k2 b hb).imp id (frp b), k2⟩
  cases R0 with
  | no => exact h
  | nx e =>
    obtain ⟨s', hx, hr, h'⟩ := fixB1_some (P := fun q => PostS X W S σ F H fp D q) (fun z => z) h
    intro σ' F' H' fp' o st sat
    obtain ⟨fp'', k1, k2, k3, _⟩ := key o st sat hx hr
    exact h' σ' F' H' fp'' k2 k3 k1
  | bk e =>
    obtain ⟨s', hx, hr, h'⟩ := fixB1_some (P := fun q => PostS X W S σ F H fp D q) (fun z => z) h
    intro σ' F' H' fp' o st sat
    obtain ⟨fp'', k1, k2, k3, _⟩ := key o st sat hx hr
    exact h' σ' F' H' fp'' k2 k3 k1
  | ct e =>
    obtain ⟨s', hx, hr, h'⟩ := fixB1_some (P := fun q => PostS X W S σ F H fp D q) (fun z => z) h
    intro σ' F' H' fp' o st sat
    obtain ⟨fp'', k1, k2, k3, _⟩ := key o st sat hx hr
    exact h' σ' F' H' fp'' k2 k3 k1
  | ex c e =>
    obtain ⟨s', hx, hr, h'⟩ := fixB1_some (P := fun q => PostS X W S σ F H fp D q) (fun z => z) h
    intro C σ' F' H' fp' m o st sat
    obtain ⟨fp'', k1, k2, k3, _⟩ := key o st sat hx hr
    exact h' C σ' F' H' fp'' m k2 k3 k1
  | rt q e =>
    obtain ⟨s', hx, hr, h'⟩ := fixB1_some (P := fun q => PostS X W S σ F H fp D q) (fun z => z) h
    intro v' σ' F' H' fx fp' o st sat ow nd
    obtain ⟨n1, n2, n3⟩ := List.nodup_append.mp nd
    have st2 : StepS F1 H1 fp1 F' H' fp' := st.subset fun b hb => List.mem_append_right _ hb
    obtain ⟨fp'', k1, k2, k3, k4⟩ := key o st2 sat hx hr
    have dx : ∀ b ∈ fx, b ∉ fr := fun b hb z => by
      rcases st.sub b (List.mem_append_left _ hb) with q | q
      · exact d1 b z q
      · obtain ⟨w, e⟩ := ho.thr b z
        rw [q] at e; cases e
    refine h' v' σ' F' H' fx fp'' k2 (step_comp x1 sub st fun b hb => ?_) k1 ow ?_
    · rcases List.mem_append.mp hb with z | z
      · exact .inl (List.mem_append_left _ z)
      · exact (k4 b z).imp (List.mem_append_right _) (frp b)
    · rw [List.nodup_append]
      refine ⟨n1, k1.nd, fun b hb c hc e => ?_⟩
      subst e
      rcases k4 b hc with z | z
      · exact n3 b hb b z rfl
      · exact dx b hb z
end
def sBor (r x : Nat) (p : Ev → R Hl) (gs : Ev → SR) (env : Ev) : SR := match p env with
  | .ok q => if x < env.length ∧ r ≠ x then fixB r x q.2 (gs ((env.set r none).set x (some q.1))) else .no
  | .ex c => .ex c env
  | .no => .no
section
variable {X : Cx} {W : WX} {S : Nat → Bool} {e a b : Expr} {pos cpos apos npos tpos : Pos} {y : Str} {rest : List Stmt}
theorem dss_bor {p : Ev → R Hl} {gs : Ev → SR} {pos' : Pos} (r x : Nat) (hN : X.N.Nodup) (he : DHp X W r e p) (hb : DSs X W (offB S r x) rest gs) (hi : X.N[x]? = some y := by rfl) (hx : Loc X.env.scope y := by first | exact Or.inl rfl | exact Or.inr rfl)
    (hs : swapsWith e (some (.Name y pos')) pos.line X.env = pure false := by rfl) (hf : X.fn y = true ∨ X.env.scope.names.lookup y = some .local := by first | exact .inl rfl | exact .inr rfl | assumption) (hS : S x = true := by rfl) : DSs X W S (.Assign [.Name y pos'] e pos :: rest) (sBor r x p gs) := by
  obtain ⟨t, pe, s⟩ := he
  obtain ⟨t2, p2, s2⟩ := hb
  refine ⟨_, pss_cons (ps_set hN hi hx pe hs hf) p2, fun F H σ env fp D sat h => ?_⟩
  refine s F H σ env fp _ sat ?_
  unfold sBor at h
  cases ep : p env with
  | no => rw [ep] at h; exact h
  | ex c => rw [ep] at h; exact fun C F' H' m x => h C σ F' H' fp m (.refl _ _) (StepS.of_ext x fp) (sat.ext x)
  | ok q =>
    rw [ep] at h
    simp only at h
    split at h
    case isFalse => exact h.elim
    rename_i c
    intro v u F1 H1 fo fr fe x1 vr hl sat1 ho in1 in2
    have hl2 : x < (env.set r none).length := by rw [List.length_set]; exact c.1
    obtain ⟨fp1, sat2, sub2⟩ := sat1.put hl2 ho.own ho.ndo fun b hb z => (in1 b (List.mem_append_left _ hb)).2 z
    have lσ : σ.length = env.length := sat.en.len
    refine s2 F1 H1 _ _ fp1 D sat2 (fixB_post h x1 (fun b hb => ?_) (.set hS _) ho (fun b hb z => ?_) (fun b hb => (in1 b (List.mem_append_right _ hb)).1) ?_ ?_)
    · rcases sub2 b hb with z | z
      · exact (in1 b (List.mem_append_left _ z)).1
      · exact in2 b z
    · rcases sub2 b z with q | q
      · exact ho.dis b q hb
      · exact (in1 b (List.mem_append_right _ hb)).2 q
    · rw [List.getElem?_set_ne (Ne.symm c.2)]; exact vr
    · rw [List.getElem?_set_self (by omega)]
end
end Mir
end
set_option Elab.async false
set_option linter.all false
set_option maxRecDepth 100000
set_option maxHeartbeats 4000000
noncomputable section
namespace Mir
open PySem PySem.Spec PyProof.Rows L2
def finB (r : Nat) (put : Ow → Ow) (os : List Ow) (e : Ev) : Ev := e.set r (some (put (.l os)))
section
variable {X : Cx} {W : WX} {S : Nat → Bool} {r x : Nat}
/-- the loop's state ahead of turn k -/
structure LoopB (X : Cx) (W : WX) (S : Nat → Bool) (r : Nat) (v u : V) (put : Ow → Ow) (D : Ends) (go : List Ow → Ev → SR) (σ : L2.St) (F H : Hp) (env : Ev) (fp : List Addr) (os : List Ow) (fo fr : List Addr) : Prop where
  sat : Sat X.KK F H σ env fp
  len : r < env.length
  vr : σ[r]? = some (some v)
  ho : Hole X.KK F H v u (.l os) put fo fr
  dj : ∀ b ∈ fo ++ fr, b ∉ fp
  po : PostS X W S σ F H (fp ++ (fo ++ fr)) D (go os env)
theorem LoopB.fin {v u : V} {put : Ow → Ow} {σ : L2.St} {F H : Hp} {env : Ev} {fp : List Addr} {os : List Ow} {fo fr : List Addr} (sat : Sat X.KK F H σ env fp) (len : r < env.length) (vr : σ[r]? = some (some v)) (ho : Hole X.KK F H v u (.l os) put fo fr) (dj : ∀ b ∈ fo ++ fr, b ∉ fp) :
    ∃ fp4, Sat X.KK F H σ (finB r put os env) fp4 ∧ ∀ b ∈ fp4, b ∈ fp ∨ b ∈ fo ++ fr := by
  obtain ⟨f2, k1, k2, k3⟩ := ho.back F H [] [] _ fo (StepS.of_ext (.refl sat.fh) []) (fun _ _ z => nomatch z) ho.own ho.ndo ho.dis
  have in2 : ∀ b ∈ f2, b ∈ fo ++ fr := fun b hb => List.mem_append.mpr (k3 b hb)
  obtain ⟨fp4, sat4, sub4⟩ := sat.put len k1 k2 fun b hb => dj b (in2 b hb)
  rw [set_self vr] at sat4
  exact ⟨fp4, sat4, fun b hb => (sub4 b hb).elim (fun z => .inr (in2 b z)) .inl⟩
theorem LoopB.done {v u : V} {put : Ow → Ow} {D : Ends} {σ : L2.St} {F H : Hp} {env : Ev} {fp : List Addr} {os : List Ow} {fo fr : List Addr} (L : LoopB X W S r v u put D (fun os e => .nx (finB r put os e)) σ F H env fp os fo fr) : D.nx σ H := by
  obtain ⟨sat, len, vr, ho, dj, po⟩ := L
  obtain ⟨fp4, k1, k2⟩ := LoopB.fin sat len vr ho dj
  exact po σ F H fp4 (.refl _ _) ((StepS.of_ext (.refl sat.fh) _).subset fun b hb => List.mem_append.mpr (k2 b hb)) k1
variable {e a b : Expr} {pos cpos apos npos tpos : Pos} {y : Str} {fs : Ev → SR}
end
end Mir
end
set_option Elab.async false
set_option linter.all false
set_option maxRecDepth 100000
set_option maxHeartbeats 4000000
noncomputable section
namespace Mir
open PySem PySem.Spec PySem.Calls PyProof.Rows L2
section
variable {X : Cx} {W : WX} {e : Expr} {p pos : Pos}
def gSortKD : D → Option Ow
  | .dict ps => if (keysOk ps && sortOk (ps.map (·.1))) = true then some (.l ((sortedD (ps.map (·.1))).map Ow.d)) else none
  | _ => none
end
@[simp] theorem gSortKD_dict (ps : List (D × D)) : gSortKD (.dict ps) = if (keysOk ps && sortOk (ps.map (·.1))) = true then some (.l ((sortedD (ps.map (·.1))).map Ow.d)) else none := rfl
end Mir
end
set_option Elab.async false
set_option linter.all false
set_option maxRecDepth 100000
set_option maxHeartbeats 4000000
noncomputable section
namespace Mir
open PySem PySem.Spec L2
section
variable {K : Kw} {F0 : Hp} {a b c : Addr} {vs ws us : List V} {ds es fs : List D}
end
section
variable {X : Cx} {W : WX} {tg e e2 e3 : Expr} {pos p : Pos} {fa : Ev → R (List D)}
end
end Mir
end
set_option Elab.async false
set_option linter.all false
set_option maxRecDepth 100000
set_option maxHeartbeats 4000000
noncomputable section
namespace Mir
open PySem PySem.Spec L2
section
variable {X : Cx} {W : WX} {e a b : Expr} {es : List Expr} {pos p : Pos} {x : Str}
def yNilA (env : Ev) : RY (List D) := .ok [] env
def yConsA (f : Ev → RY D) (g : Ev → RY (List D)) (env : Ev) : RY (List D) := (f env).bind fun d env1 => (g env1).bind fun ds env2 => .ok (d :: ds) env2
def guardY (c : Prop) [Decidable c] {α : Type} (r : RY α) : RY α := if c then r else .no
def yTup (f : Ev → RY (List D)) (env : Ev) : RY D := (f env).bind fun ds env1 => guardY (ds.length ≤ sizeLine) (.ok (.tuple ds) env1)
@[simp] theorem yNilA_eq (env : Ev) : yNilA env = .ok [] env := rfl
@[simp] theorem yConsA_eq (f : Ev → RY D) (g : Ev → RY (List D)) (env : Ev) : yConsA f g env = (f env).bind fun d env1 => (g env1).bind fun ds env2 => .ok (d :: ds) env2 := rfl
@[simp] theorem yTup_eq (f : Ev → RY (List D)) (env : Ev) : yTup f env = (f env).bind fun ds env1 => guardY (ds.length ≤ sizeLine) (.ok (.tuple ds) env1) := rfl
end
end Mir
end
set_option Elab.async false
set_option linter.all false
set_option maxRecDepth 100000
set_option maxHeartbeats 4000000
noncomputable section
namespace Mir
open PySem PySem.Spec L2
end Mir
end
set_option Elab.async false
set_option linter.all false
set_option maxRecDepth 100000
set_option maxHeartbeats 4000000
noncomputable section
namespace Mir
open PySem PySem.Spec L2
def subS (x z : Str) : Bool := !(PySem.Builtin.Str.occurrences z x 0 z.length 1).isEmpty
def gSubB (neg : Bool) : D → D → Option D
  | .str x, .str z => some (.bool (xor neg (subS x z)))
  | _, _ => none
def gSubIn := gSubB false
def gSubNotIn := gSubB true
@[simp] theorem gSubIn_str (x z : Str) : gSubIn (.str x) (.str z) = some (.bool (subS x z)) := by
  show some (PyData.bool (xor false (subS x z))) = _
  simp
@[simp] theorem gSubNotIn_str (x z : Str) : gSubNotIn (.str x) (.str z) = some (.bool (!subS x z)) := by
  show some (PyData.bool (xor true (subS x z))) = _
  simp
section
variable {X : Cx} {W : WX} {a b : Expr} {pos : Pos} {f g : Ev → R D}
theorem opS_subNotIn {K : Kw} : OpS K (fun x y H Q => ∃ i j, x = .str i ∧ y = .str j ∧ Q (.bl (!(!(PySem.Builtin.Str.occurrences j i 0 j.length 1).isEmpty))) H) gSubNotIn := by
  intro H x y dx dy d Q hx hy e q
  unfold gSubNotIn gSubB at e
  split at e
  · cases e
    cases dp_str hx
    cases dp_str hy
    exact ⟨_, _, rfl, rfl, by simpa [subS] using q _ fun F => .bl _⟩
  · cases e
theorem dt_subNotIn (ha : DV X W a f) (hb : DV X W b g) (hm : behindInMarks .NotIn b = false := by first | exact nomark _ | rfl) : DT X W (.Compare a [.NotIn] [b] pos) (eB (eBin gSubNotIn f g) asB) := dt_cmp op_notin_str opS_subNotIn ha hb hm
end
end Mir
end
set_option Elab.async false
set_option linter.all false
set_option maxRecDepth 100000
set_option maxHeartbeats 4000000
namespace Mir
open PySem PySem.Spec L2

inductive Tr where
  | mk (nm : Str) (mk : Int) (bs : List Tr)
mutual
def encT : Tr → D
  | .mk nm k bs => .tuple [.str nm, .int k, .tuple (encTs bs)]
def encTs : List Tr → List D
  | [] => []
  | b :: bs => encT b :: encTs bs
end
mutual
def sizeT : Tr → Nat
  | .mk _ _ bs => 1 + sizeTs bs
def sizeTs : List Tr → Nat
  | [] => 0
  | b :: bs => sizeT b + sizeTs bs
end
mutual
def levT : Tr → Nat
  | .mk _ _ bs => levTs bs + 1
def levTs : List Tr → Nat
  | [] => 0
  | b :: bs => max (levT b) (levTs bs)
end

structure TRow where
  nm : Str
  mar : Int
  up : Nat
theorem rangeD_at {lo : Int} {n i : Nat} {d : D} (h : (rangeD lo n)[i]? = some d) : i < n ∧ d = .int (lo + (i : Nat)) := by
  have hl : i < n := by have := (List.getElem?_eq_some_iff.mp h).1; simpa [rangeD] using this
  refine ⟨hl, ?_⟩
  unfold rangeD at h
  rw [List.getElem?_map, List.getElem?_range hl] at h
  exact (Option.some.inj h).symm
end Mir
set_option Elab.async false
set_option linter.all false
set_option maxRecDepth 100000
set_option maxHeartbeats 4000000
namespace Mir
open PySem PySem.Spec L2

def kf (rs : List TRow) : Nat → Nat → List Nat
  | 0, _ => []
  | s + 1, j => if (rs[rs.length - 1 - s]?).map TRow.up = some j then (rs.length - 1 - s) :: kf rs s j else kf rs s j
def kids (rs : List TRow) (j : Nat) : List Nat := kf rs (rs.length - 1) j
abbrev zs (p : List Nat) : List Int := p.map fun k : Nat => (k : Int)

end Mir
set_option Elab.async false
set_option linter.all false
set_option maxRecDepth 100000
set_option maxHeartbeats 4000000
namespace Mir
open PySem PySem.Spec L2

theorem viewAll_of {α : Type} (f : α → D) (xs : List α) : viewAll (xs.map fun x => Ow.d (f x)) = xs.map f := by
  rw [viewAll_map, List.map_map]
  rfl
theorem viewD_of {α : Type} (f : α → D) (xs : List α) : viewD (.l (xs.map fun x => Ow.d (f x))) = .list (xs.map f) := by
  rw [viewD_l, viewAll_of]
theorem str_len (z : Str) : z.length = z.cps.toList.length := by first | rfl | simp [Str.length]
theorem gDiv_small {i j : Int} (h1 : 0 < j) (h2 : j.natAbs < 2 ^ 250) : gDiv (.int i) (.int j) = some (.int (i / j)) := by
  refine gDiv_int ⟨h1, ?_⟩
  have := (Nat.log2_lt (n := j.natAbs) (k := 250) (by omega)).mpr h2
  omega
theorem gPow10 (k : Nat) (h : k ≤ 1000) : gPow (.int 10) (.int k) = some (.int (10 ^ k)) := by
  rw [gPow_int ⟨by omega, by omega, by decide⟩]
  simp
theorem cutL_take {α : Type} (xs : List α) (k : Nat) : cutL xs none (some (k : Int)) = xs.take k := by
  unfold cutL
  rw [HT.sIx_none, HT.sIx_nat, List.drop_zero, Nat.sub_zero]
  by_cases h : k ≤ xs.length
  · rw [Nat.min_eq_left h]
  · rw [Nat.min_eq_right (by omega), List.take_of_length_le (Nat.le_refl _), List.take_of_length_le (by omega)]
theorem cutL_drop {α : Type} (xs : List α) (k : Nat) : cutL xs (some (k : Int)) none = xs.drop k := by
  unfold cutL
  rw [HT.sIx_none, HT.sIx_nat]
  by_cases h : k ≤ xs.length
  · rw [Nat.min_eq_left h, List.take_of_length_le (by rw [List.length_drop]; exact Nat.le_refl _)]
  · rw [Nat.min_eq_right (by omega), List.drop_of_length_le (by omega), List.drop_of_length_le (by omega)]
    simp
theorem canAll_of : ∀ ds : List D, (∀ d ∈ ds, d.canLay0 = true) → PyData.canLayAll0 ds = true
  | [], _ => by simp [PyData.canLayAll0]
  | d :: ds, h => by
    rw [PyData.canLayAll0, h d List.mem_cons_self, canAll_of ds fun d hd => h d (List.mem_cons_of_mem _ hd)]
    rfl
theorem depthAll_of {n : Nat} : ∀ ds : List D, (∀ d ∈ ds, d.depth ≤ n) → PyData.depthAll ds ≤ n
  | [], _ => by simp [PyData.depthAll]
  | d :: ds, h => by
    rw [PyData.depthAll]
    have := h d List.mem_cons_self
    have := depthAll_of ds fun d hd => h d (List.mem_cons_of_mem _ hd)
    omega
/-- data that == can be asked of -/
def Nice (d : D) : Prop := d.canLay0 = true ∧ d.depth ≤ 130
theorem gEq_nice {d e : D} (h : Nice d) (g : Nice e) : gEq d e = some (.bool (PyData.eqv d e)) := by
  have z : eqOk d e = true := by unfold eqOk; simp [h.1, h.2, g.1]
  unfold gEq; rw [if_pos (by rw [z, Bool.or_true])]
theorem gNe_nice {d e : D} (h : Nice d) (g : Nice e) : gNe d e = some (.bool (!PyData.eqv d e)) := by
  have z : eqOk d e = true := by unfold eqOk; simp [h.1, h.2, g.1]
  unfold gNe; rw [if_pos (by rw [z, Bool.or_true])]
theorem eqv_self {d : D} (h : Nice d) : PyData.eqv d d = true := SeqAt.eqv_refl d h.1
theorem gNe_self {d : D} (h : Nice d) : gNe d d = some (.bool false) := by rw [gNe_nice h h, eqv_self h]; rfl
mutual
def okT : Tr → Prop
  | .mk nm _ bs => PyData.strOk nm = true ∧ bs.length ≤ 1000 ∧ okTs bs
def okTs : List Tr → Prop
  | [] => True
  | b :: bs => okT b ∧ okTs bs
end
abbrev abc : Str := "abcdefghijklmnopqrstuvwxyz"
end Mir
set_option Elab.async false
set_option linter.all false
set_option maxRecDepth 100000
set_option maxHeartbeats 4000000
namespace Mir
open PySem PySem.Spec L2

def tx (l : List Nat) : Str := ⟨l.toArray⟩
@[simp] theorem tx_cps (l : List Nat) : (tx l).cps.toList = l := by simp [tx]
@[simp] theorem tx_len (l : List Nat) : (tx l).length = l.length := by rw [str_len, tx_cps]
theorem tx_of (z : Str) : z = tx z.cps.toList := by
  cases z with
  | mk a => simp [tx]
theorem tx_app (a b : List Nat) : tx a ++ tx b = tx (a ++ b) := by
  show (⟨(tx a).cps ++ (tx b).cps⟩ : Str) = _
  simp [tx]
theorem tx_inj {a b : List Nat} (h : tx a = tx b) : a = b := by
  have := congrArg (fun z : Str => z.cps.toList) h
  simpa using this
theorem gLen_tx (l : List Nat) (h : l.length ≤ 16777216) : gLen [.str (tx l)] = some (.d (.int l.length)) := by
  show (if (tx l).length ≤ sizeLine then some (Ow.d (.int (tx l).length)) else none) = _
  rw [tx_len, if_pos (by rw [sizeLine_eq]; exact h)]
theorem gIx_tx {l : List Nat} {i c : Nat} (h : l[i]? = some c) (hl : l.length ≤ 16777216) : gIx (.str (tx l)) (.int (i : Nat)) = some (.str (tx [c])) := by
  show (if (tx l).length ≤ sizeLine then (atI (tx l).cps.toList (i : Int)).map fun c => PyData.str ⟨#[c]⟩ else none) = _
  rw [tx_len, tx_cps, if_pos (by rw [sizeLine_eq]; exact hl), atI_natD h]
  rfl
theorem atI_last {α : Type} {xs : List α} {x : α} : atI (xs ++ [x]) (-1) = some x := by
  unfold atI ixN
  rw [if_neg (by decide)]
  have : -((xs ++ [x]).length : Int) ≤ -1 := by rw [List.length_append, List.length_singleton]; omega
  rw [if_pos this]
  have e : (-1 + ((xs ++ [x]).length : Int)).toNat = xs.length := by rw [List.length_append, List.length_singleton]; omega
  show (xs ++ [x])[(-1 + ((xs ++ [x]).length : Int)).toNat]? = _
  rw [e, List.getElem?_append_right (Nat.le_refl _)]
  simp
def inS (c : Nat) (z : Str) : Bool := decide (c ∈ z.cps.toList)
theorem gIn_tx (c : Nat) (z : Str) : gIn (.str (tx [c])) (.str z) = some (.bool (inS c z)) := gIn_sign c z
theorem gEq_tx (a b : List Nat) : gEq (.str (tx a)) (.str (tx b)) = some (.bool (decide (a = b))) := by
  have : PyData.eqv (.str (tx a)) (.str (tx b)) = decide (a = b) := by
    show (tx a == tx b) = _
    by_cases h : a = b
    · subst h; simp
    · rw [decide_eq_false h]
      exact beq_eq_false_iff_ne.mpr fun e => h (tx_inj e)
  show some (PyData.bool (PyData.eqv (.str (tx a)) (.str (tx b)))) = _
  rw [this]
theorem gSl_tx {l : List Nat} {i j : Nat} (h : j ≤ l.length) (hi : i ≤ j) (hl : l.length ≤ 16777216) : gSl (.str (tx l)) (some (i : Int)) (some (j : Int)) = some (.d (.str (tx ((l.drop i).take (j - i))))) := by
  show (if (tx l).length ≤ sizeLine then some (Ow.d (.str (cutS (tx l) (some (i : Int)) (some (j : Int))))) else none) = _
  rw [tx_len, if_pos (by rw [sizeLine_eq]; exact hl)]
  unfold cutS
  rw [tx_len, tx_cps, HT.sIx_nat, HT.sIx_nat, Nat.min_eq_left h, Nat.min_eq_left (by omega)]
  rfl
theorem gSl_to {l : List Nat} {k : Nat} (hl : l.length ≤ 16777216) : gSl (.str (tx l)) none (some (k : Int)) = some (.d (.str (tx (l.take k)))) := by
  show (if (tx l).length ≤ sizeLine then some (Ow.d (.str (cutS (tx l) none (some (k : Int))))) else none) = _
  rw [tx_len, if_pos (by rw [sizeLine_eq]; exact hl)]
  unfold cutS
  rw [tx_len, tx_cps, HT.sIx_nat, HT.sIx_none, List.drop_zero, Nat.sub_zero]
  by_cases h : k ≤ l.length
  · rw [Nat.min_eq_left h]; rfl
  · rw [Nat.min_eq_right (by omega), List.take_of_length_le (Nat.le_refl _), List.take_of_length_le (by omega)]; rfl
theorem gAdd_tx {a b : List Nat} (h : a.length + b.length ≤ 16777216) : gAdd (.str (tx a)) (.str (tx b)) = some (.d (.str (tx (a ++ b)))) := by
  rw [gAdd_str (by rw [tx_len, tx_len, sizeLine_eq]; exact h), tx_app]
def isL (c : Nat) : Bool := decide (97 ≤ c) && decide (c ≤ 122)
def isF (c : Nat) : Bool := decide (48 ≤ c) && decide (c ≤ 57)
def sigs : List Nat := [40, 41, 59, 58, 61, 124, 42]
theorem abc_is : abc.cps.toList = (List.range 26).map (fun k => 97 + k) := by decide +kernel
theorem mem_abc (c : Nat) : decide (c ∈ abc.cps.toList) = isL c := by
  rw [abc_is]
  unfold isL
  by_cases h : 97 ≤ c ∧ c ≤ 122
  · rw [decide_eq_true (List.mem_map.mpr ⟨c - 97, List.mem_range.mpr (by omega), by omega⟩)]
    simp [h]
  · rw [decide_eq_false fun z => ?_]
    · by_cases h1 : 97 ≤ c
      · have : ¬ c ≤ 122 := fun q => h ⟨h1, q⟩
        simp [h1, this]
      · simp [h1]
    · obtain ⟨k, hk, e⟩ := List.mem_map.mp z
      rw [List.mem_range] at hk
      exact h ⟨by omega, by omega⟩
abbrev figs : Str := "0123456789"
theorem figs_is : figs.cps.toList = (List.range 10).map (fun k => 48 + k) := by decide +kernel
theorem mem_figs (c : Nat) : decide (c ∈ figs.cps.toList) = isF c := by
  rw [figs_is]
  unfold isF
  by_cases h : 48 ≤ c ∧ c ≤ 57
  · rw [decide_eq_true (List.mem_map.mpr ⟨c - 48, List.mem_range.mpr (by omega), by omega⟩)]
    simp [h]
  · rw [decide_eq_false fun z => ?_]
    · by_cases h1 : 48 ≤ c
      · have : ¬ c ≤ 57 := fun q => h ⟨h1, q⟩
        simp [h1, this]
      · simp [h1]
    · obtain ⟨k, hk, e⟩ := List.mem_map.mp z
      rw [List.mem_range] at hk
      exact h ⟨by omega, by omega⟩
theorem sigs_is : (Str.ofString "();:=|*").cps.toList = sigs := by decide +kernel
theorem sp_is : (Str.ofString " ") = tx [32] := by rw [tx_of (Str.ofString " ")]; congr 1
theorem minus_is : (Str.ofString "-") = tx [45] := by rw [tx_of (Str.ofString "-")]; congr 1
theorem nought_is : (Str.ofString "0") = tx [48] := by rw [tx_of (Str.ofString "0")]; congr 1
theorem empty_is : (Str.ofString "") = tx [] := by rw [tx_of (Str.ofString "")]; congr 1

theorem inS_abc (c : Nat) : inS c abc = isL c := mem_abc c
theorem inS_figs (c : Nat) : inS c figs = isF c := mem_figs c
theorem inS_sigs (c : Nat) : inS c (Str.ofString "();:=|*") = decide (c ∈ sigs) := by unfold inS; rw [sigs_is]
end Mir
set_option Elab.async false
set_option linter.all false
set_option maxRecDepth 100000
set_option maxHeartbeats 4000000
namespace Mir
open PySem PySem.Spec L2
theorem abc_ix {k : Nat} (hk : k < 26) : gIx (.str abc) (.int (k : Int)) = some (.str (tx [97 + k])) := by
  rw [tx_of abc, abc_is]
  refine gIx_tx ?_ (by simp)
  rw [List.getElem?_map, List.getElem?_range hk]
  rfl
theorem strOk_tx {l : List Nat} (h : ∀ c ∈ l, c < 1000) : PyData.strOk (tx l) = true := by
  unfold PyData.strOk
  simp only [tx, List.all_toArray, List.all_eq_true, decide_eq_true_eq]
  intro c hc
  have := h c hc
  omega
theorem isL_small {c : Nat} (h : isL c = true) : c < 1000 := by
  unfold isL at h
  simp only [Bool.and_eq_true, decide_eq_true_eq] at h
  omega
end Mir
set_option Elab.async false
set_option linter.all false
set_option maxRecDepth 100000
set_option maxHeartbeats 4000000
namespace Mir
open PySem PySem.Spec L2

inductive Trm where
  | call (m b : Int)
  | put (nm : Str) (kp : Bool) (ad : Int) (ps : List Trm)
mutual
def encM : Trm → D
  | .call m b => .tuple [.str "call", .int m, .int b]
  | .put nm kp ad ps => .tuple [.str "put", .str nm, .bool kp, .int ad, .tuple (encMs ps)]
def encMs : List Trm → List D
  | [] => []
  | p :: ps => encM p :: encMs ps
end
mutual
def sizeM : Trm → Nat
  | .call _ _ => 1
  | .put _ _ _ ps => 1 + sizeMs ps
def sizeMs : List Trm → Nat
  | [] => 0
  | p :: ps => sizeM p + sizeMs ps
end
mutual
def levM : Trm → Nat
  | .call _ _ => 1
  | .put _ _ _ ps => levMs ps + 1
def levMs : List Trm → Nat
  | [] => 0
  | p :: ps => max (levM p) (levMs ps)
end
mutual
def callsM : Trm → List (Int × Int)
  | .call m b => [(m, b)]
  | .put _ _ _ ps => callsMs ps
def callsMs : List Trm → List (Int × Int)
  | [] => []
  | p :: ps => callsM p ++ callsMs ps
end
mutual
def okM : Trm → Prop
  | .call _ _ => True
  | .put nm _ _ ps => PyData.strOk nm = true ∧ ps.length ≤ 1000 ∧ okMs ps
def okMs : List Trm → Prop
  | [] => True
  | p :: ps => okM p ∧ okMs ps
end
theorem str_eqv (a b : Str) : PyData.eqv (.str a) (.str b) = (a == b) := rfl
theorem gEq_strs (a b : String) : gEq (.str (Str.ofString a)) (.str (Str.ofString b)) = some (.bool (PyData.eqv (.str (Str.ofString a)) (.str (Str.ofString b)))) := rfl
@[simp] theorem gEq_cc : gEq (.str (Str.ofString "call")) (.str (Str.ofString "call")) = some (.bool true) := by
  have h : (Str.ofString "call" == Str.ofString "call") = true := by decide +kernel
  rw [gEq_strs, str_eqv, h]
@[simp] theorem gEq_pc : gEq (.str (Str.ofString "put")) (.str (Str.ofString "call")) = some (.bool false) := by
  have h : (Str.ofString "put" == Str.ofString "call") = false := by decide +kernel
  rw [gEq_strs, str_eqv, h]
@[simp] theorem gEq_cp : gEq (.str (Str.ofString "call")) (.str (Str.ofString "put")) = some (.bool false) := by
  have h : (Str.ofString "call" == Str.ofString "put") = false := by decide +kernel
  rw [gEq_strs, str_eqv, h]
@[simp] theorem gEq_pp : gEq (.str (Str.ofString "put")) (.str (Str.ofString "put")) = some (.bool true) := by
  have h : (Str.ofString "put" == Str.ofString "put") = true := by decide +kernel
  rw [gEq_strs, str_eqv, h]
theorem lcR_map {α : Type} {g : D → Ev → Option Ev} {c : Ev → R Bool} {e : Ev → R Ow} {env : Ev} (enc : α → D) (out : α → Ow) : ∀ xs : List α, (∀ a ∈ xs, ∃ env1, g (enc a) env = some env1 ∧ c env1 = .ok true ∧ e env1 = .ok (out a)) → lcR g c e env (xs.map enc) = .ok (xs.map out)
  | [], _ => rfl
  | a :: xs, q => by
    obtain ⟨env1, q1, q2, q3⟩ := q a List.mem_cons_self
    rw [List.map_cons]
    unfold lcR
    rw [q1]
    simp only [q2, q3, noEx_ok, R.bind_ok, if_true]
    rw [lcR_map enc out xs fun d hd => q d (List.mem_cons_of_mem _ hd)]
    rfl
noncomputable section
def encC (c : Int × Int) : D := .tuple [.int c.1, .int c.2]
abbrev encCs (cs : List (Int × Int)) : Ow := .l (cs.map fun c => .d (encC c))
end
end Mir
set_option Elab.async false
set_option linter.all false
set_option maxRecDepth 100000
set_option maxHeartbeats 4000000
namespace Mir
open PySem PySem.Spec L2

def mar : Tr → Int
  | .mk _ k _ => k

end Mir
set_option Elab.async false
set_option linter.all false
set_option maxRecDepth 100000
set_option maxHeartbeats 4000000
namespace Mir
open PySem PySem.Spec L2
/-- a tree laid out: name, mark, blanks ahead of its mark (where it is told), ahead of (, behind it, between, ahead of ) -/
inductive LN where
  | mk (nm : List Nat) (k : Int) (mb : Option Nat) (o i g c : Nat) (bs : List LN)
end Mir
set_option Elab.async false
set_option linter.all false
set_option maxRecDepth 100000
set_option maxHeartbeats 4000000
namespace Mir
open PySem PySem.Spec L2
abbrev Wo := List Nat
open Classical in
noncomputable section
end
end Mir
set_option Elab.async false
set_option linter.all false
set_option maxRecDepth 100000
set_option maxHeartbeats 4000000
namespace Mir
open PySem PySem.Spec L2
def glue (s : List Nat) : List (List Nat) → List Nat
  | [] => []
  | a :: r => a ++ (r.map fun b => s ++ b).flatten
theorem foldl_glue (s : List Nat) : ∀ (r : List (List Nat)) (a : Array Nat), (r.map tx).foldl (fun acc p => acc ++ (tx s).cps ++ p.cps) a = ⟨a.toList ++ (r.map fun b => s ++ b).flatten⟩
  | [], a => by simp
  | b :: r, a => by
    rw [List.map_cons, List.foldl_cons, foldl_glue s r]
    simp [tx]
theorem join_tx (s : List Nat) (l : List (List Nat)) : Txt.join (tx s) (l.map tx) = tx (glue s l) := by
  show Builtin.Str.glued _ _ = _
  rw [PySem.StrLaws.glued_eq_join]
  cases l with
  | nil => rfl
  | cons a r =>
    rw [List.map_cons, ← PySem.StrLaws.glued_cons, foldl_glue]
    simp [glue, tx]
theorem sum_len (l : List (List Nat)) : ((l.map tx).map fun x : Str => x.length).sum = (l.map List.length).sum := by
  rw [List.map_map]
  congr 1
theorem gJoin_tx (s : List Nat) (l : List (List Nat)) (h : (l.map List.length).sum + l.length * s.length ≤ 16777216) : gJoin (.str (tx s)) (.list (l.map fun w => .str (tx w))) = some (.str (tx (glue s l))) := by
  have e : (l.map fun w => PyData.str (tx w)) = (l.map tx).map PyData.str := by rw [List.map_map]; rfl
  rw [e, gJoin_list (by rw [sum_len, List.length_map, tx_len]; exact h), join_tx]
end Mir
set_option Elab.async false
set_option linter.all false
set_option maxRecDepth 100000
set_option maxHeartbeats 4000000
namespace Mir
open PySem PySem.Spec L2

abbrev dkD (dk : List Int) : D := .list (dk.map PyData.int)
/-- what a deck's def tells: r, and the deck behind it -/
abbrev tells (r : D) (dk : List Int) : R Ow := .ok (.d (.tuple [r, dkD dk]))
noncomputable section
/-- a def that draws a number below most -/
def Draws (fd : List D → R Ow) : Prop := ∀ (dk : List Int) (most : Int), 0 < most → ∃ r dk', 0 ≤ r ∧ r < most ∧ fd (dkD dk :: [.int most]) = tells (.int r) dk'
end
end Mir
set_option Elab.async false
set_option linter.all false
set_option maxRecDepth 100000
set_option maxHeartbeats 4000000
namespace Mir
open PySem PySem.Spec L2
noncomputable section
end
end Mir
set_option Elab.async false
set_option linter.all false
set_option maxRecDepth 100000
set_option maxHeartbeats 4000000
namespace Mir
open PySem PySem.Spec L2

inductive Stp where
  | op
  | put (nm : Str) (k : Int) (ps : List Stp)
mutual
def encS : Stp → D
  | .op => .tuple [.str "open"]
  | .put nm k ps => .tuple [.str "put", .str nm, .int k, .tuple (encSs ps)]
def encSs : List Stp → List D
  | [] => []
  | p :: ps => encS p :: encSs ps
end

@[simp] theorem gNe_str (a b : Str) : gNe (.str a) (.str b) = some (.bool (!(a == b))) := rfl
@[simp] theorem gEq_oo : gEq (.str (Str.ofString "open")) (.str (Str.ofString "open")) = some (.bool true) := by
  have h : (Str.ofString "open" == Str.ofString "open") = true := by decide +kernel
  rw [gEq_strs, str_eqv, h]
@[simp] theorem gEq_po : gEq (.str (Str.ofString "put")) (.str (Str.ofString "open")) = some (.bool false) := by
  have h : (Str.ofString "put" == Str.ofString "open") = false := by decide +kernel
  rw [gEq_strs, str_eqv, h]
@[simp] theorem gIsi_str_str (z : Str) : gIsi "str" (.str z) = .ok (.bool true) := rfl
@[simp] theorem gIsi_bool_bool (b : Bool) : gIsi "bool" (.bool b) = .ok (.bool true) := rfl
section
variable (nm : Str) (k : Int) (ps : List Stp) (bs : List Tr)
end
noncomputable section
end
end Mir
set_option Elab.async false
set_option linter.all false
set_option maxRecDepth 100000
set_option maxHeartbeats 4000000
namespace Mir
open PySem PySem.Spec L2
noncomputable section
end
end Mir
set_option Elab.async false
set_option linter.all false
set_option maxRecDepth 100000
set_option maxHeartbeats 4000000
namespace Mir
open PySem PySem.Spec L2
mutual
def met : Stp → Stp → Stp
  | .op, _ => .op
  | .put nm k ps, o => match o with
    | .op => .op
    | .put nm' k' qs => bif (nm == nm') && ((k == k') && (ps.length == qs.length)) then .put nm k (mets ps qs) else .op
def mets : List Stp → List Stp → List Stp
  | [], _ => []
  | p :: ps, qs => match qs with
    | [] => []
    | q :: qs => met p q :: mets ps qs
end
theorem met_op (o : Stp) : met .op o = .op := by rw [met]
theorem met_op2 (s : Stp) : met s .op = .op := by cases s <;> rw [met]
theorem met_put (nm nm' : Str) (k k' : Int) (ps qs : List Stp) : met (.put nm k ps) (.put nm' k' qs) = bif (nm == nm') && ((k == k') && (ps.length == qs.length)) then .put nm k (mets ps qs) else .op := by rw [met]
theorem met_same (nm : Str) (k : Int) {ps qs : List Stp} (h : ps.length = qs.length) : met (.put nm k ps) (.put nm k qs) = .put nm k (mets ps qs) := by
  rw [met_put]
  simp [h]
theorem met_unlike {nm nm' : Str} {k k' : Int} {ps qs : List Stp} (h : ¬ (nm = nm' ∧ k = k' ∧ ps.length = qs.length)) : met (.put nm k ps) (.put nm' k' qs) = .op := by
  rw [met_put]
  have : ((nm == nm') && ((k == k') && (ps.length == qs.length))) = false := by
    rw [Bool.eq_false_iff]
    intro c
    apply h
    simpa using c
  rw [this]
  rfl
theorem mets_nil (qs : List Stp) : mets [] qs = [] := by rw [mets]
theorem mets_nil2 (ps : List Stp) : mets ps [] = [] := by cases ps <;> rw [mets]
theorem mets_cons (p q : Stp) (ps qs : List Stp) : mets (p :: ps) (q :: qs) = met p q :: mets ps qs := by rw [mets]
theorem mets_zip : ∀ ps qs : List Stp, mets ps qs = List.zipWith met ps qs
  | [], qs => by rw [mets_nil]; rfl
  | p :: ps, [] => by rw [mets_nil2]; rfl
  | p :: ps, q :: qs => by rw [mets_cons, mets_zip ps qs]; rfl
theorem mets_len : ∀ ps qs : List Stp, (mets ps qs).length = min ps.length qs.length := fun ps qs => by rw [mets_zip, List.length_zipWith]
mutual
theorem met_comm : ∀ a b : Stp, met a b = met b a
  | .op, b => by rw [met_op, met_op2]
  | .put nm k ps, .op => by rw [met_op, met_op2]
  | .put nm k ps, .put nm' k' qs => by
    by_cases h : nm = nm' ∧ k = k' ∧ ps.length = qs.length
    · obtain ⟨rfl, rfl, h⟩ := h
      rw [met_same _ _ h, met_same _ _ h.symm, mets_comm ps qs]
    · rw [met_unlike h, met_unlike fun c => h ⟨c.1.symm, c.2.1.symm, c.2.2.symm⟩]
theorem mets_comm : ∀ as bs : List Stp, mets as bs = mets bs as
  | [], bs => by rw [mets_nil, mets_nil2]
  | a :: as, [] => by rw [mets_nil, mets_nil2]
  | a :: as, b :: bs => by rw [mets_cons, mets_cons, met_comm a b, mets_comm as bs]
end
mutual
theorem met_self : ∀ a : Stp, met a a = a
  | .op => by rw [met_op]
  | .put nm k ps => by rw [met_same _ _ rfl, mets_self ps]
theorem mets_self : ∀ as : List Stp, mets as as = as
  | [] => by rw [mets_nil]
  | a :: as => by rw [mets_cons, met_self a, mets_self as]
end
mutual
theorem met_assoc : ∀ a b c : Stp, met (met a b) c = met a (met b c)
  | .op, b, c => by rw [met_op, met_op, met_op]
  | .put nm k ps, .op, c => by rw [met_op2, met_op, met_op2]
  | .put nm k ps, .put nm' k' qs, .op => by rw [met_op2, met_op2, met_op2]
  | .put nm k ps, .put nm' k' qs, .put nm'' k'' rs => by
    by_cases h : nm = nm' ∧ k = k' ∧ ps.length = qs.length
    · obtain ⟨rfl, rfl, h⟩ := h
      rw [met_same _ _ h]
      by_cases g : nm = nm'' ∧ k = k'' ∧ qs.length = rs.length
      · obtain ⟨rfl, rfl, g⟩ := g
        rw [met_same _ _ g, met_same _ _ (by rw [mets_len]; omega), met_same _ _ (by rw [mets_len]; omega), mets_assoc ps qs rs]
      · rw [met_unlike (ps := qs) g, met_op2, met_unlike fun c => g ⟨c.1, c.2.1, by have := c.2.2; rw [mets_len] at this; omega⟩]
    · rw [met_unlike h, met_op]
      by_cases g : nm' = nm'' ∧ k' = k'' ∧ qs.length = rs.length
      · obtain ⟨rfl, rfl, g⟩ := g
        rw [met_same _ _ g, met_unlike fun c => h ⟨c.1, c.2.1, by have := c.2.2; rw [mets_len] at this; omega⟩]
      · rw [met_unlike g, met_op2]
theorem mets_assoc : ∀ as bs cs : List Stp, mets (mets as bs) cs = mets as (mets bs cs)
  | [], bs, cs => by rw [mets_nil, mets_nil, mets_nil]
  | a :: as, [], cs => by rw [mets_nil2, mets_nil, mets_nil2]
  | a :: as, b :: bs, [] => by rw [mets_nil2, mets_nil2, mets_nil2]
  | a :: as, b :: bs, c :: cs => by rw [mets_cons, mets_cons, mets_cons, mets_cons, met_assoc a b c, mets_assoc as bs cs]
end
theorem met_met (a b : Stp) : met (met a b) a = met a b := by rw [met_comm (met a b) a, ← met_assoc, met_self]
noncomputable section
end
end Mir
set_option Elab.async false
set_option linter.all false
set_option maxRecDepth 100000
set_option maxHeartbeats 4000000
namespace Mir
open PySem PySem.Spec L2
mutual
def stIn (ss : List Stp) : Trm → Stp
  | .call m _ => ss.getD m.toNat .op
  | .put nm kp ad ps => bif kp then .op else .put nm ad (stIns ss ps)
def stIns (ss : List Stp) : List Trm → List Stp
  | [] => []
  | p :: ps => stIn ss p :: stIns ss ps
end
theorem stIns_map (ss : List Stp) : ∀ ps : List Trm, stIns ss ps = ps.map (stIn ss)
  | [] => by rw [stIns]; rfl
  | p :: ps => by rw [stIns, stIns_map ss ps]; rfl
def metOf : List Stp → Stp
  | [] => .op
  | s :: ss => ss.foldl met s
/-- the one tells no more than the other -/
def leS (a b : Stp) : Prop := met a b = a
theorem leS_refl (a : Stp) : leS a a := met_self a
theorem leS_trans {a b c : Stp} (h : leS a b) (g : leS b c) : leS a c := by
  unfold leS at *
  rw [← h, met_assoc, g]
theorem leS_left (a b : Stp) : leS (met a b) a := met_met a b
theorem leS_right (a b : Stp) : leS (met a b) b := by
  unfold leS
  rw [met_assoc, met_self]
theorem leS_glb {y a b : Stp} (h : leS y a) (g : leS y b) : leS y (met a b) := by
  unfold leS at *
  rw [← met_assoc, h, g]
theorem foldl_le : ∀ (ss : List Stp) (s : Stp), leS (ss.foldl met s) s ∧ ∀ x ∈ ss, leS (ss.foldl met s) x
  | [], s => ⟨leS_refl s, fun x h => by cases h⟩
  | a :: ss, s => by
    rw [List.foldl_cons]
    obtain ⟨h1, h2⟩ := foldl_le ss (met s a)
    refine ⟨leS_trans h1 (leS_left s a), fun x hx => ?_⟩
    rcases List.mem_cons.mp hx with rfl | hx
    · exact leS_trans h1 (leS_right s x)
    · exact h2 x hx
theorem foldl_glb {y : Stp} : ∀ (ss : List Stp) (s : Stp), leS y s → (∀ x ∈ ss, leS y x) → leS y (ss.foldl met s)
  | [], s, h, _ => h
  | a :: ss, s, h, k => by
    rw [List.foldl_cons]
    exact foldl_glb ss (met s a) (leS_glb h (k a List.mem_cons_self)) fun x hx => k x (List.mem_cons_of_mem _ hx)
theorem metOf_le {l : List Stp} {x : Stp} (h : x ∈ l) : leS (metOf l) x := by
  cases l with
  | nil => cases h
  | cons s ss =>
    obtain ⟨h1, h2⟩ := foldl_le ss s
    rcases List.mem_cons.mp h with rfl | h
    · exact h1
    · exact h2 x h
theorem metOf_glb {y : Stp} {l : List Stp} (hl : l ≠ []) (h : ∀ x ∈ l, leS y x) : leS y (metOf l) := by
  cases l with
  | nil => exact absurd rfl hl
  | cons s ss => exact foldl_glb ss s (h s List.mem_cons_self) fun x hx => h x (List.mem_cons_of_mem _ hx)
mutual
def cS : Stp → Nat
  | .op => 0
  | .put _ _ ps => cSs ps + 1
def cSs : List Stp → Nat
  | [] => 0
  | p :: ps => cS p + cSs ps
end
theorem cS_zero {s : Stp} (h : cS s = 0) : s = .op := by
  cases s with
  | op => rfl
  | put nm k ps => rw [cS] at h; omega
mutual
theorem c_met : ∀ a b : Stp, cS (met a b) ≤ cS b ∧ (cS (met a b) = cS b → met a b = b)
  | .op, b => by
    rw [met_op, cS]
    exact ⟨Nat.zero_le _, fun h => (cS_zero h.symm).symm⟩
  | .put nm k ps, .op => by
    rw [met_op2, cS]
    exact ⟨Nat.le_refl _, fun _ => rfl⟩
  | .put nm k ps, .put nm' k' qs => by
    by_cases h : nm = nm' ∧ k = k' ∧ ps.length = qs.length
    · obtain ⟨rfl, rfl, h⟩ := h
      obtain ⟨h1, h2⟩ := cs_mets ps qs h
      rw [met_same _ _ h, cS, cS]
      exact ⟨by omega, fun e => by rw [h2 (by omega)]⟩
    · rw [met_unlike h, cS, cS]
      exact ⟨by omega, fun e => by omega⟩
theorem cs_mets : ∀ as bs : List Stp, as.length = bs.length → cSs (mets as bs) ≤ cSs bs ∧ (cSs (mets as bs) = cSs bs → mets as bs = bs)
  | [], [], _ => by rw [mets_nil]; exact ⟨Nat.le_refl _, fun _ => rfl⟩
  | [], _ :: _, h => by simp at h
  | _ :: _, [], h => by simp at h
  | a :: as, b :: bs, h => by
    obtain ⟨h1, h2⟩ := c_met a b
    obtain ⟨g1, g2⟩ := cs_mets as bs (by simpa using h)
    rw [mets_cons, cSs, cSs]
    exact ⟨by omega, fun e => by rw [h2 (by omega), g2 (by omega)]⟩
end
theorem leS_c {a b : Stp} (h : leS a b) : cS a ≤ cS b ∧ (cS a = cS b → a = b) := by
  have := c_met a b
  rw [h] at this
  exact this
def leT : List Stp → List Stp → Prop
  | [], [] => True
  | a :: as, b :: bs => leS a b ∧ leT as bs
  | _, _ => False
theorem leT_at : ∀ {as bs : List Stp}, leT as bs → ∀ k, leS (as.getD k .op) (bs.getD k .op)
  | [], [], _, k => leS_refl _
  | a :: as, b :: bs, h, 0 => h.1
  | a :: as, b :: bs, h, k + 1 => leT_at h.2 k
  | [], _ :: _, h, _ => h.elim
  | _ :: _, [], h, _ => h.elim
theorem leT_map {α : Type} {f g : α → Stp} : ∀ {l : List α}, (∀ x ∈ l, leS (f x) (g x)) → leT (l.map f) (l.map g)
  | [], _ => trivial
  | x :: l, h => ⟨h x List.mem_cons_self, leT_map fun y hy => h y (List.mem_cons_of_mem _ hy)⟩
theorem leT_c : ∀ {as bs : List Stp}, leT as bs → cSs as ≤ cSs bs ∧ (cSs as = cSs bs → as = bs)
  | [], [], _ => ⟨Nat.le_refl _, fun _ => rfl⟩
  | a :: as, b :: bs, h => by
    obtain ⟨h1, h2⟩ := leS_c h.1
    obtain ⟨g1, g2⟩ := leT_c h.2
    rw [cSs, cSs]
    exact ⟨by omega, fun e => by rw [h2 (by omega), g2 (by omega)]⟩
  | [], _ :: _, h => h.elim
  | _ :: _, [], h => h.elim
mutual
theorem stIn_mono {as bs : List Stp} (h : leT as bs) : ∀ t : Trm, leS (stIn as t) (stIn bs t)
  | .call m b => by rw [stIn, stIn]; exact leT_at h _
  | .put nm kp ad ps => by
    rw [stIn, stIn]
    cases kp with
    | true => exact leS_refl _
    | false =>
      show met (.put nm ad _) (.put nm ad _) = _
      rw [met_same _ _ (by rw [stIns_map, stIns_map, List.length_map, List.length_map]), stIns_mono h ps]
      rfl
theorem stIns_mono {as bs : List Stp} (h : leT as bs) : ∀ ps : List Trm, mets (stIns as ps) (stIns bs ps) = stIns as ps
  | [] => by rw [stIns, mets_nil]
  | p :: ps => by rw [stIns, stIns, mets_cons, stIn_mono h p, stIns_mono h ps]
end
mutual
theorem stIn_calm (as bs : List Stp) : ∀ t : Trm, callsM t = [] → stIn as t = stIn bs t
  | .call m b, h => by rw [callsM] at h; cases h
  | .put nm kp ad ps, h => by
    rw [callsM] at h
    rw [stIn, stIn, stIns_calm as bs ps h]
theorem stIns_calm (as bs : List Stp) : ∀ ps : List Trm, callsMs ps = [] → stIns as ps = stIns bs ps
  | [], _ => by rw [stIns, stIns]
  | p :: ps, h => by
    rw [callsMs, List.append_eq_nil_iff] at h
    rw [stIns, stIns, stIn_calm as bs p h.1, stIns_calm as bs ps h.2]
end
/-- a mode: its rules, and which of them are those of rows without branches -/
structure Md where
  kd : Str
  rls : List (Bool × Trm)
def bares (m : Md) : List Trm := (m.rls.filter (·.1)).map (·.2)
def rulesM (m : Md) : List Trm := m.rls.map (·.2)
def MdOk (m : Md) : Prop := bares m ≠ [] ∧ ∀ t ∈ bares m, callsM t = []
def tab0 (ms : List Md) : List Stp := ms.map fun m => metOf ((bares m).map (stIn []))
def tabN (ms : List Md) (ss : List Stp) : List Stp := ms.map fun m => metOf ((rulesM m).map (stIn ss))
def tab (ms : List Md) : Nat → List Stp
  | 0 => tab0 ms
  | n + 1 => tabN ms (tab ms n)
theorem tabN_mono (ms : List Md) (hm : ∀ m ∈ ms, MdOk m) {as bs : List Stp} (h : leT as bs) : leT (tabN ms as) (tabN ms bs) := by
  refine leT_map fun m hmm => ?_
  have ne : rulesM m ≠ [] := by
    have := (hm m hmm).1
    intro e
    apply this
    unfold bares
    have : m.rls = [] := by unfold rulesM at e; simpa using e
    rw [this]; rfl
  refine metOf_glb (by simpa using ne) fun x hx => ?_
  obtain ⟨t, ht, rfl⟩ := List.mem_map.mp hx
  exact leS_trans (metOf_le (List.mem_map_of_mem ht)) (stIn_mono h t)
theorem tab_first (ms : List Md) (hm : ∀ m ∈ ms, MdOk m) : leT (tab ms 1) (tab ms 0) := by
  refine leT_map fun m hmm => ?_
  obtain ⟨h1, h2⟩ := hm m hmm
  refine metOf_glb (by simpa using h1) fun x hx => ?_
  obtain ⟨t, ht, rfl⟩ := List.mem_map.mp hx
  rw [stIn_calm [] (tab ms 0) t (h2 t ht)]
  refine metOf_le (List.mem_map_of_mem ?_)
  unfold bares at ht
  obtain ⟨p, hp, rfl⟩ := List.mem_map.mp ht
  exact List.mem_map_of_mem (List.mem_filter.mp hp).1
theorem tab_down (ms : List Md) (hm : ∀ m ∈ ms, MdOk m) : ∀ n, leT (tab ms (n + 1)) (tab ms n)
  | 0 => tab_first ms hm
  | n + 1 => tabN_mono ms hm (tab_down ms hm n)
theorem tab_stop (ms : List Md) (hm : ∀ m ∈ ms, MdOk m) : ∃ N, N ≤ cSs (tab ms 0) ∧ tab ms (N + 1) = tab ms N ∧ ∀ i, i < N → tab ms (i + 1) ≠ tab ms i := by
  have step : ∀ n, (∀ i, i < n → tab ms (i + 1) ≠ tab ms i) → cSs (tab ms n) + n ≤ cSs (tab ms 0) := fun n => by
    induction n with
    | zero => intro _; omega
    | succ n ih =>
      intro h
      have a := ih fun i hi => h i (by omega)
      obtain ⟨b, c⟩ := leT_c (tab_down ms hm n)
      have : cSs (tab ms (n + 1)) ≠ cSs (tab ms n) := fun e => h n (by omega) (c e)
      omega
  have ex : ∃ n, tab ms (n + 1) = tab ms n := by
    refine Classical.byContradiction fun no => ?_
    have := step (cSs (tab ms 0) + 1) fun i _ e => no ⟨i, e⟩
    omega
  have least : ∀ n, tab ms (n + 1) = tab ms n → ∃ N, tab ms (N + 1) = tab ms N ∧ ∀ i, i < N → tab ms (i + 1) ≠ tab ms i := fun n => by
    induction n using Nat.strongRecOn with
    | ind n ih =>
      intro h
      by_cases c : ∃ i, i < n ∧ tab ms (i + 1) = tab ms i
      · obtain ⟨i, hi, e⟩ := c
        exact ih i hi e
      · exact ⟨n, h, fun i hi e => c ⟨i, hi, e⟩⟩
  obtain ⟨n, hn⟩ := ex
  obtain ⟨N, h1, h2⟩ := least n hn
  refine ⟨N, ?_, h1, h2⟩
  have := step N h2
  omega
/-- what the tables' stumps are like -/
theorem tab_len (ms : List Md) : ∀ n, (tab ms n).length = ms.length
  | 0 => by show (ms.map _).length = _; rw [List.length_map]
  | n + 1 => by show (ms.map _).length = _; rw [List.length_map]
end Mir
set_option Elab.async false
set_option linter.all false
set_option maxRecDepth 100000
set_option maxHeartbeats 4000000
namespace Mir
open PySem PySem.Spec L2
structure Rw where
  nm : Str
  br : List Str
abbrev Wood := List (Str × List Rw)
def encRw (r : Rw) : D := .tuple [.str r.nm, .tuple (r.br.map PyData.str)]
def encKd (p : Str × List Rw) : D := .tuple [.str p.1, .list (p.2.map encRw)]
def encWd (w : Wood) : D := .list (w.map encKd)
structure Trn where
  wood : Wood
  start : Trm
  modes : List (Str × List Trm)
def encMo (p : Str × List Trm) : D := .tuple [.str p.1, .list (p.2.map encM)]
def encTn (t : Trn) : D := .tuple [encWd t.wood, encM t.start, .list (t.modes.map encMo)]
def rowsOf : Wood → Str → List Rw
  | [], _ => []
  | p :: w, k => bif p.1 == k then p.2 else rowsOf w k
def mdOf (w : Wood) (p : Str × List Trm) : Md := ⟨p.1, List.zipWith (fun (r : Rw) t => (r.br.isEmpty, t)) (rowsOf w p.1) p.2⟩
def mds (t : Trn) : List Md := t.modes.map (mdOf t.wood)
/-- a turning that the drawing makes -/
structure TnOk (t : Trn) : Prop where
  few : t.modes.length ≤ 100
  few1 : 1 ≤ t.modes.length
  rows : ∀ p ∈ t.modes, p.2.length = (rowsOf t.wood p.1).length ∧ p.2.length ≤ 100
  bare : ∀ p ∈ t.modes, MdOk (mdOf t.wood p)
  term : ∀ p ∈ t.modes, ∀ r ∈ p.2, okM r ∧ levM r ≤ 10 ∧ sizeM r ≤ 1000 ∧ ∀ c ∈ callsM r, 0 ≤ c.1 ∧ c.1 < t.modes.length
  names : (∀ p ∈ t.wood, PyData.strOk p.1 = true ∧ p.2.length ≤ 100 ∧ ∀ r ∈ p.2, PyData.strOk r.nm = true ∧ r.br.length ≤ 100 ∧ ∀ b ∈ r.br, PyData.strOk b = true)
  kinds : t.wood.length ≤ 100
  start : okM t.start ∧ levM t.start ≤ 10
theorem nice_strs {l : List Str} (h : ∀ z ∈ l, PyData.strOk z = true) : Nice (.tuple (l.map PyData.str)) := by
  refine ⟨?_, ?_⟩
  · rw [PyData.canLay0]
    exact canAll_of _ fun d hd => by
      obtain ⟨z, hz, rfl⟩ := List.mem_map.mp hd
      rw [PyData.canLay0]; exact h z hz
  · rw [PyData.depth]
    have := depthAll_of (n := 0) (l.map PyData.str) fun d hd => by
      obtain ⟨z, hz, rfl⟩ := List.mem_map.mp hd
      simp [PyData.depth]
    omega
theorem bare_eq {r : Rw} (h : ∀ z ∈ r.br, PyData.strOk z = true) : gEq (.tuple (r.br.map PyData.str)) (.tuple []) = some (.bool r.br.isEmpty) := by
  have n0 : Nice (.tuple []) := nice_strs (l := []) (fun z hz => by cases hz)
  rw [gEq_nice (nice_strs h) n0]
  cases r.br with
  | nil => rfl
  | cons b bs => simp [PyData.eqv, PyData.eqvAll]
noncomputable section
section
variable (nm : Str) (kp : Bool) (ad : Int) (ps : List Trm) (m b : Int)
end
def stD (ss : List Stp) : D := .list (ss.map encS)
end
end Mir
set_option Elab.async false
set_option linter.all false
set_option maxRecDepth 100000
set_option maxHeartbeats 4000000
namespace Mir
open PySem PySem.Spec L2
noncomputable section
theorem bares_zip (w : Wood) (p : Str × List Trm) : bares (mdOf w p) = (((rowsOf w p.1).zip p.2).filter fun q => q.1.br.isEmpty).map (·.2) := by
  unfold bares mdOf
  show ((List.zipWith (fun (r : Rw) t => (r.br.isEmpty, t)) (rowsOf w p.1) p.2).filter (·.1)).map (·.2) = _
  generalize rowsOf w p.1 = rs
  generalize p.2 = ts
  induction rs generalizing ts with
  | nil => rfl
  | cons r rs ih =>
    cases ts with
    | nil => rfl
    | cons t ts =>
      rw [List.zipWith_cons_cons, List.zip_cons_cons]
      cases c : r.br.isEmpty with
      | true =>
        rw [List.filter_cons_of_pos (by simp [c]), List.filter_cons_of_pos (by simp [c]), List.map_cons, List.map_cons, ih ts]
      | false =>
        rw [List.filter_cons_of_neg (by simp [c]), List.filter_cons_of_neg (by simp [c]), ih ts]
/-- what the parts promise -/
structure Parts (t : Trn) (f1 f2 f3 : List D → R Ow) : Prop where
  rows : ∀ p ∈ t.modes, ∃ o, f1 [encWd t.wood, .str p.1] = .ok o ∧ viewD o = .list ((rowsOf t.wood p.1).map encRw)
  bare : ∀ p ∈ t.modes, ∀ r ∈ p.2, callsM r = [] → f2 [encM r, .list []] = .ok (.d (encS (stIn [] r)))
  stump : ∀ p ∈ t.modes, ∀ r ∈ p.2, ∀ ss : List Stp, ss.length = t.modes.length → f2 [encM r, stD ss] = .ok (.d (encS (stIn ss r)))
  met0 : ∀ p ∈ t.modes, f3 [stD ((bares (mdOf t.wood p)).map (stIn []))] = .ok (.d (encS (metOf ((bares (mdOf t.wood p)).map (stIn [])))))
  metN : ∀ p ∈ t.modes, ∀ n : Nat, f3 [stD (p.2.map (stIn (tab (mds t) n)))] = .ok (.d (encS (metOf (p.2.map (stIn (tab (mds t) n))))))
end
end Mir
set_option Elab.async false
set_option linter.all false
set_option maxRecDepth 100000
set_option maxHeartbeats 4000000
namespace Mir
open PySem PySem.Spec L2
mutual
theorem stIn_c : ∀ t : Trm, cS (stIn [] t) ≤ sizeM t
  | .call m b => by
    rw [stIn, sizeM]
    show cS .op ≤ 1
    rw [cS]; omega
  | .put nm kp ad ps => by
    rw [stIn, sizeM]
    cases kp with
    | true => show cS .op ≤ _; rw [cS]; omega
    | false =>
      show cS (.put nm ad _) ≤ _
      rw [cS]
      have := stIns_c ps
      omega
theorem stIns_c : ∀ ps : List Trm, cSs (stIns [] ps) ≤ sizeMs ps
  | [] => by rw [stIns, cSs]; omega
  | p :: ps => by
    rw [stIns, sizeMs, cSs]
    have := stIn_c p
    have := stIns_c ps
    omega
end
theorem bares_in {w : Wood} {p : Str × List Trm} : ∀ r ∈ bares (mdOf w p), r ∈ p.2 := fun r hr => by
  rw [bares_zip] at hr
  obtain ⟨q, hq, rfl⟩ := List.mem_map.mp hr
  exact (List.of_mem_zip (List.mem_filter.mp hq).1).2
theorem mds_ok {t : Trn} (ok : TnOk t) : ∀ m ∈ mds t, MdOk m := fun m hm => by
  obtain ⟨p, hp, rfl⟩ := List.mem_map.mp hm
  exact ok.bare p hp
theorem cSs_le {n : Nat} : ∀ {ss : List Stp}, (∀ s ∈ ss, cS s ≤ n) → cSs ss ≤ n * ss.length
  | [], _ => by rw [cSs]; omega
  | s :: ss, h => by
    rw [cSs, List.length_cons, Nat.mul_succ]
    have := h s List.mem_cons_self
    have := cSs_le (n := n) (ss := ss) fun x hx => h x (List.mem_cons_of_mem _ hx)
    omega
noncomputable section
end
end Mir
set_option Elab.async false
set_option linter.all false
set_option maxRecDepth 100000
set_option maxHeartbeats 4000000
namespace Mir
open PySem PySem.Spec L2
noncomputable section
def encCl (c : Int × Int) : D := .tuple [.int c.1, .int c.2]
def caD (cs : List (Int × Int)) : D := .list (cs.map encCl)
mutual
def thinM : Trm → Prop
  | .call _ _ => True
  | .put _ _ _ ps => ps.length ≤ 3 ∧ thinMs ps
def thinMs : List Trm → Prop
  | [] => True
  | p :: ps => thinM p ∧ thinMs ps
end
/-- two parts of one level less, or three of two levels less -/
def fitS : Nat → Trm → Prop
  | _, .call _ _ => True
  | 0, .put _ _ _ ps => ps = []
  | 1, .put _ _ _ ps => ps.length ≤ 3 ∧ ∀ p ∈ ps, fitS 0 p
  | n + 2, .put _ _ _ ps => (ps.length ≤ 2 ∧ ∀ p ∈ ps, fitS (n + 1) p) ∨ (ps.length ≤ 3 ∧ ∀ p ∈ ps, fitS n p)
theorem sizeMs_le' {n m : Nat} : ∀ {bs : List Trm}, bs.length ≤ n → (∀ b ∈ bs, sizeM b ≤ m) → sizeMs bs ≤ n * m
  | [], _, _ => by rw [sizeMs]; omega
  | b :: bs, hl, h => by
    rw [sizeMs]
    obtain ⟨k, rfl⟩ : ∃ k, n = k + 1 := ⟨n - 1, by simp at hl; omega⟩
    have := sizeMs_le' (n := k) (m := m) (bs := bs) (by simp at hl; omega) fun c hc => h c (List.mem_cons_of_mem _ hc)
    have := h b List.mem_cons_self
    rw [Nat.add_mul]
    omega
theorem fitS_0 {t : Trm} (h : fitS 0 t) : sizeM t ≤ 1 := by
  cases t with
  | call m b => rw [sizeM]; omega
  | put nm kp ad ps => rw [fitS] at h; rw [h, sizeM, sizeMs]; omega
theorem fitS_1 {t : Trm} (h : fitS 1 t) : sizeM t ≤ 4 := by
  cases t with
  | call m b => rw [sizeM]; omega
  | put nm kp ad ps =>
    rw [fitS] at h
    have := sizeMs_le' h.1 fun p hp => fitS_0 (h.2 p hp)
    rw [sizeM]
    omega
theorem fitS_2 {t : Trm} (h : fitS 2 t) : sizeM t ≤ 9 := by
  cases t with
  | call m b => rw [sizeM]; omega
  | put nm kp ad ps =>
    rw [fitS] at h
    rw [sizeM]
    rcases h with h | h
    · have := sizeMs_le' h.1 fun p hp => fitS_1 (h.2 p hp)
      omega
    · have := sizeMs_le' h.1 fun p hp => fitS_0 (h.2 p hp)
      omega
def TermIn (cs : List (Int × Int)) (n : Nat) (t : Trm) : Prop := okM t ∧ levM t ≤ n + 1 ∧ fitS n t ∧ (∀ c ∈ callsM t, c ∈ cs) ∧ thinM t
end
end Mir
set_option Elab.async false
set_option linter.all false
set_option maxRecDepth 100000
set_option maxHeartbeats 4000000
namespace Mir
open PySem PySem.Spec L2
theorem perm_map_inv {α β : Type} {f : α → β} {ds es : List β} (h : ds.Perm es) : ∀ xs : List α, es = xs.map f → ∃ ys : List α, ys.Perm xs ∧ ds = ys.map f := by
  induction h with
  | nil => intro xs e; exact ⟨[], by cases xs with | nil => exact .refl _ | cons => simp at e, rfl⟩
  | cons x h ih =>
    intro xs e
    cases xs with
    | nil => simp at e
    | cons a xs =>
      rw [List.map_cons] at e
      injection e with e1 e2
      obtain ⟨ys, h1, h2⟩ := ih xs e2
      exact ⟨a :: ys, h1.cons a, by rw [e1, h2]; rfl⟩
  | swap x y l =>
    intro xs e
    match xs, e with
    | a :: b :: xs, e =>
      simp only [List.map_cons] at e
      injection e with e1 e2
      injection e2 with e2 e3
      exact ⟨b :: a :: xs, .swap a b xs, by rw [e1, e2, e3]; rfl⟩
    | [_], e => simp at e
    | [], e => simp at e
  | trans h1 h2 ih1 ih2 =>
    intro xs e
    obtain ⟨ys, a, b⟩ := ih2 xs e
    obtain ⟨zs, c, d⟩ := ih1 ys b
    exact ⟨zs, c.trans a, d⟩
theorem alike_strs : ∀ xs ys : List Str, PySem.W.alikeAll (xs.map PyData.str) (ys.map PyData.str) = true
  | [], ys => by cases ys <;> rfl
  | x :: xs, [] => rfl
  | x :: xs, y :: ys => by
    rw [List.map_cons, List.map_cons, PySem.W.alikeAll, alike_strs xs ys]
    rfl
theorem sorted_rows (rows : List Rw) : ∃ rows' : List Rw, rows'.Perm rows ∧ gSorted [.list (rows.map encRw)] = some (.l (rows'.map fun r => .d (encRw r))) := by
  obtain ⟨rows', h1, h2⟩ := perm_map_inv (List.mergeSort_perm (rows.map encRw) (PySem.W.dataLe false id)) rows rfl
  refine ⟨rows', h1, ?_⟩
  have ok : sortOk (rows.map encRw) = true := by
    unfold sortOk
    simp only [Bool.and_eq_true, Bool.or_eq_true, List.all_eq_true, decide_eq_true_eq, List.mem_map]
    refine ⟨⟨?_, .inl ?_⟩, ?_⟩
    · rintro d ⟨r, _, rfl⟩ e ⟨s, _, rfl⟩
      have := alike_strs r.br s.br
      simp [encRw, PySem.W.alike, PySem.W.alikeAll, this]
    · rintro d ⟨r, _, rfl⟩
      rfl
    · rintro d ⟨r, _, rfl⟩
      have := depthAll_of (n := 0) (r.br.map PyData.str) fun d hd => by
        obtain ⟨z, hz, rfl⟩ := List.mem_map.mp hd
        simp [PyData.depth]
      simp only [encRw, PyData.depth, PyData.depthAll]
      omega
  unfold gSorted
  have e : sortedD (rows.map encRw) = rows'.map encRw := h2
  simp only [ok, if_true, e, List.map_map]
  rfl
noncomputable section
def CallOk (ks bs : List Str) (c : Int × Int) : Prop := ∃ i j : Nat, c = ((i : Int), (j : Int)) ∧ ∃ z, ks[i]? = some z ∧ bs[j]? = some z
def caO (cs : List (Int × Int)) : Ow := .l (cs.map fun c => .d (encCl c))
mutual
def bareM : Trm → Trm
  | .call m b => .call m b
  | .put nm _ ad ps => .put nm false ad (bareMs ps)
def bareMs : List Trm → List Trm
  | [] => []
  | p :: ps => bareM p :: bareMs ps
end
end
end Mir
set_option Elab.async false
set_option linter.all false
set_option maxRecDepth 100000
set_option maxHeartbeats 4000000
namespace Mir
open PySem PySem.Spec L2
def RwOk (w : Nat) (kn : Nat → Str) (r : Rw) : Prop := PyData.strOk r.nm = true ∧ r.br.length ≤ 4 ∧ ∀ z ∈ r.br, ∃ j, j < w ∧ z = kn j
/-- the rows' names, in some order -/
def RwNm (kn : Nat → Str) (rs : List Rw) : Prop := ∃ b, b ≤ 12 ∧ (rs.map (·.nm)).Perm ((List.range rs.length).map fun j => kn (b + j))
structure WdOk (w : Wood) (kn : Nat → Str) : Prop where
  few : w.length ≤ 3
  one : 1 ≤ w.length
  nok : ∀ k, k < 900 → PyData.strOk (kn k) = true
  at_ : ∀ (k : Nat) p, w[k]? = some p → p.1 = kn k
  rows : ∀ p ∈ w, p.2.length ≤ 3 ∧ (∃ r ∈ p.2, r.br = []) ∧ ∀ r ∈ p.2, RwOk w.length kn r
  rnm : ∀ p ∈ w, RwNm kn p.2
noncomputable section
theorem rg1_nat (n : Nat) (h : n ≤ 100000) : rg1 [.int (n : Nat)] = .ok (rangeD 0 n) := by
  have : rg1 [.int (n : Nat)] = .ok (rangeD 0 ((n : Nat) : Int).toNat) := guard_ok (by omega)
  rw [this, Int.toNat_natCast]
theorem rangeD_len (n : Nat) : (rangeD 0 n).length = n := by simp [rangeD]
theorem rangeD_map (n : Nat) : rangeD 0 n = (List.range n).map fun k : Nat => PyData.int (k : Nat) := by
  unfold rangeD
  exact List.map_congr_left fun k _ => by simp
section
variable {fd fn : List D → R Ow} {code : Int} {kn : Nat → Str}
end
end
end Mir
set_option Elab.async false
set_option linter.all false
set_option maxRecDepth 100000
set_option maxHeartbeats 4000000
namespace Mir
open PySem PySem.Spec L2
noncomputable section
theorem rowsOf_first : ∀ (w : Wood) (k : Str), (∃ p ∈ w, p.1 = k) → ∃ p, (w.filter fun p => p.1 == k)[0]? = some p ∧ p.2 = rowsOf w k ∧ p ∈ w
  | [], k, h => by obtain ⟨p, hp, _⟩ := h; cases hp
  | p :: w, k, h => by
    cases c : p.1 == k with
    | true =>
      refine ⟨p, by rw [List.filter_cons_of_pos (by simpa using c)]; rfl, by rw [rowsOf, c]; rfl, List.mem_cons_self⟩
    | false =>
      obtain ⟨q, hq, e⟩ := h
      have hq' : q ∈ w := by
        rcases List.mem_cons.mp hq with rfl | h
        · rw [e] at c; simp at c
        · exact h
      obtain ⟨r, h1, h2, h3⟩ := rowsOf_first w k ⟨q, hq', e⟩
      exact ⟨r, by rw [List.filter_cons_of_neg (by simp [c])]; exact h1, by rw [rowsOf, c]; exact h2, List.mem_cons_of_mem _ h3⟩
def RuleOk (ks bs : List Str) (t : Trm) : Prop := okM t ∧ levM t ≤ 3 ∧ sizeM t ≤ 9 ∧ ∀ c ∈ callsM t, CallOk ks bs c
structure TnMade (t : Trn) : Prop where
  few : t.modes.length ≤ 4
  one : 1 ≤ t.modes.length
  kind : ∀ p ∈ t.modes, ∃ q ∈ t.wood, q.1 = p.1
  rules : ∀ p ∈ t.modes, p.2.length = (rowsOf t.wood p.1).length ∧ ∀ (i : Nat) r u, (rowsOf t.wood p.1)[i]? = some r → p.2[i]? = some u → RuleOk (t.modes.map (·.1)) r.br u
  start : okM t.start ∧ levM t.start ≤ 3
/-- what the parts of the drawing promise -/
structure Gens (fd ft fl fru fca fb : List D → R Ow) (code : Int) (w : Wood) : Prop where
  dr : Draws fd
  term : ∀ (cs : List (Int × Int)) (n : Nat), n ≤ 2 → ∀ dk, ∃ t dk', TermIn cs n t ∧ ft (dkD dk :: [.int code, caD cs, .int (n : Nat)]) = tells (encM t) dk'
  rows : ∀ k, (∃ p ∈ w, p.1 = k) → fl [encWd w, .str k] = .ok (.d (.list ((rowsOf w k).map encRw)))
  rule : ∀ (cs : List (Int × Int)) (base : Trm), TermIn [] 2 base → ∀ dk, ∃ t dk', TermIn cs 2 t ∧ fru (dkD dk :: [.int code, encM base, caD cs]) = tells (encM t) dk'
  callsT : ∀ ks bs : List Str, ks.length ≤ 100 → bs.length ≤ 100 → ∃ cs, fca [.list (ks.map PyData.str), .tuple (bs.map PyData.str)] = .ok (caO cs) ∧ ∀ c ∈ cs, CallOk ks bs c
  callsL : ∀ ks bs : List Str, ks.length ≤ 100 → bs.length ≤ 100 → ∃ cs, fca [.list (ks.map PyData.str), .list (bs.map PyData.str)] = .ok (caO cs) ∧ ∀ c ∈ cs, CallOk ks bs c
  bare : ∀ t, okM t → levM t ≤ 10 → fb [encM t] = .ok (.d (encM (bareM t)))
section
variable {fd ft fl fru fca fb : List D → R Ow} {code : Int} {w : Wood}
theorem TermIn.rule {ks bs : List Str} {cs : List (Int × Int)} {t : Trm} (h : TermIn cs 2 t) (hc : ∀ c ∈ cs, CallOk ks bs c) : RuleOk ks bs t := ⟨h.1, by have := h.2.1; omega, fitS_2 h.2.2.1, fun c hcc => hc c (h.2.2.2.1 c hcc)⟩
theorem rowsOf_mem {w : Wood} {k : Str} (hk : ∃ p ∈ w, p.1 = k) : ∃ p ∈ w, p.2 = rowsOf w k := by
  obtain ⟨p, _, h2, h3⟩ := rowsOf_first w k hk
  exact ⟨p, h3, h2⟩
end
end
end Mir
set_option Elab.async false
set_option linter.all false
set_option maxRecDepth 100000
set_option maxHeartbeats 4000000
namespace Mir
open PySem PySem.Spec L2
theorem TnMade.ok {t : Trn} {kn : Nat → Str} (m : TnMade t) (hw : WdOk t.wood kn) : TnOk t := by
  have kl : (t.modes.map (·.1)).length = t.modes.length := List.length_map _
  have each : ∀ p ∈ t.modes, ∀ u ∈ p.2, ∃ r ∈ rowsOf t.wood p.1, RuleOk (t.modes.map (·.1)) r.br u := fun p hp u hu => by
    obtain ⟨i, hi, e⟩ := List.mem_iff_getElem.mp hu
    obtain ⟨h1, h2⟩ := m.rules p hp
    have hi' : i < (rowsOf t.wood p.1).length := by omega
    exact ⟨_, List.getElem_mem hi', h2 i _ u (List.getElem?_eq_getElem hi') (by rw [List.getElem?_eq_getElem hi, e])⟩
  have rl : ∀ p ∈ t.modes, (rowsOf t.wood p.1).length ≤ 3 ∧ ∃ r ∈ rowsOf t.wood p.1, r.br = [] := fun p hp => by
    obtain ⟨q, q1, q2⟩ := rowsOf_mem (m.kind p hp)
    obtain ⟨a, b, _⟩ := hw.rows q q1
    rw [q2] at a b
    exact ⟨a, b⟩
  have wl := hw.few
  refine ⟨by have := m.few; omega, m.one, fun p hp => ⟨(m.rules p hp).1, by have := (m.rules p hp).1; have := (rl p hp).1; omega⟩, fun p hp => ?_, fun p hp u hu => ?_, fun p hp => ?_, by omega, m.start.1, by have := m.start.2; omega⟩
  · -- bare rows
    obtain ⟨h1, h2⟩ := m.rules p hp
    constructor
    · rw [bares_zip]
      obtain ⟨_, r, hr, hb⟩ := rl p hp
      obtain ⟨i, hi, e⟩ := List.mem_iff_getElem.mp hr
      intro z
      have z2 : ((rowsOf t.wood p.1).zip p.2).filter (fun q => q.1.br.isEmpty) = [] := by simpa using z
      have hm : (r, p.2[i]'(by omega)) ∈ ((rowsOf t.wood p.1).zip p.2).filter (fun q => q.1.br.isEmpty) := by
        refine List.mem_filter.mpr ⟨?_, by show r.br.isEmpty = true; rw [hb]; rfl⟩
        refine List.mem_iff_getElem.mpr ⟨i, by rw [List.length_zip]; omega, ?_⟩
        rw [List.getElem_zip, e]
      rw [z2] at hm
      cases hm
    · intro u hu
      rw [bares_zip] at hu
      obtain ⟨q, hq, rfl⟩ := List.mem_map.mp hu
      obtain ⟨q1, q2⟩ := List.mem_filter.mp hq
      obtain ⟨i, hi, e⟩ := List.mem_iff_getElem.mp q1
      rw [List.length_zip] at hi
      rw [List.getElem_zip] at e
      have ok := h2 i q.1 q.2 (by rw [List.getElem?_eq_getElem (by omega), ← e]) (by rw [List.getElem?_eq_getElem (by omega), ← e])
      have bn : q.1.br = [] := by simpa using q2
      cases hc : callsM q.2 with
      | nil => rfl
      | cons c cs =>
        obtain ⟨i, j, _, z, _, hz⟩ := ok.2.2.2 c (by rw [hc]; exact List.mem_cons_self)
        rw [bn] at hz
        simp at hz
  · obtain ⟨r, _, o1, o2, o3, o4⟩ := each p hp u hu
    refine ⟨o1, by omega, by omega, fun c hc => ?_⟩
    obtain ⟨i, j, e, z, hz, _⟩ := o4 c hc
    have := (List.getElem?_eq_some_iff.mp hz).1
    rw [e]
    constructor
    · show (0 : Int) ≤ (i : Int)
      omega
    · show (i : Int) < _
      omega
  · obtain ⟨i, hi, e⟩ := List.mem_iff_getElem.mp hp
    have en := hw.at_ i p (by rw [List.getElem?_eq_getElem hi, e])
    obtain ⟨a, _, c⟩ := hw.rows p hp
    refine ⟨by rw [en]; exact hw.nok i (by omega), by omega, fun r hr => ?_⟩
    obtain ⟨d1, d2, d3⟩ := c r hr
    refine ⟨d1, by omega, fun z hz => ?_⟩
    obtain ⟨j, hj, ez⟩ := d3 z hz
    rw [ez]
    exact hw.nok j (by omega)
noncomputable section
end
end Mir
set_option Elab.async false
set_option linter.all false
set_option maxRecDepth 100000
set_option maxHeartbeats 4000000
namespace Mir
open PySem PySem.Spec L2
noncomputable section
def pick (t : Trn) (wants : Rw → Bool) (g : Trm → Stp) (p : Str × List Trm) : List Stp := (((rowsOf t.wood p.1).zip p.2).filter fun q => wants q.1).map fun q => g q.2
end
end Mir
set_option Elab.async false
set_option linter.all false
set_option maxRecDepth 100000
set_option maxHeartbeats 4000000
namespace Mir
open PySem PySem.Spec L2
noncomputable section
theorem nice_list {ds : List D} {n : Nat} (h : ∀ d ∈ ds, d.canLay0 = true ∧ d.depth ≤ n) (hn : n ≤ 129) : Nice (.list ds) := by
  refine ⟨?_, ?_⟩
  · rw [PyData.canLay0]
    exact canAll_of _ fun d hd => (h d hd).1
  · rw [PyData.depth]
    have := depthAll_of (n := n) ds fun d hd => (h d hd).2
    omega
theorem lcR_filt {α : Type} {g : D → Ev → Option Ev} {c : Ev → R Bool} {e : Ev → R Ow} {env : Ev} (enc : α → D) (P : α → Bool) (h : α → Ow) : ∀ xs : List α, (∀ a ∈ xs, ∃ env1, g (enc a) env = some env1 ∧ c env1 = .ok (P a) ∧ (P a = true → e env1 = .ok (h a))) → lcR g c e env (xs.map enc) = .ok ((xs.filter P).map h)
  | [], _ => rfl
  | d :: ds, q => by
    obtain ⟨env1, q1, q2, q3⟩ := q d List.mem_cons_self
    have ih := lcR_filt (g := g) (c := c) (e := e) (env := env) enc P h ds fun d hd => q d (List.mem_cons_of_mem _ hd)
    rw [List.map_cons]
    unfold lcR
    rw [q1]
    simp only [q2, noEx_ok, R.bind_ok]
    cases hp : P d with
    | true =>
      rw [List.filter_cons_of_pos hp]
      simp only [if_true, q3 hp, noEx_ok, R.bind_ok, ih]
      rfl
    | false =>
      rw [List.filter_cons_of_neg (by rw [hp]; exact Bool.false_ne_true)]
      simp only [Bool.false_eq_true, if_false, ih]
end
end Mir
set_option Elab.async false
set_option linter.all false
set_option maxRecDepth 100000
set_option maxHeartbeats 4000000
namespace Mir
open PySem PySem.Spec L2
noncomputable section
def trsD (ts : List Trm) : D := .list (ts.map encM)
theorem notIn_strs {k : Str} {ks : List Str} (hk : PyData.strOk k = true) (hs : ∀ z ∈ ks, PyData.strOk z = true) : gNotIn (.str k) (.list (ks.map PyData.str)) = some (.bool (!(ks.any fun z => z == k))) := by
  have ok : inOk (.str k) (ks.map PyData.str) = true := by
    unfold inOk
    simp only [Bool.and_eq_true, decide_eq_true_eq, List.all_eq_true]
    refine ⟨⟨by rw [PyData.canLay0]; exact hk, by simp [PyData.depth]⟩, fun e he => ?_⟩
    obtain ⟨z, hz, rfl⟩ := List.mem_map.mp he
    rw [PyData.canLay0]
    exact hs z hz
  have e : inD (.str k) (ks.map PyData.str) = ks.any fun z => z == k := by
    unfold inD
    rw [List.any_map]
    rfl
  show (if inOk (.str k) (ks.map PyData.str) = true then some (PyData.bool (xor true (inD (.str k) (ks.map PyData.str)))) else none) = _
  rw [if_pos ok, e]
  simp
structure SndOk (w : Wood) (s : Trm) (ms : List (Str × List Trm)) : Prop where
  kinds : ∀ p ∈ w, PyData.strOk p.1 = true
  few : w.length ≤ 100
  dist : (w.map (·.1)).Nodup
  mkinds : ∀ p ∈ ms, PyData.strOk p.1 = true
def numOf : List Rw → Str → Nat → Option Nat
  | [], _, _ => none
  | r :: rs, nm, k => if r.nm == nm then some k else numOf rs nm (k + 1)
end
end Mir
set_option Elab.async false
set_option linter.all false
set_option maxRecDepth 100000
set_option maxHeartbeats 4000000
namespace Mir
open PySem PySem.Spec L2
section
variable (S : Trm) (R : Nat → List Trm) (n : Nat)
/-- to the mode lead calls -/
inductive Reach : Int → Prop
  | start {c : Int × Int} : c ∈ callsM S → Reach c.1
  | step {m : Nat} {t : Trm} {c : Int × Int} : Reach (m : Int) → t ∈ R m → c ∈ callsM t → Reach c.1
/-- calls by modes that there are -/
structure Calls : Prop where
  start : ∀ c ∈ callsM S, 0 ≤ c.1 ∧ c.1 < n
  step : ∀ (m : Nat), m < n → ∀ t ∈ R m, ∀ c ∈ callsM t, 0 ≤ c.1 ∧ c.1 < n
/-- found so far; calls still to look at: those of the terms on the stack, and cs -/
structure RInv (l : List Int) (st : List Trm) (cs : List (Int × Int)) : Prop where
  nd : l.Nodup
  rch : ∀ i ∈ l, Reach S R i
  src : ∀ t ∈ st, ∀ c ∈ callsM t, Reach S R c.1
  csr : ∀ c ∈ cs, Reach S R c.1
  s0 : S ∈ st ∨ ∀ c ∈ callsM S, c.1 ∈ l ∨ c ∈ cs
  sm : ∀ m : Nat, (m : Int) ∈ l → ∀ t ∈ R m, t ∈ st ∨ ∀ c ∈ callsM t, c.1 ∈ l ∨ c ∈ cs
variable {S R n}
theorem RInv.done {l : List Int} (h : RInv S R l [] []) (hn : Calls S R n) (i : Int) : i ∈ l ↔ Reach S R i := by
  refine ⟨h.rch i, fun r => ?_⟩
  induction r with
  | @start c hc =>
    rcases h.s0 with q | q
    · cases q
    · rcases q c hc with q | q
      · exact q
      · cases q
  | @step m t c hm ht hc ih =>
    rcases h.sm m ih t ht with q | q
    · cases q
    · rcases q c hc with q | q
      · exact q
      · cases q
end
noncomputable section
def rulesAt (ms : List (Str × List Trm)) (k : Nat) : List Trm := match ms[k]? with
  | some p => p.2
  | none => []
section
variable {t : Trn} {B : Nat} (hB : ∀ p ∈ t.modes, p.2.length ≤ B) (hc : Calls t.start (rulesAt t.modes) t.modes.length) (hm : t.modes.length + (B * t.modes.length + 1) ≤ 10000)
include hB hc hm
variable {f0 : List D → R Ow} (hf : ∀ u, (u = t.start ∨ ∃ p ∈ t.modes, u ∈ p.2) → f0 [encM u] = .ok (encCs (callsM u)) ∧ Nice (encM u) ∧ (encM u).depth ≤ 100)
include hf
end
end
end Mir
set_option Elab.async false
set_option linter.all false
set_option maxRecDepth 100000
set_option maxHeartbeats 4000000
namespace Mir
open PySem PySem.Spec L2
noncomputable section
end
end Mir
set_option Elab.async false
set_option linter.all false
set_option maxRecDepth 100000
set_option maxHeartbeats 4000000
namespace Mir
open PySem PySem.Spec L2
def brOf : List Rw → Str → Option (List Str)
  | [], _ => none
  | r :: rs, nm => if r.nm == nm then some r.br else brOf rs nm
mutual
def isOf (w : Wood) : Tr → Str → Bool
  | .mk nm _ bs, k => match brOf (rowsOf w k) nm with
    | none => false
    | some ks => decide (ks.length = bs.length) && isOfs w bs ks
def isOfs (w : Wood) : List Tr → List Str → Bool
  | [], _ => true
  | _ :: _, [] => true
  | b :: bs, k :: ks => isOf w b k && isOfs w bs ks
end
noncomputable section
def mkOf (kp : Bool) (ad mk : Int) : Int := if kp then ad + mk else ad
end
end Mir
set_option Elab.async false
set_option linter.all false
set_option maxRecDepth 100000
set_option maxHeartbeats 4000000
namespace Mir
open PySem PySem.Spec L2
def onStep (i : Int) (l : List Int) (c : Int × Int) : List Int := if c.2 = i ∧ c.1 ∉ l then l ++ [c.1] else l
def onAll (i : Int) (cs : List (Int × Int)) (l : List Int) : List Int := cs.foldl (onStep i) l
def risen (l : List Int) : List Int := l.mergeSort fun a b => decide (a ≤ b)
noncomputable section
/-- the modes in which terms call a branch, rising -/
def modesOn (i : Int) (Ts : List Trm) : List Int := risen (onAll i (callsMs Ts) [])
end
def trNm : Tr → Str
  | .mk n _ _ => n
def trBs : Tr → List Tr
  | .mk _ _ bs => bs
def noTm : Trm := .call 0 0
def noTr : Tr := .mk "" 0 []
/-- the rule of a mode for a name -/
def ruleT (t : Trn) (m : Int) (nm : Str) : Option Trm := match t.modes[m.toNat]? with
  | none => none
  | some p => match numOf (rowsOf t.wood p.1) nm 0 with
    | none => none
    | some i => p.2[i]?
def ruleF (t : Trn) (m : Int) (nm : Str) : Trm := (ruleT t m nm).getD noTm
mutual
def madB (mk : Int) (fs : List (Int → Tr)) : Trm → Tr
  | .call m b => (fs.getD b.toNat fun _ => noTr) m
  | .put nm kp ad ps => .mk nm (mkOf kp ad mk) (madBs mk fs ps)
def madBs (mk : Int) (fs : List (Int → Tr)) : List Trm → List Tr
  | [] => []
  | p :: ps => madB mk fs p :: madBs mk fs ps
end
mutual
def madT (t : Trn) : Tr → Trm → Tr
  | .mk _ mk bs => madB mk (madTs t bs)
def madTs (t : Trn) : List Tr → List (Int → Tr)
  | [] => []
  | b :: bs => (fun m => madT t b (ruleF t m (trNm b))) :: madTs t bs
end
/-- size and levels -/
def mesD (o : Tr) : D := .tuple [.int (sizeT o : Nat), .int (levT o : Nat)]
noncomputable section
end
end Mir
set_option Elab.async false
set_option linter.all false
set_option maxRecDepth 100000
set_option maxHeartbeats 4000000
namespace Mir
open PySem PySem.Spec L2
/-- the calls of a term fit branches of these kinds -/
def FitT (t : Trn) (ks : List Str) (T : Trm) : Prop := ∀ c ∈ callsM T, 0 ≤ c.1 ∧ 0 ≤ c.2 ∧ ∃ p, t.modes[c.1.toNat]? = some p ∧ ks[c.2.toNat]? = some p.1
structure GoodM (B : Nat) (T : Trm) : Prop where
  ok : okM T
  lev : levM T ≤ B
  few : sizeM T ≤ 1000
structure SndT (t : Trn) (B : Nat) : Prop where
  few : t.modes.length ≤ 1000
  wide : ∀ k nm ks, brOf (rowsOf t.wood k) nm = some ks → ks.length ≤ 1000
  lens : ∀ p ∈ t.modes, p.2.length = (rowsOf t.wood p.1).length
  fits : ∀ p ∈ t.modes, ∀ (i : Nat) (row : Rw) (T : Trm), (rowsOf t.wood p.1)[i]? = some row → p.2[i]? = some T → FitT t row.br T ∧ GoodM B T
/-- what below_of tells -/
def prsB (t : Trn) (Ts : List Trm) (i : Nat) (b : Tr) : List (D × D) := (modesOn (i : Int) Ts).map fun m => (PyData.int m, mesD (madT t b (ruleF t m (trNm b))))
def belL (t : Trn) (Ts : List Trm) : Nat → List Tr → List D
  | _, [] => []
  | i, b :: bs => .dict (prsB t Ts i b) :: belL t Ts (i + 1) bs
noncomputable section
end
end Mir
set_option Elab.async false
set_option linter.all false
set_option maxRecDepth 100000
set_option maxHeartbeats 4000000
namespace Mir
open PySem PySem.Spec L2
noncomputable section
@[simp] theorem R.map_exc {α β : Type} (f : α → β) (c : Str) : R.map f (.ex c) = .ex c := rfl
@[simp] theorem R.bind_exc {α β : Type} (f : α → R β) (c : Str) : R.bind (.ex c) f = .ex c := rfl
@[simp] theorem R.st_exc {α : Type} (env : Ev) (f : α → SR) (c : Str) : (R.ex c : R α).st env f = .ex c env := rfl
@[simp] theorem andThen_exc (c : Str) (env : Ev) (g : Ev → SR) : (SR.ex c env).andThen g = .ex c env := rfl
@[simp] theorem finR_exc (c : Str) (env : Ev) : finR (.ex c env) = .ex c := rfl
/-- what the walk of a branch needs -/
structure BrOk (t : Trn) (Ts : List Trm) (f5 f9 f10 f11 : List D → R Ow) (j : Nat) (b : Tr) : Prop where
  few : (modesOn (j : Int) Ts).length ≤ 1000
  h9 : f9 [trsD Ts, .int (j : Nat)] = .ok (.l ((modesOn (j : Int) Ts).map fun m => .d (.int m)))
  h5 : ∀ m ∈ modesOn (j : Int) Ts, f5 [encTn t, .int m, .str (trNm b)] = .ok (.d (encM (ruleF t m (trNm b))))
  h11 : f11 [encTn t, trsD ((modesOn (j : Int) Ts).map fun m => ruleF t m (trNm b)), encT b] = .ok (.l ((belL t ((modesOn (j : Int) Ts).map fun m => ruleF t m (trNm b)) 0 (trBs b)).map Ow.d))
  h10 : ∀ m ∈ modesOn (j : Int) Ts, f10 [encM (ruleF t m (trNm b)), .list (belL t ((modesOn (j : Int) Ts).map fun m => ruleF t m (trNm b)) 0 (trBs b))] = .ok (.d (mesD (madT t b (ruleF t m (trNm b)))))
end
end Mir
set_option Elab.async false
set_option linter.all false
set_option maxRecDepth 100000
set_option maxHeartbeats 4000000
namespace Mir
open PySem PySem.Spec L2
/-- names below sixteen, told apart -/
def KnInj (kn : Nat → Str) : Prop := ∀ i j, i < 16 → j < 16 → kn i = kn j → i = j
theorem WdOk.kinds {w : Wood} {kn : Nat → Str} (h : WdOk w kn) (hk : KnInj kn) : (w.map (·.1)).Nodup := by
  unfold List.Nodup
  rw [List.pairwise_iff_getElem]
  intro i j hi hj hij e
  rw [List.length_map] at hi hj
  have hf := h.few
  rw [List.getElem_map, List.getElem_map] at e
  have a := h.at_ i _ (List.getElem?_eq_getElem hi)
  have b := h.at_ j _ (List.getElem?_eq_getElem hj)
  have e2 : w[i].1 = w[j].1 := e
  rw [a, b] at e2
  have := hk i j (by omega) (by omega) e2
  omega
theorem RwNm.nodup {kn : Nat → Str} {rs : List Rw} (h : RwNm kn rs) (hl : rs.length ≤ 3) (hk : KnInj kn) : (rs.map (·.nm)).Nodup := by
  obtain ⟨b, hb, hp⟩ := h
  rw [hp.nodup_iff]
  unfold List.Nodup
  rw [List.pairwise_iff_getElem]
  intro i j hi hj hij e
  rw [List.length_map, List.length_range] at hi hj
  rw [List.getElem_map, List.getElem_map, List.getElem_range, List.getElem_range] at e
  have := hk _ _ (by omega) (by omega) e
  omega
theorem rowsK_or (w : Wood) (k : Str) : rowsOf w k = [] ∨ ∃ p ∈ w, p.1 = k ∧ rowsOf w k = p.2 := by
  induction w with
  | nil => exact .inl rfl
  | cons p w ih =>
    rw [rowsOf]
    cases c : p.1 == k with
    | true => exact .inr ⟨p, List.mem_cons_self, by simpa using c, rfl⟩
    | false =>
      rcases ih with h | ⟨q, h1, h2, h3⟩
      · exact .inl h
      · exact .inr ⟨q, List.mem_cons_of_mem _ h1, h2, h3⟩
theorem brOf_in {nm : Str} : ∀ {rs : List Rw} {ks : List Str}, brOf rs nm = some ks → ∃ r ∈ rs, r.nm = nm ∧ r.br = ks
  | [], ks, h => by cases h
  | r :: rs, ks, h => by
    rw [brOf] at h
    split at h
    · rename_i c
      exact ⟨r, List.mem_cons_self, by simpa using c, Option.some.inj h⟩
    · obtain ⟨q, h1, h2⟩ := brOf_in h
      exact ⟨q, List.mem_cons_of_mem _ h1, h2⟩
/-- what the later laws need of a drawn turning -/
structure TnGd (t : Trn) : Prop where
  snd : SndT t 3
  ok : TnOk t
  kinds : (t.wood.map (·.1)).Nodup
  rows : ∀ p ∈ t.wood, (p.2.map (·.nm)).Nodup ∧ (∃ r ∈ p.2, r.br = []) ∧ ∀ r ∈ p.2, PyData.strOk r.nm = true ∧ r.br.length ≤ 4 ∧ ∀ z ∈ r.br, ∃ q ∈ t.wood, q.1 = z
  mkind : ∀ p ∈ t.modes, ∃ q ∈ t.wood, q.1 = p.1
  some : 1 ≤ t.wood.length
  stop : ∃ N, N ≤ 36 ∧ tab (mds t) (N + 1) = tab (mds t) N ∧ ∀ i, i < N → tab (mds t) (i + 1) ≠ tab (mds t) i
theorem TnMade.gd {t : Trn} {kn : Nat → Str} (m : TnMade t) (hw : WdOk t.wood kn) (hk : KnInj kn) : TnGd t := by
  have ok := m.ok hw
  refine ⟨⟨by have := m.few; omega, fun k nm ks h => ?_, fun p hp => (m.rules p hp).1, fun p hp i row T hr hT => ?_⟩, ok, hw.kinds hk, fun p hp => ?_, m.kind, hw.one, ?_⟩
  · obtain ⟨r, hr, _, e⟩ := brOf_in h
    rcases rowsK_or t.wood k with z | ⟨p, hp, _, e2⟩
    · rw [z] at hr; cases hr
    · rw [e2] at hr
      have := ((hw.rows p hp).2.2 r hr).2.1
      rw [← e]
      omega
  · obtain ⟨a, b, c, d⟩ := (m.rules p hp).2 i row T hr hT
    refine ⟨fun z hz => ?_, a, b, by omega⟩
    obtain ⟨x, y, e, q, h1, h2⟩ := d z hz
    subst e
    rw [List.getElem?_map] at h1
    cases hx : t.modes[x]? with
    | none => rw [hx] at h1; cases h1
    | some p' =>
      rw [hx] at h1
      have e : p'.1 = q := Option.some.inj h1
      exact ⟨by show (0 : Int) ≤ (x : Nat); omega, by show (0 : Int) ≤ (y : Nat); omega, p', by rw [Int.toNat_natCast]; exact hx, by rw [Int.toNat_natCast, e]; exact h2⟩
  · obtain ⟨a, b, c⟩ := hw.rows p hp
    refine ⟨(hw.rnm p hp).nodup a hk, b, fun r hr => ?_⟩
    obtain ⟨c1, c2, c3⟩ := c r hr
    refine ⟨c1, c2, fun z hz => ?_⟩
    obtain ⟨j, hj, e⟩ := c3 z hz
    exact ⟨t.wood[j], List.getElem_mem hj, by rw [e]; exact hw.at_ j _ (List.getElem?_eq_getElem hj)⟩
  · obtain ⟨N, h1, h2, h3⟩ := tab_stop (mds t) (mds_ok ok)
    refine ⟨N, ?_, h2, h3⟩
    have each : ∀ s ∈ tab (mds t) 0, cS s ≤ 9 := fun s hs => by
      obtain ⟨md, hm, rfl⟩ := List.mem_map.mp (show s ∈ (mds t).map fun m => metOf ((bares m).map (stIn [])) from hs)
      obtain ⟨p, hp, rfl⟩ := List.mem_map.mp hm
      obtain ⟨h1, _⟩ := ok.bare p hp
      obtain ⟨r, rest, e⟩ : ∃ r rest, bares (mdOf t.wood p) = r :: rest := by
        cases e : bares (mdOf t.wood p) with
        | nil => exact absurd e h1
        | cons r rest => exact ⟨r, rest, rfl⟩
      have le : leS (metOf ((bares (mdOf t.wood p)).map (stIn []))) (stIn [] r) := metOf_le (by rw [e]; simp)
      have hr : r ∈ p.2 := bares_in r (by rw [e]; simp)
      obtain ⟨i, hi, ei⟩ := List.mem_iff_getElem.mp hr
      obtain ⟨q1, q2⟩ := m.rules p hp
      have := (q2 i _ r (List.getElem?_eq_getElem (by omega)) (by rw [List.getElem?_eq_getElem hi, ei])).2.2.1
      have a := (leS_c le).1
      have b := stIn_c r
      omega
    have := cSs_le (n := 9) (ss := tab (mds t) 0) each
    rw [tab_len] at this
    have l : (mds t).length = t.modes.length := List.length_map _
    rw [l] at this
    have := m.few
    have : 9 * t.modes.length ≤ 9 * 4 := Nat.mul_le_mul_left _ this
    omega
end Mir
set_option Elab.async false
set_option linter.all false
set_option maxRecDepth 100000
set_option maxHeartbeats 4000000
namespace Mir
open PySem PySem.Spec L2
def lets (l : List Nat) : Str := tx (l.map fun d => 97 + d)
def mixI (c j : Int) : Int :=
  let n1 := c % 2147483647 + 48271 * (j + 1)
  let n2 := (n1 * n1 + 69621 * j) % 2147483647
  (n2 * n2 + 16807 * j + 1) % 2147483647
noncomputable section
/-- eight names, all unlike -/
structure Names8 (ls : List (List Nat)) : Prop where
  eight : ls.length = 8
  nd : ls.Nodup
  lets : ∀ l ∈ ls, ∀ d ∈ l, d < 26
  some : ∀ l ∈ ls, 1 ≤ l.length ∧ l.length ≤ 8
end
end Mir
set_option Elab.async false
set_option linter.all false
set_option maxRecDepth 100000
set_option maxHeartbeats 4000000
namespace Mir
open PySem PySem.Spec L2
noncomputable section
end
end Mir
set_option Elab.async false
set_option linter.all false
set_option maxRecDepth 100000
set_option maxHeartbeats 4000000
namespace Mir
open PySem PySem.Spec L2
/-- names at hand: eight, all unlike -/
structure NamesD (NS : D) (N : Nat → Str) : Prop where
  ix : ∀ i : Nat, i < 8 → gIx NS (.int (i : Nat)) = some (.str (N i))
  ne : ∀ i j : Nat, i < 8 → j < 8 → i ≠ j → N i ≠ N j
  ok : ∀ i : Nat, i < 8 → PyData.strOk (N i) = true
end Mir
set_option Elab.async false
set_option linter.all false
set_option maxRecDepth 100000
set_option maxHeartbeats 4000000
namespace Mir
open PySem PySem.Spec L2
structure NcTn (t : Trn) (B : Nat) : Prop where
  kinds : ∀ p ∈ t.wood, PyData.strOk p.1 = true
  rows : ∀ p ∈ t.wood, ∀ r ∈ p.2, PyData.strOk r.nm = true ∧ ∀ z ∈ r.br, PyData.strOk z = true
  start : okM t.start ∧ levM t.start ≤ B
  mkinds : ∀ p ∈ t.modes, PyData.strOk p.1 = true
  rules : ∀ p ∈ t.modes, ∀ T ∈ p.2, okM T ∧ levM T ≤ B
end Mir
set_option Elab.async false
set_option linter.all false
set_option maxRecDepth 100000
set_option maxHeartbeats 4000000
namespace Mir
open PySem PySem.Spec L2
noncomputable section
end
end Mir
set_option Elab.async false
set_option linter.all false
set_option maxRecDepth 100000
set_option maxHeartbeats 4000000
namespace Mir
open PySem PySem.Spec L2
/-- a wood whose kinds and rows are told apart, each kind with a row without branches -/
structure WoodOk (w : Wood) : Prop where
  some : 1 ≤ w.length ∧ w.length ≤ 3
  kinds : (w.map (·.1)).Nodup
  kok : ∀ p ∈ w, PyData.strOk p.1 = true
  few : ∀ p ∈ w, p.2.length ≤ 3
  dist : ∀ p ∈ w, (p.2.map (·.nm)).Nodup
  rok : ∀ p ∈ w, ∀ r ∈ p.2, PyData.strOk r.nm = true ∧ r.br.length ≤ 3 ∧ ∀ z ∈ r.br, z ∈ w.map (·.1)
  leaf : ∀ p ∈ w, ∃ r ∈ p.2, r.br = []
noncomputable section
section
variable {f13 : List D → R Ow} (h13 : ∀ (c : Int) (j : Nat), j ≤ 1000 → f13 [.int c, .int (j : Nat)] = .ok (.d (.int (mixI c (j : Nat))))) {N : Nat → Str} {NS : PyData} (hN : NamesD NS N) {n : Nat} (hn : 1 ≤ n ∧ n ≤ 3) (c : Int)
include h13 hN hn
end
end
end Mir
set_option Elab.async false
set_option linter.all false
set_option maxRecDepth 100000
set_option maxHeartbeats 4000000
namespace Mir.W3
open PySem PySem.Spec L2
noncomputable section
section
variable {f13 : List D → R Ow} (h13 : ∀ (c : Int) (j : Nat), j ≤ 1000 → f13 [.int c, .int (j : Nat)] = .ok (.d (.int (mixI c (j : Nat))))) {N : Nat → Str} {NS : PyData} (hN : NamesD NS N) {n : Nat} (hn : 1 ≤ n ∧ n ≤ 3) (c : Int)
include h13 hN hn
end
end
end Mir.W3
set_option Elab.async false
set_option linter.all false
set_option maxRecDepth 100000
set_option maxHeartbeats 4000000
namespace Mir
open PySem PySem.Spec L2
instance : Inhabited Trm := ⟨noTm⟩
structure DrawnM (cs : List (Int × Int)) (d : Nat) (T : Trm) : Prop where
  ok : okM T
  lev : levM T ≤ d + 1
  size : sizeM T + 1 ≤ 2 ^ (d + 1)
  calls : ∀ c ∈ callsM T, c ∈ cs
def csD (cs : List (Int × Int)) : PyData := .list (cs.map encC)
noncomputable section
end
end Mir
set_option Elab.async false
set_option linter.all false
set_option maxRecDepth 100000
set_option maxHeartbeats 4000000
namespace Mir
open PySem PySem.Spec L2
def clsAt (bs os : List Str) (b : Nat) : List (Int × Int) := ((List.range os.length).filter fun m => os.getD m "" == bs.getD b "").map fun m : Nat => ((m : Int), (b : Int))
def clsOf (bs os : List Str) : List (Int × Int) := ((List.range bs.length).map (clsAt bs os)).flatten
noncomputable section
def osD (os : List Str) : PyData := .list (os.map PyData.str)
/-- branches, as a list or a tuple -/
structure IsBr (BD : D) (bs : List Str) : Prop where
  len : gLen [BD] = some (.d (.int (bs.length : Nat)))
  ix : ∀ b, b < bs.length → gIx BD (.int (b : Nat)) = some (.str (bs.getD b ""))
def small250 (x : Int) : Prop := x.natAbs < 2 ^ 250
end
end Mir
set_option Elab.async false
set_option linter.all false
set_option maxRecDepth 100000
set_option maxHeartbeats 4000000
namespace Mir
open PySem PySem.Spec L2
structure TnDrawn (t : Trn) (os : List Str) : Prop where
  cnt : 1 ≤ os.length ∧ os.length ≤ 4
  kinds : ∀ z ∈ os, z ∈ t.wood.map (·.1)
  len : t.modes.length = os.length
  mode : ∀ (m : Nat) (p : Str × List Trm), t.modes[m]? = some p → p.1 = os.getD m "" ∧ p.2.length = (rowsOf t.wood p.1).length ∧ ∀ (i : Nat) (row : Rw) (T : Trm), (rowsOf t.wood p.1)[i]? = some row → p.2[i]? = some T → DrawnM (clsOf row.br os) 2 T
  start : DrawnM (clsOf [(t.wood.map (·.1)).getD 0 ""] os) 2 t.start
noncomputable section
section
variable {f12 f13 f17 f18 : List D → R Ow} {SC NS : PyData} {cell : Nat → Int} (h12 : ∀ k : Nat, f12 [SC, .int (k : Nat)] = .ok (.d (.int (cell k))))
  (h17 : ∀ (c : Int) (cs : List (Int × Int)) (kp : Bool), ∃ T, DrawnM cs 2 T ∧ f17 [.int c, .int 0, .int 2, csD cs, NS, .bool kp] = .ok (.d (encM T)))
  (h18 : ∀ (BD : D) (bs os : List Str), IsBr BD bs → bs.length ≤ 3 → os.length ≤ 10 → f18 [BD, osD os] = .ok (.l ((clsOf bs os).map fun c => .d (encC c))))
include h12 h17 h18
variable (h13 : ∀ (c : Int) (j : Nat), j ≤ 1000 → f13 [.int c, .int (j : Nat)] = .ok (.d (.int (mixI c (j : Nat)))))
include h13
end
end
end Mir
set_option Elab.async false
set_option linter.all false
set_option maxRecDepth 100000
set_option maxHeartbeats 4000000
namespace Mir
open PySem PySem.Spec L2
structure Nd where
  kind : Str
  lev : Nat
  row : Option Rw
  mark : Int
  kids : List Nat
structure NdOk (w : Wood) (top : Nat) (ns : List Nd) (i : Nat) (n : Nd) : Prop where
  kind : n.kind ∈ w.map (·.1)
  lev : 1 ≤ n.lev ∧ n.lev ≤ top
  mark : small250 n.mark
  bare : n.row = none → n.kids = []
  full : ∀ r, n.row = some r → r ∈ rowsOf w n.kind ∧ r.br ≠ [] ∧ n.kids.length = r.br.length ∧ ∀ (j k : Nat), n.kids[j]? = some k → i < k ∧ ∃ c, ns[k]? = some c ∧ r.br[j]? = some c.kind ∧ c.lev = n.lev + 1
structure GInv (w : Wood) (top : Nat) (ns : List Nd) (bare : List Nat) : Prop where
  root : ∃ n0, ns[0]? = some n0 ∧ n0.kind = (w.map (·.1)).getD 0 ("" : Str)
  each : ∀ (i : Nat) (n : Nd), ns[i]? = some n → NdOk w top ns i n
  bnd : bare.Nodup
  bare : ∀ b ∈ bare, ∃ n, ns[b]? = some n ∧ n.row = none
noncomputable section
end
end Mir
set_option Elab.async false
set_option linter.all false
set_option maxRecDepth 100000
set_option maxHeartbeats 4000000
namespace Mir
open PySem PySem.Spec L2
noncomputable section
end
end Mir
set_option Elab.async false
set_option linter.all false
set_option maxRecDepth 100000
set_option maxHeartbeats 4000000
namespace Mir
open PySem PySem.Spec L2
noncomputable section
section
variable {w : Wood} (hw : WoodOk w) (CE : D) (top : Nat)
include hw
variable {f13 f20 : List D → R Ow} (h13 : ∀ (c : Int) (j : Nat), j ≤ 1000 → f13 [.int c, .int (j : Nat)] = .ok (.d (.int (mixI c (j : Nat))))) (h20 : ∀ c z : Int, ∃ x : Int, small250 x ∧ f20 [.int c, .int z] = .ok (.d (.int x)))
include h13 h20
end
end
end Mir
set_option Elab.async false
set_option linter.all false
set_option maxRecDepth 100000
set_option maxHeartbeats 4000000
namespace Mir
open PySem PySem.Spec L2
mutual
def smallT : Tr → Prop
  | .mk _ k bs => small250 k ∧ smallTs bs
def smallTs : List Tr → Prop
  | [] => True
  | b :: bs => smallT b ∧ smallTs bs
end
structure GoodT (w : Wood) (top : Nat) (n : Nd) (t : Tr) : Prop where
  is : isOf w t n.kind = true
  lev : levT t + n.lev ≤ top + 1
  small : smallT t
  ok : okT t
noncomputable section
section
variable {w : Wood} (hw : WoodOk w) {top : Nat} {ns : List Nd} {bare : List Nat} (hI : GInv w top ns bare) (hl : ns.length ≤ 200) {f13 : List D → R Ow} (h13 : ∀ (c : Int) (j : Nat), j ≤ 1000 → f13 [.int c, .int (j : Nat)] = .ok (.d (.int (mixI c (j : Nat)))))
include hw hI hl h13
end
end
end Mir
set_option Elab.async false
set_option linter.all false
set_option maxRecDepth 100000
set_option maxHeartbeats 4000000
namespace Mir
open PySem PySem.Spec L2
noncomputable section
end
end Mir
set_option Elab.async false
set_option linter.all false
set_option maxRecDepth 100000
set_option maxHeartbeats 4000000
namespace Mir
open PySem PySem.Spec L2
section
variable {t : Trn} (gd : TnGd t)
include gd
end
section
variable {t : Trn} (gd : TnGd t)
include gd
end
/-- what a mode makes of a tree -/
def outT (t : Trn) (m : Nat) (u : Tr) : Tr := madT t u (ruleF t (m : Int) (trNm u))
def trAt : Tr → List Nat → Option Tr
  | u, [] => some u
  | .mk _ _ bs, j :: q => match bs[j]? with
    | some b => trAt b q
    | none => none
abbrev Lab := Str × Int × Nat
def labT : Tr → Lab
  | .mk nm k bs => (nm, k, bs.length)
end Mir
set_option Elab.async false
set_option linter.all false
set_option maxRecDepth 100000
set_option maxHeartbeats 4000000
namespace Mir
open PySem PySem.Spec L2
section
variable {t : Trn} (gd : TnGd t)
include gd
end
section
variable {t : Trn} (gd : TnGd t)
include gd
end
end Mir
set_option Elab.async false
set_option linter.all false
set_option maxRecDepth 100000
set_option maxHeartbeats 4000000
namespace Mir
open PySem PySem.Spec L2
noncomputable section
end
end Mir
set_option Elab.async false
set_option linter.all false
set_option maxRecDepth 100000
set_option maxHeartbeats 4000000
namespace Mir
open PySem PySem.Spec L2
noncomputable section
end
end Mir
set_option Elab.async false
set_option linter.all false
set_option maxRecDepth 100000
set_option maxHeartbeats 4000000
namespace Mir
open PySem PySem.Spec L2
noncomputable section
section
variable {t : Trn} {m N : Nat} {f0 f9 f11 f20 : List D → R Ow}
end
end
end Mir
set_option Elab.async false
set_option linter.all false
set_option maxRecDepth 100000
set_option maxHeartbeats 4000000
namespace Mir
open PySem PySem.Spec L2
noncomputable section
end
end Mir
set_option Elab.async false
set_option linter.all false
set_option maxRecDepth 100000
set_option maxHeartbeats 4000000
namespace Mir
open PySem PySem.Spec L2
noncomputable section
end
end Mir
set_option Elab.async false
set_option linter.all false
set_option maxRecDepth 100000
set_option maxHeartbeats 4000000
namespace Mir
open PySem PySem.Spec L2
section
variable {t : Trn} (gd : TnGd t)
include gd
end
/-- what a split must be -/
structure SplitAt (t : Trn) (m : Nat) (q : List Nat) (k : Nat) (v u : Tr) : Prop where
  kind : ∀ p, t.modes[m]? = some p → isOf t.wood v p.1 = true ∧ isOf t.wood u p.1 = true
  lev : levT v = 1 ∧ levT u ≤ k + 1 ∧ (if levT v < levT u then levT u else levT v) = k + 1
  part : ∃ y z, trAt (outT t m v) q = some y ∧ trAt (outT t m u) q = some z ∧ labT y ≠ labT z
section
variable {t : Trn} (gd : TnGd t)
include gd
end
end Mir
set_option Elab.async false
set_option linter.all false
set_option maxRecDepth 100000
set_option maxHeartbeats 4000000
namespace Mir
open PySem PySem.Spec L2
section
variable {t : Trn} (gd : TnGd t)
include gd
end
end Mir
set_option Elab.async false
set_option linter.all false
set_option maxRecDepth 100000
set_option maxHeartbeats 4000000
namespace Mir
open PySem PySem.Spec L2
noncomputable section
end
end Mir
set_option Elab.async false
set_option linter.all false
set_option maxRecDepth 100000
set_option maxHeartbeats 4000000
namespace Mir
open PySem PySem.Spec L2
noncomputable section
end
end Mir
set_option Elab.async false
set_option linter.all false
set_option maxRecDepth 100000
set_option maxHeartbeats 4000000
namespace Mir
open PySem PySem.Spec L2
structure Dm where
  pl : List Nat
  tm : Option (Int × Int)
  kd : Str
noncomputable section
end
end Mir
set_option Elab.async false
set_option linter.all false
set_option maxRecDepth 100000
set_option maxHeartbeats 4000000
namespace Mir
open PySem PySem.Spec L2
noncomputable section
end
end Mir
set_option Elab.async false
set_option linter.all false
set_option maxRecDepth 100000
set_option maxHeartbeats 4000000
namespace Mir
open PySem PySem.Spec L2
noncomputable section
end
end Mir
set_option Elab.async false
set_option linter.all false
set_option maxRecDepth 100000
set_option maxHeartbeats 4000000
namespace Mir
open PySem PySem.Spec L2
/-- a call that the law has to give: mode, branch, the kind of what comes -/
structure Cl3 where
  m : Nat
  b : Nat
  kd : Str
noncomputable section
end
end Mir
set_option Elab.async false
set_option linter.all false
set_option maxRecDepth 100000
set_option maxHeartbeats 4000000
namespace Mir
open PySem PySem.Spec L2
noncomputable section
end
end Mir
set_option Elab.async false
set_option linter.all false
set_option maxRecDepth 100000
set_option maxHeartbeats 4000000
namespace Mir
open PySem PySem.Spec L2
noncomputable section
theorem forL_nx {g : D → Ev → Option Ev} {f : Ev → SR} {d : D} {ds : List D} {env env1 env2 : Ev} (hg : g d env = some env1) (hf : f env1 = .nx env2) : forL g f (d :: ds) env = forL g f ds env2 := by
  rw [forL, hg]
  simp only
  rw [hf]
end
end Mir
set_option Elab.async false
set_option linter.all false
set_option maxRecDepth 100000
set_option maxHeartbeats 4000000
namespace Mir
open PySem PySem.Spec L2
noncomputable section
def joinWs (s : Wo) : List (List Wo) → List Wo
  | [] => []
  | p :: ps => p ++ (ps.map fun q => s :: q).flatten
def splitA (s : Wo) (cur : List Wo) : List Wo → List (List Wo)
  | [] => [cur]
  | w :: ws => if w = s then cur :: splitA s [] ws else splitA s (cur ++ [w]) ws
theorem split_piece {s : Wo} : ∀ {p : List Wo} (cur rest : List Wo), s ∉ p → splitA s cur (p ++ rest) = splitA s (cur ++ p) rest
  | [], cur, rest, _ => by simp
  | w :: p, cur, rest, h => by
    have hw : w ≠ s := fun e => h (by rw [e]; exact List.mem_cons_self)
    rw [List.cons_append, splitA, if_neg hw, split_piece _ _ fun m => h (List.mem_cons_of_mem _ m), List.append_assoc]
    rfl
theorem split_rest {s : Wo} : ∀ (ps : List (List Wo)) (cur : List Wo), (∀ p ∈ ps, s ∉ p) → splitA s cur ((ps.map fun q => s :: q).flatten) = cur :: ps
  | [], cur, _ => by simp [splitA]
  | p :: ps, cur, h => by
    rw [List.map_cons, List.flatten_cons, List.cons_append, splitA, if_pos rfl, split_piece _ _ (h p List.mem_cons_self), List.nil_append, split_rest ps p fun q hq => h q (List.mem_cons_of_mem _ hq)]
theorem split_join {s : Wo} {ps : List (List Wo)} (h : ∀ p ∈ ps, s ∉ p) (hn : ps ≠ []) : splitA s [] (joinWs s ps) = ps := by
  cases ps with
  | nil => exact absurd rfl hn
  | cons p ps =>
    rw [joinWs, split_piece _ _ (h p List.mem_cons_self), List.nil_append, split_rest ps p fun q hq => h q (List.mem_cons_of_mem _ hq)]
abbrev rowWD (ws : List Wo) : D := .list (ws.map fun w => .str (tx w))
abbrev rowWO (ws : List Wo) : Ow := .l (ws.map fun w => .d (.str (tx w)))
abbrev partB : Ev → SR := (sIf (eB (eBin gEq (eVar 3) (eVar 1)) asB)
    (sApp 2 (eLst aNil))
    (sPApp (pIx (pVar 2) (eB (eC (.int 1)) gNeg)) (eM (eVar 3) Ow.d)))
abbrev bParted : Ev → SR := (sSeq (sSet 2 (eLstO (oCons (eLst aNil) oNil)))
    (sSeq (sFor (eB (eVar 0) itD) (gtName 3)
    partB)
    (sRetV 2)))
theorem gEqW (a b : Wo) : gEq (.str (tx a)) (.str (tx b)) = some (.bool (decide (a = b))) := by
  show (some (PyData.bool (tx a == tx b)) : Option D) = _
  congr 2
  by_cases h : a = b
  · subst h; simp
  · have : tx a ≠ tx b := fun e => h (tx_inj e)
    simp [h, this]
theorem sPApp_ofW {p : Ev → R Pl} {f : Ev → R Ow} {env : Ev} {os : List Ow} {bk : Ow → Ev} {r : Ow} (hp : p env = .ok (.l os, bk)) (hf : f env = .ok r) (hl : os.length < sizeLine) : sPApp p f env = .nx (bk (.l (os ++ [r]))) := by
  unfold sPApp ownP
  rw [hp, R.st_ok]
  simp only
  rw [hf, R.st_ok, if_pos hl]
theorem part_step (RD : D) (s w : Wo) (P : List (List Wo)) (cur : List Wo) (x3 : Option Ow) (hP : P.length ≤ 100000) (hc : cur.length ≤ 100000) :
    partB [some (.d RD), some (.d (.str (tx s))), some (.l ((P ++ [cur]).map rowWO)), some (.d (.str (tx w)))] = .nx [some (.d RD), some (.d (.str (tx s))), some (.l ((if w = s then P ++ [cur] ++ [[]] else P ++ [cur ++ [w]]).map rowWO)), some (.d (.str (tx w)))] := by
  have q := gEqW w s
  have ct : (eB (eBin gEq (eVar 3) (eVar 1)) asB) [some (.d RD), some (.d (.str (tx s))), some (.l ((P ++ [cur]).map rowWO)), some (.d (.str (tx w)))] = .ok (decide (w = s)) := by
    generalize ((P ++ [cur]).map rowWO) = PO
    simp [q]
  show sIf _ _ _ _ = _
  rw [sIf_eq, ct, R.st_ok]
  have len : ((P ++ [cur]).map rowWO).length = P.length + 1 := by simp
  by_cases h : w = s
  · rw [decide_eq_true h, if_pos rfl, if_pos h, List.map_append (l₂ := [[]])]
    generalize ((P ++ [cur]).map rowWO) = PO at *
    have : PO.length < 16777216 := by omega
    simp [ownL, sizeLine_eq, this, rowWO]
  · rw [decide_eq_false h, if_neg (by simp), if_neg h]
    have gx : ixN ((P ++ [cur]).map rowWO).length (-1) = some P.length := by
      rw [len]
      unfold ixN
      rw [if_neg (by omega), if_pos (by omega)]
      congr 1
      omega
    have at1 : ((P ++ [cur]).map rowWO)[P.length]? = some (rowWO cur) := by
      rw [List.map_append, List.getElem?_append_right (by simp)]
      simp
    obtain ⟨E, hE⟩ : ∃ E : Ev, E = [some (.d RD), some (.d (.str (tx s))), some (.l ((P ++ [cur]).map rowWO)), some (.d (.str (tx w)))] := ⟨_, rfl⟩
    have hp : pIx (pVar 2) (eB (eC (.int 1)) gNeg) E = .ok (rowWO cur, fun o' => E.set 2 (some (.l (((P ++ [cur]).map rowWO).set P.length o')))) := by
      have v2 : pVar 2 E = .ok (.l ((P ++ [cur]).map rowWO), fun o' => E.set 2 (some o')) := by rw [hE]; rfl
      unfold pIx
      rw [v2, R.bind_ok]
      have ng : (eB (eC (.int 1)) gNeg) E = .ok (.int (-1)) := rfl
      rw [ng, R.bind_ok]
      unfold ixP
      simp only [gx, at1]
    rw [← hE]
    rw [sPApp_ofW hp (r := .d (.str (tx w))) (by rw [hE]; generalize ((P ++ [cur]).map rowWO) = PO; simp) (by rw [List.length_map, sizeLine_eq]; omega), hE]
    have e : ((P ++ [cur]).map rowWO).set P.length (.l ((cur.map fun w => Ow.d (.str (tx w))) ++ [.d (.str (tx w))])) = (P ++ [cur ++ [w]]).map rowWO := by
      rw [List.map_append, List.map_append, List.set_append_right _ _ (by simp)]
      simp [rowWO]
    rw [e]
    rfl
theorem part_loop (RD : D) (s : Wo) : ∀ (ws : List Wo) (P : List (List Wo)) (cur : List Wo) (x3 : Option Ow), P.length + ws.length ≤ 100000 → cur.length + ws.length ≤ 100000 → ∃ y3, forL (gtName 3) partB (ws.map fun w => .str (tx w)) [some (.d RD), some (.d (.str (tx s))), some (.l ((P ++ [cur]).map rowWO)), x3] = .nx [some (.d RD), some (.d (.str (tx s))), some (.l ((P ++ splitA s cur ws).map rowWO)), y3]
  | [], P, cur, x3, _, _ => ⟨x3, rfl⟩
  | w :: ws, P, cur, x3, h1, h2 => by
    rw [List.length_cons] at h1 h2
    have st := part_step RD s w P cur x3 (by omega) (by omega)
    by_cases h : w = s
    · rw [if_pos h] at st
      obtain ⟨y3, e⟩ := part_loop RD s ws (P ++ [cur]) [] (some (.d (.str (tx w)))) (by simp; omega) (by simp; omega)
      refine ⟨y3, ?_⟩
      rw [splitA, if_pos h, List.map_cons, forL_nx (g := gtName 3) (env1 := [some (.d RD), some (.d (.str (tx s))), some (.l ((P ++ [cur]).map rowWO)), some (.d (.str (tx w)))]) rfl st, e, List.append_assoc]
      rfl
    · rw [if_neg h] at st
      obtain ⟨y3, e⟩ := part_loop RD s ws P (cur ++ [w]) (some (.d (.str (tx w)))) (by omega) (by simp; omega)
      refine ⟨y3, ?_⟩
      rw [splitA, if_neg h, List.map_cons, forL_nx (g := gtName 3) (env1 := [some (.d RD), some (.d (.str (tx s))), some (.l ((P ++ [cur]).map rowWO)), some (.d (.str (tx w)))]) rfl st, e]
theorem parted_fin (ws : List Wo) (s : Wo) (hl : ws.length ≤ 100000) : finR (bParted (envOf 2 [rowWD ws, .str (tx s)])) = .ok (.l ((splitA s [] ws).map rowWO)) := by
  have he : envOf 2 [rowWD ws, .str (tx s)] = [some (.d (rowWD ws)), some (.d (.str (tx s))), none, none] := rfl
  rw [he]
  refine fin_step (env1 := [some (.d (rowWD ws)), some (.d (.str (tx s))), some (.l (([] ++ [[]]).map rowWO)), none]) (by
    generalize rowWD ws = RD
    simp [sizeLine_eq, rowWO]) ?_
  obtain ⟨y3, e⟩ := part_loop (rowWD ws) s ws [] [] none (by simpa using hl) (by simpa using hl)
  have it : (eB (eVar 0) itD) [some (.d (rowWD ws)), some (.d (.str (tx s))), some (.l (([] ++ [[]]).map rowWO)), none] = .ok (ws.map fun w => .str (tx w)) := rfl
  refine fin_step (by rw [sFor_eq, it, R.st_ok]; exact e) ?_
  rfl
end
end Mir
set_option Elab.async false
set_option linter.all false
set_option maxRecDepth 100000
set_option maxHeartbeats 4000000
namespace Mir
open PySem PySem.Spec L2
noncomputable section
def NmW (w : Wo) : Prop := w ≠ [] ∧ (∀ x ∈ w, isL x = true) ∧ w.length ≤ 8
theorem NmW.ok {w : Wo} (h : NmW w) : PyData.strOk (tx w) = true := strOk_tx fun c hc => isL_small (h.2.1 c hc)
abbrev WdR := Wo × List Wo
abbrev WdK := Wo × List WdR
def rowWs (r : WdR) : List Wo := r.1 :: (if r.2 = [] then [] else [40] :: (r.2 ++ [[41]]))
def kindWs (k : WdK) : List Wo := k.1 :: [61] :: joinWs [124] (k.2.map rowWs)
def woodWs (w : List WdK) : List Wo := joinWs [59] (w.map kindWs)
def toRw (r : WdR) : Rw := ⟨tx r.1, r.2.map tx⟩
def toKd (k : WdK) : Str × List Rw := (tx k.1, k.2.map toRw)
def toWd (w : List WdK) : Wood := w.map toKd
structure OkR (r : WdR) : Prop where
  nm : NmW r.1
  few : r.2.length ≤ 4
  br : ∀ b ∈ r.2, NmW b
structure OkK (k : WdK) : Prop where
  nm : NmW k.1
  some : k.2 ≠ []
  few : k.2.length ≤ 100
  rows : ∀ r ∈ k.2, OkR r
theorem sign_not_nm {c : Nat} (h : isL c = false) {w : Wo} (hw : NmW w) : w ≠ [c] := fun e => by
  have := hw.2.1 c (by rw [e]; exact List.mem_singleton.mpr rfl)
  rw [h] at this
  cases this
theorem rowWs_mem {r : WdR} (h : OkR r) {w : Wo} (hw : w ∈ rowWs r) : NmW w ∨ w = [40] ∨ w = [41] := by
  unfold rowWs at hw
  rcases List.mem_cons.mp hw with rfl | hw
  · exact .inl h.nm
  · split at hw
    · cases hw
    · rcases List.mem_cons.mp hw with rfl | hw
      · exact .inr (.inl rfl)
      · rcases List.mem_append.mp hw with hw | hw
        · exact .inl (h.br w hw)
        · exact .inr (.inr (List.mem_singleton.mp hw))
theorem joinWs_mem {s w : Wo} {ps : List (List Wo)} (h : w ∈ joinWs s ps) : w = s ∨ ∃ p ∈ ps, w ∈ p := by
  cases ps with
  | nil => cases h
  | cons p ps =>
    rw [joinWs] at h
    rcases List.mem_append.mp h with h | h
    · exact .inr ⟨p, List.mem_cons_self, h⟩
    · obtain ⟨q, hq, h⟩ := List.mem_flatten.mp h
      obtain ⟨x, hx, rfl⟩ := List.mem_map.mp hq
      rcases List.mem_cons.mp h with h | h
      · exact .inl h
      · exact .inr ⟨x, List.mem_cons_of_mem _ hx, h⟩
theorem kindWs_mem {k : WdK} (h : OkK k) {w : Wo} (hw : w ∈ kindWs k) : NmW w ∨ w = [40] ∨ w = [41] ∨ w = [61] ∨ w = [124] := by
  unfold kindWs at hw
  rcases List.mem_cons.mp hw with rfl | hw
  · exact .inl h.nm
  · rcases List.mem_cons.mp hw with rfl | hw
    · exact .inr (.inr (.inr (.inl rfl)))
    · rcases joinWs_mem hw with rfl | ⟨p, hp, hw⟩
      · exact .inr (.inr (.inr (.inr rfl)))
      · obtain ⟨r, hr, rfl⟩ := List.mem_map.mp hp
        rcases rowWs_mem (h.rows r hr) hw with h | h | h
        · exact .inl h
        · exact .inr (.inl h)
        · exact .inr (.inr (.inl h))
theorem woodWs_mem {ws : List WdK} (h : ∀ k ∈ ws, OkK k) {w : Wo} (hw : w ∈ woodWs ws) : NmW w ∨ w = [40] ∨ w = [41] ∨ w = [61] ∨ w = [124] ∨ w = [59] := by
  rcases joinWs_mem hw with rfl | ⟨p, hp, hw⟩
  · simp
  · obtain ⟨k, hk, rfl⟩ := List.mem_map.mp hp
    rcases kindWs_mem (h k hk) hw with h | h | h | h | h
    · exact .inl h
    · exact .inr (.inl h)
    · exact .inr (.inr (.inl h))
    · exact .inr (.inr (.inr (.inl h)))
    · exact .inr (.inr (.inr (.inr (.inl h))))
theorem bar_notin {r : WdR} (h : OkR r) : [124] ∉ rowWs r := fun m => by
  rcases rowWs_mem h m with h | h | h
  · exact sign_not_nm (by decide) h rfl
  · cases h
  · cases h
theorem semi_notin {k : WdK} (h : OkK k) : [59] ∉ kindWs k := fun m => by
  rcases kindWs_mem h m with h | h | h | h | h
  · exact sign_not_nm (by decide) h rfl
  all_goals cases h
theorem nice_wl {ws : List Wo} (h : ∀ w ∈ ws, PyData.strOk (tx w) = true) : Nice (rowWD ws) := nice_list (n := 0) (fun d hd => by
  obtain ⟨w, hw, rfl⟩ := List.mem_map.mp hd
  exact ⟨by rw [PyData.canLay0]; exact h w hw, by simp [PyData.depth]⟩) (by omega)
theorem eqv_nil (ds : List D) : PyData.eqv (.list ds) (.list []) = ds.isEmpty := by
  cases ds <;> simp [PyData.eqv, PyData.eqvAll]
theorem gEq_nilW {ws : List Wo} (h : ∀ w ∈ ws, PyData.strOk (tx w) = true) : gEq (rowWD ws) (.list []) = some (.bool ws.isEmpty) := by
  have n0 : Nice (.list []) := nice_list (n := 0) (fun d hd => by cases hd) (by omega)
  rw [gEq_nice (nice_wl h) n0, eqv_nil]
  cases ws <;> rfl
theorem gNeW (a b : Wo) : gNe (.str (tx a)) (.str (tx b)) = some (.bool (!decide (a = b))) := by
  show (some (PyData.bool (!(tx a == tx b))) : Option D) = _
  congr 2
  by_cases h : a = b
  · subst h; simp
  · have : tx a ≠ tx b := fun e => h (tx_inj e)
    simp [h, this]
theorem len_wl (ws : List Wo) : gLen [rowWD ws] = some (.d (.int (ws.length : Nat))) := by
  show some (Ow.d (PyData.int ((ws.map fun w => PyData.str (tx w)).length : Nat))) = _
  rw [List.length_map]
theorem gIx_natW {ds : List D} {k : Nat} {d : D} (h : ds[k]? = some d) : gIx (.list ds) (.int (k : Nat)) = some d := by
  show atI ds _ = _
  exact atI_natD h
theorem ix_wl {ws : List Wo} {k : Nat} {w : Wo} (h : ws[k]? = some w) : gIx (rowWD ws) (.int (k : Nat)) = some (.str (tx w)) := gIx_natW (by rw [List.getElem?_map, h]; rfl)
theorem ix_wl_last (ws : List Wo) (w : Wo) : gIx (rowWD (ws ++ [w])) (.int (-1)) = some (.str (tx w)) := by
  show atI ((ws ++ [w]).map fun w => PyData.str (tx w)) (-1) = _
  rw [List.map_append]
  exact atI_last
theorem cut_in {α : Type} (a b c : α) (xs : List α) : cutL (a :: b :: (xs ++ [c])) (some 2) (some (-1)) = xs := by
  have e : (a :: b :: (xs ++ [c])).length = xs.length + 3 := by simp
  unfold cutL
  rw [e]
  have s1 : HT.sIx (xs.length + 3) 0 (some 2) = 2 := by
    show (if (2 : Int) < 0 then ((2 : Int) + ((xs.length + 3 : Nat) : Int)).toNat else min (2 : Int).toNat (xs.length + 3)) = 2
    rw [if_neg (by omega)]
    show min 2 _ = 2
    omega
  have s2 : HT.sIx (xs.length + 3) (xs.length + 3) (some (-1)) = xs.length + 2 := by
    show (if (-1 : Int) < 0 then ((-1 : Int) + ((xs.length + 3 : Nat) : Int)).toNat else min (-1 : Int).toNat (xs.length + 3)) = _
    rw [if_pos (by omega)]
    omega
  rw [s1, s2]
  simp
theorem op_is2 : ("(" : Str) = tx [40] := by rw [tx_of ("(" : Str)]; congr 1
theorem cl_is2 : (")" : Str) = tx [41] := by rw [tx_of (")" : Str)]; congr 1
theorem eq_is2 : ("=" : Str) = tx [61] := by rw [tx_of ("=" : Str)]; congr 1
theorem bar_is2 : ("|" : Str) = tx [124] := by rw [tx_of ("|" : Str)]; congr 1
theorem semi_is2 : (";" : Str) = tx [59] := by rw [tx_of (";" : Str)]; congr 1
abbrev bRowBy (f3 : List D → R Ow) : Ev → SR :=
    (sSeq (sIf (tOrE (eB (eBin gEq (eVar 0) (eM (eLst aNil) viewD)) asB) (tNotE (eB (eM (eB (aCons (eBin gIx (eVar 0) (eC (.int 0))) aNil) f3) viewD) asB)))
    (sRaise "NoText")
    sSkip)
    (sSeq (sIf (eB (eBin gEq (eM (eCa gLen (aCons (eVar 0) aNil)) viewD) (eC (.int 1))) asB)
    (sRet (eM (eTup (aCons (eBin gIx (eVar 0) (eC (.int 0))) (aCons (eTup aNil) aNil))) Ow.d))
    sSkip)
    (sSeq (sSet 1 (eM (eM (eSl (eVar 0) (eB (eC (.int 2)) asI) (eB (eB (eC (.int 1)) gNeg) asI)) viewD) Ow.d))
    (sSeq (sIf (tOrE (eB (eBin gNe (eBin gIx (eVar 0) (eC (.int 1))) (eC (.str "("))) asB) (tOrE (eB (eBin gNe (eBin gIx (eVar 0) (eB (eC (.int 1)) gNeg)) (eC (.str ")"))) asB) (tOrE (eB (eBin gEq (eVar 1) (eM (eLst aNil) viewD)) asB) (eB (eBin gGt (eM (eCa gLen (aCons (eVar 1) aNil)) viewD) (eC (.int 4))) asB))))
    (sRaise "NoText")
    sSkip)
    (sSeq (sFor (eB (eVar 1) itD) (gtName 2)
    (sIf (tNotE (eB (eM (eB (aCons (eVar 2) aNil) f3) viewD) asB))
    (sRaise "NoText")
    sSkip))
    (sRet (eM (eTup (aCons (eBin gIx (eVar 0) (eC (.int 0))) (aCons (eM (eCa gTuple (aCons (eVar 1) aNil)) viewD) aNil))) Ow.d)))))))
theorem rowBy_fin {f3 : List D → R Ow} (h3 : ∀ w, NmW w → f3 [.str (tx w)] = .ok (.d (.bool true))) {r : WdR} (h : OkR r) : finR (bRowBy f3 (envOf 2 [rowWD (rowWs r)])) = .ok (.d (encRw (toRw r))) := by
  obtain ⟨nm, br⟩ := r
  have hn : NmW nm := h.nm
  have he : envOf 2 [rowWD (rowWs (nm, br))] = [some (.d (rowWD (rowWs (nm, br)))), none, none] := rfl
  rw [he]
  have ok : ∀ w ∈ rowWs (nm, br), PyData.strOk (tx w) = true := fun w hw => by
    rcases rowWs_mem h hw with h | rfl | rfl
    · exact h.ok
    · decide +kernel
    · decide +kernel
  have e0 := gEq_nilW ok
  have i0 : gIx (rowWD (rowWs (nm, br))) (.int 0) = some (.str (tx nm)) := ix_wl (k := 0) rfl
  have ln := len_wl (rowWs (nm, br))
  have t0 := h3 nm hn
  have emp : (rowWs (nm, br)).isEmpty = false := rfl
  rw [emp] at e0
  have er : encRw (toRw (nm, br)) = .tuple [.str (tx nm), .tuple (br.map fun b => .str (tx b))] := by
    unfold encRw toRw
    simp only [List.map_map]
    rfl
  rw [er]
  by_cases hb : br = []
  · subst hb
    have ll : (rowWs (nm, [])).length = 1 := rfl
    rw [ll] at ln
    generalize rowWD (rowWs (nm, [])) = RD at *
    simp [e0, i0, t0, ln, sizeLine_eq, SR.andThen, finR]
  · have rw : rowWs (nm, br) = nm :: [40] :: (br ++ [[41]]) := by unfold rowWs; rw [if_neg hb]
    have ll : (rowWs (nm, br)).length = br.length + 3 := by rw [rw]; simp
    have i1 : gIx (rowWD (rowWs (nm, br))) (.int 1) = some (.str (tx [40])) := ix_wl (k := 1) (by rw [rw]; rfl)
    have il : gIx (rowWD (rowWs (nm, br))) (.int (-1)) = some (.str (tx [41])) := by
      rw [rw, show nm :: [40] :: (br ++ [[41]]) = (nm :: [40] :: br) ++ [[41]] by simp]
      exact ix_wl_last _ _
    have sl : gSl (rowWD (rowWs (nm, br))) (some 2) (some (-1)) = some (.l (br.map fun w => .d (.str (tx w)))) := by
      show some (Ow.l ((cutL ((rowWs (nm, br)).map fun w => PyData.str (tx w)) (some 2) (some (-1))).map Ow.d)) = _
      rw [rw, List.map_cons, List.map_cons, List.map_append]
      show some (Ow.l ((cutL (_ :: _ :: (_ ++ [_])) (some 2) (some (-1))).map Ow.d)) = _
      rw [cut_in, List.map_map]
      rfl
    have vl : viewD (.l (br.map fun w => .d (.str (tx w)))) = rowWD br := viewD_of (fun w : Wo => PyData.str (tx w)) br
    have eb := gEq_nilW (ws := br) fun w hw => (h.br w hw).ok
    have lb := len_wl br
    have bE : br.isEmpty = false := by cases br with
      | nil => exact absurd rfl hb
      | cons => rfl
    rw [bE] at eb
    have n1 : gNe (.str (tx [40])) (.str "(") = some (.bool false) := by rw [op_is2, gNeW]; rfl
    have n2 : gNe (.str (tx [41])) (.str ")") = some (.bool false) := by rw [cl_is2, gNeW]; rfl
    have g4 : gGt (.int (br.length : Nat)) (.int 4) = some (.bool false) := by
      show some (PyData.bool (decide ((4 : Int) < ((br.length : Nat) : Int)))) = _
      have := h.few
      have : br.length ≤ 4 := this
      rw [decide_eq_false (by omega)]
    have q1 : gEq (.int ((rowWs (nm, br)).length : Nat)) (.int 1) = some (.bool false) := by
      show some (PyData.bool ((((rowWs (nm, br)).length : Nat) : Int) == 1)) = _
      rw [ll, beq_eq_false_iff_ne.mpr (by omega)]
    obtain ⟨x2, lp⟩ : ∃ x2, forL (gtName 2) (sIf (tNotE (eB (eM (eB (aCons (eVar 2) aNil) f3) viewD) asB))
        (sRaise "NoText")
        sSkip) (br.map fun w => .str (tx w)) [some (.d (rowWD (rowWs (nm, br)))), some (.d (rowWD br)), none] = .nx [some (.d (rowWD (rowWs (nm, br)))), some (.d (rowWD br)), x2] := by
      have all : ∀ (bs : List Wo) (x : Option Ow), (∀ b ∈ bs, NmW b) → ∃ x2, forL (gtName 2) (sIf (tNotE (eB (eM (eB (aCons (eVar 2) aNil) f3) viewD) asB))
        (sRaise "NoText")
        sSkip) (bs.map fun w => .str (tx w)) [some (.d (rowWD (rowWs (nm, br)))), some (.d (rowWD br)), x] = .nx [some (.d (rowWD (rowWs (nm, br)))), some (.d (rowWD br)), x2] := by
        intro bs
        induction bs with
        | nil => exact fun x _ => ⟨x, rfl⟩
        | cons b bs ih =>
          intro x hb
          obtain ⟨x2, e⟩ := ih (some (.d (.str (tx b)))) fun z hz => hb z (List.mem_cons_of_mem _ hz)
          have tb := h3 b (hb b List.mem_cons_self)
          refine ⟨x2, ?_⟩
          rw [List.map_cons, forL_nx (g := gtName 2) (env1 := [some (.d (rowWD (rowWs (nm, br)))), some (.d (rowWD br)), some (.d (.str (tx b)))]) (env2 := [some (.d (rowWD (rowWs (nm, br)))), some (.d (rowWD br)), some (.d (.str (tx b)))]) rfl (by
            generalize rowWD (rowWs (nm, br)) = RD
            generalize rowWD br = BD
            simp [tb]), e]
      exact all br none h.br
    have it : (eB (eVar 1) itD) [some (.d (rowWD (rowWs (nm, br)))), some (.d (rowWD br)), none] = .ok (br.map fun w => .str (tx w)) := rfl
    have gt : gTuple [rowWD br] = some (.d (.tuple (br.map fun w => .str (tx w)))) := rfl
    refine fin_step (env1 := [some (.d (rowWD (rowWs (nm, br)))), none, none]) (by
      generalize rowWD (rowWs (nm, br)) = RD at *
      simp [e0, i0, t0]) ?_
    refine fin_step (env1 := [some (.d (rowWD (rowWs (nm, br)))), none, none]) (by
      generalize rowWD (rowWs (nm, br)) = RD at *
      generalize (((rowWs (nm, br)).length : Nat) : Int) = z at *
      simp [ln, q1]) ?_
    refine fin_step (env1 := [some (.d (rowWD (rowWs (nm, br)))), some (.d (rowWD br)), none]) (by
      generalize rowWD (rowWs (nm, br)) = RD at *
      generalize (Ow.l (br.map fun w => .d (.str (tx w)))) = BO at *
      generalize rowWD br = BD at *
      simp [sl, vl]) ?_
    refine fin_step (env1 := [some (.d (rowWD (rowWs (nm, br)))), some (.d (rowWD br)), none]) (by
      generalize rowWD (rowWs (nm, br)) = RD at *
      generalize rowWD br = BD at *
      generalize ((br.length : Nat) : Int) = z at *
      simp [i1, il, n1, n2, eb, lb, g4]) ?_
    refine fin_step (by rw [sFor_eq, it, R.st_ok]; exact lp) ?_
    generalize rowWD (rowWs (nm, br)) = RD at *
    generalize rowWD br = BD at *
    generalize (PyData.tuple (br.map fun w => .str (tx w))) = BT at *
    simp [i0, gt, sizeLine_eq, finR]
end
end Mir
set_option Elab.async false
set_option linter.all false
set_option maxRecDepth 100000
set_option maxHeartbeats 4000000
namespace Mir
open PySem PySem.Spec L2
noncomputable section
theorem forL_all {g : D → Ev → Option Ev} {f : Ev → SR} (P : Ev → Prop) : ∀ (ds : List D), (∀ d ∈ ds, ∀ env, P env → ∃ env1, g d env = some env1 ∧ ∃ env2, f env1 = .nx env2 ∧ P env2) → ∀ env0, P env0 → ∃ env', forL g f ds env0 = .nx env' ∧ P env'
  | [], _, env0, h => ⟨env0, rfl, h⟩
  | d :: ds, st, env0, h => by
    obtain ⟨env1, h1, env2, h2, h3⟩ := st d List.mem_cons_self env0 h
    obtain ⟨env', h4, h5⟩ := forL_all P ds (fun x hx => st x (List.mem_cons_of_mem _ hx)) env2 h3
    exact ⟨env', by rw [forL_nx h1 h2, h4], h5⟩
theorem vw_rowWO (ws : List Wo) : viewD (rowWO ws) = rowWD ws := viewD_of (fun w : Wo => PyData.str (tx w)) ws
theorem vw_parts (ps : List (List Wo)) : viewD (.l (ps.map rowWO)) = .list (ps.map rowWD) := by
  rw [viewD_l, viewAll_map, List.map_map]
  congr 1
  exact List.map_congr_left fun p _ => vw_rowWO p
theorem cut_from {α : Type} (a b : α) (xs : List α) : cutL (a :: b :: xs) (some 2) none = xs := by
  have := cutL_drop (a :: b :: xs) 2
  exact this
abbrev bKindBy (f3 f4 f5 : List D → R Ow) : Ev → SR :=
    (sSeq (sIf (tOrE (eB (eBin gLt (eM (eCa gLen (aCons (eVar 0) aNil)) viewD) (eC (.int 3))) asB) (tOrE (tNotE (eB (eM (eB (aCons (eBin gIx (eVar 0) (eC (.int 0))) aNil) f3) viewD) asB)) (eB (eBin gNe (eBin gIx (eVar 0) (eC (.int 1))) (eC (.str "="))) asB)))
    (sRaise "NoText")
    sSkip)
    (sRet (eM (eTup (aCons (eBin gIx (eVar 0) (eC (.int 0))) (aCons (eM (eLc (eB (eM (eB (aCons (eM (eSl (eVar 0) (eB (eC (.int 2)) asI) oNone) viewD) (aCons (eC (.str "|")) aNil)) f4) viewD) itD) (gtName 1) cYes (eB (aCons (eVar 1) aNil) f5) [1]) viewD) aNil))) Ow.d)))
theorem joinWs_len (s : Wo) : ∀ ps : List (List Wo), (joinWs s ps).length ≤ (ps.map fun p => p.length + 1).sum
  | [] => by simp [joinWs]
  | p :: ps => by
    rw [joinWs, List.length_append, List.map_cons, List.sum_cons]
    have : ((ps.map fun q => s :: q).flatten).length = (ps.map fun p => p.length + 1).sum := by
      rw [List.length_flatten, List.map_map]
      rfl
    omega
theorem sum_le_mul {α : Type} (f : α → Nat) (c : Nat) : ∀ l : List α, (∀ a ∈ l, f a ≤ c) → (l.map f).sum ≤ l.length * c
  | [], _ => by simp
  | a :: l, h => by
    have := sum_le_mul f c l fun x hx => h x (List.mem_cons_of_mem _ hx)
    have := h a List.mem_cons_self
    rw [List.map_cons, List.sum_cons, List.length_cons, Nat.succ_mul]
    omega
theorem rowWs_len {r : WdR} (h : OkR r) : 1 ≤ (rowWs r).length ∧ (rowWs r).length ≤ 7 := by
  have := h.few
  unfold rowWs
  split
  · simp
  · simp; omega
theorem joinRows_len {k : WdK} (h : OkK k) : 1 ≤ (joinWs [124] (k.2.map rowWs)).length ∧ (joinWs [124] (k.2.map rowWs)).length ≤ 800 := by
  constructor
  · cases e : k.2 with
    | nil => exact absurd e h.some
    | cons r rs =>
      have := (rowWs_len (h.rows r (by rw [e]; exact List.mem_cons_self))).1
      rw [List.map_cons, joinWs, List.length_append]
      omega
  · have a := joinWs_len [124] (k.2.map rowWs)
    rw [List.map_map] at a
    have b := sum_le_mul ((fun p : List Wo => p.length + 1) ∘ rowWs) 8 k.2 fun r hr => by have := (rowWs_len (h.rows r hr)).2; show (rowWs r).length + 1 ≤ 8; omega
    have := h.few
    omega
theorem kindBy_fin {f3 f4 f5 : List D → R Ow} (h3 : ∀ w, NmW w → f3 [.str (tx w)] = .ok (.d (.bool true))) (h4 : ∀ ws s, ws.length ≤ 100000 → f4 [rowWD ws, .str (tx s)] = .ok (.l ((splitA s [] ws).map rowWO))) (h5 : ∀ r, OkR r → f5 [rowWD (rowWs r)] = .ok (.d (encRw (toRw r)))) {k : WdK} (h : OkK k) : finR (bKindBy f3 f4 f5 (envOf 1 [rowWD (kindWs k)])) = .ok (.d (encKd (toKd k))) := by
  have he : envOf 1 [rowWD (kindWs k)] = [some (.d (rowWD (kindWs k))), none] := rfl
  rw [he]
  obtain ⟨j1, j2⟩ := joinRows_len h
  have ln := len_wl (kindWs k)
  have ll : (kindWs k).length = (joinWs [124] (k.2.map rowWs)).length + 2 := by unfold kindWs; simp
  have i0 : gIx (rowWD (kindWs k)) (.int 0) = some (.str (tx k.1)) := ix_wl (k := 0) rfl
  have i1 : gIx (rowWD (kindWs k)) (.int 1) = some (.str (tx [61])) := ix_wl (k := 1) rfl
  have t0 := h3 k.1 h.nm
  have n1 : gNe (.str (tx [61])) (.str "=") = some (.bool false) := by rw [eq_is2, gNeW]; rfl
  have g3 : gLt (.int ((kindWs k).length : Nat)) (.int 3) = some (.bool false) := by
    show some (PyData.bool (decide ((((kindWs k).length : Nat) : Int) < 3))) = _
    rw [decide_eq_false (by omega)]
  have sl : gSl (rowWD (kindWs k)) (some 2) none = some (rowWO (joinWs [124] (k.2.map rowWs))) := by
    show some (Ow.l ((cutL ((kindWs k).map fun w => PyData.str (tx w)) (some 2) none).map Ow.d)) = _
    unfold kindWs
    rw [List.map_cons, List.map_cons, cut_from, List.map_map]
    rfl
  have vl := vw_rowWO (joinWs [124] (k.2.map rowWs))
  have pt := h4 (joinWs [124] (k.2.map rowWs)) [124] (by omega)
  rw [split_join (fun p hp => by obtain ⟨r, hr, rfl⟩ := List.mem_map.mp hp; exact bar_notin (h.rows r hr)) (by simp [h.some])] at pt
  rw [← bar_is2] at pt
  have vp := vw_parts (k.2.map rowWs)
  have lc : eLc (eB (eM (eB (aCons (eM (eSl (eVar 0) (eB (eC (.int 2)) asI) oNone) viewD) (aCons (eC (.str "|")) aNil)) f4) viewD) itD) (gtName 1) cYes (eB (aCons (eVar 1) aNil) f5) [1] [some (.d (rowWD (kindWs k))), none] = .ok (.l (k.2.map fun r => .d (encRw (toRw r)))) := by
    refine eLc_of (ds := k.2.map fun r => rowWD (rowWs r)) ?_ (by have := h.few; rw [List.length_map, sizeLine_eq]; omega) ?_
    · have e : (k.2.map rowWs).map rowWD = k.2.map fun r => rowWD (rowWs r) := by rw [List.map_map]; rfl
      rw [← e]
      generalize (Ow.l ((k.2.map rowWs).map rowWO)) = PO at *
      generalize (k.2.map rowWs).map rowWD = PD at *
      generalize rowWO (joinWs [124] (k.2.map rowWs)) = JO at *
      generalize rowWD (joinWs [124] (k.2.map rowWs)) = JD at *
      generalize rowWD (kindWs k) = RD at *
      simp [sl, vl, pt, vp]
    · refine lcR_map (fun r => rowWD (rowWs r)) (fun r => Ow.d (encRw (toRw r))) k.2 fun r hr => ⟨[some (.d (rowWD (kindWs k))), some (.d (rowWD (rowWs r)))], rfl, rfl, ?_⟩
      have := h5 r (h.rows r hr)
      generalize rowWD (rowWs r) = RD at *
      generalize rowWD (kindWs k) = KD at *
      simp [this]
  have vr : viewD (.l (k.2.map fun r => .d (encRw (toRw r)))) = .list ((k.2.map toRw).map encRw) := by
    rw [List.map_map]
    exact viewD_of (fun r : WdR => encRw (toRw r)) k.2
  have ek : encKd (toKd k) = .tuple [.str (tx k.1), .list ((k.2.map toRw).map encRw)] := rfl
  rw [ek]
  generalize (Ow.l (k.2.map fun r => .d (encRw (toRw r)))) = RO at *
  generalize PyData.list ((k.2.map toRw).map encRw) = RL at *
  generalize rowWD (kindWs k) = KD at *
  generalize (((kindWs k).length : Nat) : Int) = z at *
  simp [ln, g3, i0, i1, t0, n1, lc, vr, sizeLine_eq, SR.andThen, finR]
end
end Mir
set_option Elab.async false
set_option linter.all false
set_option maxRecDepth 100000
set_option maxHeartbeats 4000000
namespace Mir
open PySem PySem.Spec L2
noncomputable section
theorem sqW {f g : Ev → SR} {env e1 : Ev} (h : f env = .nx e1) : sSeq f g env = g e1 := by rw [sSeq_eq, h]; rfl
theorem onceL_nodup {T : Type} [DecidableEq T] (l : List T) (h : l.Nodup) : onceL l = l := by
  have key : ∀ (r : List T) (acc : List T), (acc ++ r).Nodup → r.foldl PyProof.Rows.step_dedup acc = acc ++ r := by
    intro r
    induction r with
    | nil => intro acc _; simp
    | cons x r ih =>
      intro acc hn
      have nx : x ∉ acc := fun m => by
        rw [List.nodup_append] at hn
        exact hn.2.2 x m x List.mem_cons_self rfl
      have st : PyProof.Rows.step_dedup acc x = acc ++ [x] := by
        unfold PyProof.Rows.step_dedup
        rw [if_neg]
        simpa using nx
      rw [List.foldl_cons, st, ih (acc ++ [x]) (by simpa using hn)]
      simp
  exact key l [] (by simpa using h)
theorem nodup_tx {l : List Wo} (h : l.Nodup) : (l.map tx).Nodup := List.pairwise_map.mpr (h.imp fun ne e => ne (tx_inj e))
theorem lenSet_strs {ks : List Str} (hn : ks ≠ []) (hl : ks.length ≤ 4000) (nd : ks.Nodup) : gLenSet (.list (ks.map PyData.str)) = .ok (.int (ks.length : Nat)) := by
  have i0 : intsD (ks.map PyData.str) = none := by
    cases ks with
    | nil => exact absurd rfl hn
    | cons k ks => rfl
  show (match intsD (ks.map PyData.str) with
    | some ns => if ns.length ≤ 4000 then R.ok (PyData.int (onceL ns).length) else R.no
    | none => match strsD (ks.map PyData.str) with
      | some ts => if ts.length ≤ 4000 then R.ok (PyData.int (onceL ts).length) else R.no
      | none => R.no) = _
  rw [i0, strsD_map]
  simp only
  rw [if_pos hl, onceL_nodup ks nd]
structure OkWd (w : List WdK) : Prop where
  ok : ∀ k ∈ w, OkK k
  some : w ≠ []
  few : w.length ≤ 100
  nd : (w.map (·.1)).Nodup
  names : ∀ k ∈ w, (k.2.map (·.1)).Nodup
  bare : ∀ k ∈ w, ∃ r ∈ k.2, r.2 = []
  told : ∀ k ∈ w, ∀ r ∈ k.2, ∀ b ∈ r.2, b ∈ w.map (·.1)
abbrev bLookOver : Ev → SR :=
    (sSeq (sSet 1 (eM (eM (eLc (eB (eVar 0) itD) (gtTup 2 (gtCons (gtName 2) (gtCons (gtName 3) gtNil))) cYes (eM (eVar 2) Ow.d) [2, 3]) viewD) Ow.d))
    (sSeq (sIf (eB (eBin gLt (eB (eVar 1) gLenSet) (eM (eCa gLen (aCons (eVar 1) aNil)) viewD)) asB)
    (sRaise "NoWood")
    sSkip)
    (sFor (eB (eVar 0) itD) (gtTup 2 (gtCons (gtName 2) (gtCons (gtName 3) gtNil)))
    (sSeq (sSet 4 (eM (eM (eLc (eB (eVar 3) itD) (gtTup 2 (gtCons (gtName 5) (gtCons (gtName 6) gtNil))) cYes (eM (eVar 5) Ow.d) [5, 6]) viewD) Ow.d))
    (sSeq (sIf (eB (eBin gLt (eB (eVar 4) gLenSet) (eM (eCa gLen (aCons (eVar 4) aNil)) viewD)) asB)
    (sRaise "NoWood")
    sSkip)
    (sSeq (sIf (eB (eBin gNotIn (eTup aNil) (eM (eLc (eB (eVar 3) itD) (gtTup 2 (gtCons (gtName 5) (gtCons (gtName 6) gtNil))) cYes (eM (eVar 6) Ow.d) [5, 6]) viewD)) asB)
    (sRaise "NoWood")
    sSkip)
    (sFor (eB (eVar 3) itD) (gtTup 2 (gtCons (gtName 5) (gtCons (gtName 6) gtNil)))
    (sFor (eB (eVar 6) itD) (gtName 7)
    (sIf (eB (eBin gNotIn (eVar 7) (eVar 1)) asB)
    (sRaise "NoWood")
    sSkip)))))))))
theorem len_strs (ks : List Str) : gLen [.list (ks.map PyData.str)] = some (.d (.int (ks.length : Nat))) := by
  show some (Ow.d (PyData.int ((ks.map PyData.str).length : Nat))) = _
  rw [List.length_map]
theorem gLt_self (n : Int) : gLt (.int n) (.int n) = some (.bool false) := by
  show some (PyData.bool (decide (n < n))) = _
  rw [decide_eq_false (by omega)]
theorem nil_in {rs : List Rw} (h : ∀ r ∈ rs, ∀ z ∈ r.br, PyData.strOk z = true) (hb : ∃ r ∈ rs, r.br = []) : gNotIn (.tuple []) (.list (rs.map fun r => .tuple (r.br.map PyData.str))) = some (.bool false) := by
  have ok : inOk (.tuple []) (rs.map fun r => PyData.tuple (r.br.map PyData.str)) = true := by
    unfold inOk
    simp only [Bool.and_eq_true, decide_eq_true_eq, List.all_eq_true, List.mem_map]
    refine ⟨⟨rfl, by simp [PyData.depth, PyData.depthAll]⟩, ?_⟩
    rintro _ ⟨r, hr, rfl⟩
    exact (nice_strs (h r hr)).1
  have inn : inD (.tuple []) (rs.map fun r => PyData.tuple (r.br.map PyData.str)) = true := by
    unfold inD
    rw [List.any_eq_true]
    obtain ⟨r, hr, e⟩ := hb
    exact ⟨_, List.mem_map.mpr ⟨r, hr, rfl⟩, by rw [e]; rfl⟩
  show (if inOk (.tuple []) (rs.map fun r => PyData.tuple (r.br.map PyData.str)) = true then some (PyData.bool (xor true (inD (.tuple []) (rs.map fun r => PyData.tuple (r.br.map PyData.str))))) else none) = _
  rw [if_pos ok, inn]
  rfl
theorem lookOver_fin {w : List WdK} (h : OkWd w) : finR (bLookOver (envOf 7 [encWd (toWd w)])) = .ok (.d .none) := by
  have he : envOf 7 [encWd (toWd w)] = [some (.d (encWd (toWd w))), none, none, none, none, none, none, none] := rfl
  rw [he]
  obtain ⟨ks, hks⟩ : ∃ ks, ks = w.map fun k => tx k.1 := ⟨_, rfl⟩
  have kl : ks.length = w.length := by rw [hks, List.length_map]
  have kn : ks ≠ [] := by rw [hks]; simp [h.some]
  have knd : ks.Nodup := by
    have := h.nd
    rw [hks]
    have e : (w.map fun k => tx k.1) = (w.map (·.1)).map tx := by rw [List.map_map]; rfl
    rw [e]
    exact nodup_tx this
  have kok : ∀ z ∈ ks, PyData.strOk z = true := fun z hz => by
    rw [hks] at hz
    obtain ⟨k, hk, rfl⟩ := List.mem_map.mp hz
    exact (h.ok k hk).nm.ok
  have fw := h.few
  have ls := lenSet_strs kn (by omega) knd
  have ln := len_strs ks
  have gl := gLt_self (ks.length : Nat)
  have itW : (eB (eVar 0) itD) [some (.d (encWd (toWd w))), none, none, none, none, none, none, none] = .ok ((toWd w).map encKd) := rfl
  have wl : (toWd w).length = w.length := by unfold toWd; rw [List.length_map]
  have lc : eLc (eB (eVar 0) itD) (gtTup 2 (gtCons (gtName 2) (gtCons (gtName 3) gtNil))) cYes (eM (eVar 2) Ow.d) [2, 3] [some (.d (encWd (toWd w))), none, none, none, none, none, none, none] = .ok (.l (w.map fun k => .d (.str (tx k.1)))) := by
    refine eLc_of (ds := (w.map fun k => encKd (toKd k))) (by rw [itW]; unfold toWd; rw [List.map_map]; rfl) (by rw [List.length_map, sizeLine_eq]; omega) ?_
    refine lcR_map (fun k => encKd (toKd k)) (fun k => Ow.d (.str (tx k.1))) w fun k hk => ⟨[some (.d (encWd (toWd w))), none, some (.d (.str (tx k.1))), some (.d (.list ((k.2.map toRw).map encRw))), none, none, none, none], rfl, rfl, rfl⟩
  have lv : viewD (.l (w.map fun k => .d (.str (tx k.1)))) = .list (ks.map PyData.str) := by
    rw [hks, List.map_map]
    exact viewD_of (fun k : WdK => PyData.str (tx k.1)) w
  refine fin_step (env1 := [some (.d (encWd (toWd w))), some (.d (.list (ks.map PyData.str))), none, none, none, none, none, none]) (by rw [sSet_eq, eM_eq, eM_eq, lc, R.map_ok, R.map_ok, lv, R.st_ok]; rfl) ?_
  refine fin_step (env1 := [some (.d (encWd (toWd w))), some (.d (.list (ks.map PyData.str))), none, none, none, none, none, none]) (by
    generalize encWd (toWd w) = WD at *
    generalize PyData.list (ks.map PyData.str) = KD at *
    generalize ((ks.length : Nat) : Int) = z at *
    simp [ls, ln, gl]) ?_
  let E2 := fun a2 a3 a4 a5 a6 a7 => ([some (.d (encWd (toWd w))), some (.d (.list (ks.map PyData.str))), a2, a3, a4, a5, a6, a7] : Ev)
  obtain ⟨env', lp, a2, a3, a4, a5, a6, a7, e'⟩ := forL_all (g := gtTup 2 (gtCons (gtName 2) (gtCons (gtName 3) gtNil))) (f := (sSeq (sSet 4 (eM (eM (eLc (eB (eVar 3) itD) (gtTup 2 (gtCons (gtName 5) (gtCons (gtName 6) gtNil))) cYes (eM (eVar 5) Ow.d) [5, 6]) viewD) Ow.d))
    (sSeq (sIf (eB (eBin gLt (eB (eVar 4) gLenSet) (eM (eCa gLen (aCons (eVar 4) aNil)) viewD)) asB)
    (sRaise "NoWood")
    sSkip)
    (sSeq (sIf (eB (eBin gNotIn (eTup aNil) (eM (eLc (eB (eVar 3) itD) (gtTup 2 (gtCons (gtName 5) (gtCons (gtName 6) gtNil))) cYes (eM (eVar 6) Ow.d) [5, 6]) viewD)) asB)
    (sRaise "NoWood")
    sSkip)
    (sFor (eB (eVar 3) itD) (gtTup 2 (gtCons (gtName 5) (gtCons (gtName 6) gtNil)))
    (sFor (eB (eVar 6) itD) (gtName 7)
    (sIf (eB (eBin gNotIn (eVar 7) (eVar 1)) asB)
    (sRaise "NoWood")
    sSkip))))))) (fun env => ∃ a2 a3 a4 a5 a6 a7, env = E2 a2 a3 a4 a5 a6 a7) ((toWd w).map encKd) (by
      rintro d hd _ ⟨a2, a3, a4, a5, a6, a7, rfl⟩
      obtain ⟨p, hp, rfl⟩ := List.mem_map.mp hd
      obtain ⟨k, hk, rfl⟩ := List.mem_map.mp hp
      have o := h.ok k hk
      have rw := o.rows
      have few := o.few
      refine ⟨E2 (some (.d (.str (tx k.1)))) (some (.d (.list ((k.2.map toRw).map encRw)))) a4 a5 a6 a7, rfl, ?_⟩
      obtain ⟨rs, hrs⟩ : ∃ rs, rs = k.2.map toRw := ⟨_, rfl⟩
      have rl : rs.length = k.2.length := by rw [hrs, List.length_map]
      have rm : ∀ r ∈ rs, PyData.strOk r.nm = true ∧ (∀ z ∈ r.br, PyData.strOk z = true ∧ z ∈ ks) := fun r hr => by
        rw [hrs] at hr
        obtain ⟨q, hq, rfl⟩ := List.mem_map.mp hr
        refine ⟨(rw q hq).nm.ok, fun z hz => ?_⟩
        obtain ⟨b, hb, rfl⟩ := List.mem_map.mp (show z ∈ q.2.map tx from hz)
        refine ⟨((rw q hq).br b hb).ok, ?_⟩
        obtain ⟨k', hk', e⟩ := List.mem_map.mp (h.told k hk q hq b hb)
        rw [hks]
        exact List.mem_map.mpr ⟨k', hk', by rw [← e]⟩
      have rn : (rs.map (·.nm)).Nodup := by
        have := h.names k hk
        have e : rs.map (·.nm) = (k.2.map (·.1)).map tx := by rw [hrs, List.map_map, List.map_map]; rfl
        rw [e]
        exact nodup_tx this
      have rne : rs.map (·.nm) ≠ [] := by rw [hrs]; simp [o.some]
      have rb : ∃ r ∈ rs, r.br = [] := by
        obtain ⟨r, hr, e⟩ := h.bare k hk
        exact ⟨toRw r, by rw [hrs]; exact List.mem_map_of_mem hr, by unfold toRw; rw [e]; rfl⟩
      rw [← hrs]
      have ls2 := lenSet_strs rne (by rw [List.length_map]; omega) rn
      have ln2 := len_strs (rs.map (·.nm))
      have gl2 := gLt_self ((rs.map (·.nm)).length : Nat)
      have ni := nil_in (fun r hr z hz => ((rm r hr).2 z hz).1) rb
      have lc2 : ∀ x4 : Option Ow, eLc (eB (eVar 3) itD) (gtTup 2 (gtCons (gtName 5) (gtCons (gtName 6) gtNil))) cYes (eM (eVar 5) Ow.d) [5, 6] (E2 (some (.d (.str (tx k.1)))) (some (.d (.list (rs.map encRw)))) x4 a5 a6 a7) = .ok (.l (rs.map fun r => .d (.str r.nm))) := fun x4 => by
        refine eLc_of (ds := rs.map encRw) rfl (by rw [List.length_map, sizeLine_eq]; omega) ?_
        refine lcR_map encRw (fun r => Ow.d (.str r.nm)) rs fun r hr => ⟨E2 (some (.d (.str (tx k.1)))) (some (.d (.list (rs.map encRw)))) x4 (some (.d (.str r.nm))) (some (.d (.tuple (r.br.map PyData.str)))) a7, rfl, rfl, rfl⟩
      have lc3 : ∀ x4 : Option Ow, eLc (eB (eVar 3) itD) (gtTup 2 (gtCons (gtName 5) (gtCons (gtName 6) gtNil))) cYes (eM (eVar 6) Ow.d) [5, 6] (E2 (some (.d (.str (tx k.1)))) (some (.d (.list (rs.map encRw)))) x4 a5 a6 a7) = .ok (.l (rs.map fun r => .d (.tuple (r.br.map PyData.str)))) := fun x4 => by
        refine eLc_of (ds := rs.map encRw) rfl (by rw [List.length_map, sizeLine_eq]; omega) ?_
        refine lcR_map encRw (fun r => Ow.d (.tuple (r.br.map PyData.str))) rs fun r hr => ⟨E2 (some (.d (.str (tx k.1)))) (some (.d (.list (rs.map encRw)))) x4 (some (.d (.str r.nm))) (some (.d (.tuple (r.br.map PyData.str)))) a7, rfl, rfl, rfl⟩
      have lv2 : viewD (.l (rs.map fun r => .d (.str r.nm))) = .list ((rs.map (·.nm)).map PyData.str) := by
        rw [List.map_map]
        exact viewD_of (fun r : Rw => PyData.str r.nm) rs
      have lv3 : viewD (.l (rs.map fun r => .d (.tuple (r.br.map PyData.str)))) = .list (rs.map fun r => .tuple (r.br.map PyData.str)) := viewD_of (fun r : Rw => PyData.tuple (r.br.map PyData.str)) rs
      obtain ⟨N4, hN4⟩ : ∃ N4, N4 = PyData.list ((rs.map (·.nm)).map PyData.str) := ⟨_, rfl⟩
      have s4 : (sSet 4 (eM (eM (eLc (eB (eVar 3) itD) (gtTup 2 (gtCons (gtName 5) (gtCons (gtName 6) gtNil))) cYes (eM (eVar 5) Ow.d) [5, 6]) viewD) Ow.d)) (E2 (some (.d (.str (tx k.1)))) (some (.d (.list (rs.map encRw)))) a4 a5 a6 a7) = .nx (E2 (some (.d (.str (tx k.1)))) (some (.d (.list (rs.map encRw)))) (some (.d N4)) a5 a6 a7) := by
        rw [sSet_eq, eM_eq, eM_eq, lc2, R.map_ok, R.map_ok, lv2, R.st_ok, hN4]
        rfl
      rw [← hN4] at ls2 ln2
      have s5 : (sIf (eB (eBin gLt (eB (eVar 4) gLenSet) (eM (eCa gLen (aCons (eVar 4) aNil)) viewD)) asB)
        (sRaise "NoWood")
        sSkip) (E2 (some (.d (.str (tx k.1)))) (some (.d (.list (rs.map encRw)))) (some (.d N4)) a5 a6 a7) = .nx (E2 (some (.d (.str (tx k.1)))) (some (.d (.list (rs.map encRw)))) (some (.d N4)) a5 a6 a7) := by
        show (sIf _ _ _) [_, _, _, _, _, _, _, _] = .nx [_, _, _, _, _, _, _, _]
        generalize encWd (toWd w) = WD at *
        generalize PyData.list (rs.map encRw) = RL at *
        generalize PyData.list (ks.map PyData.str) = KD at *
        generalize (((rs.map (·.nm)).length : Nat) : Int) = z at *
        simp [ls2, ln2, gl2]
      have s6 : (sIf (eB (eBin gNotIn (eTup aNil) (eM (eLc (eB (eVar 3) itD) (gtTup 2 (gtCons (gtName 5) (gtCons (gtName 6) gtNil))) cYes (eM (eVar 6) Ow.d) [5, 6]) viewD)) asB)
        (sRaise "NoWood")
        sSkip) (E2 (some (.d (.str (tx k.1)))) (some (.d (.list (rs.map encRw)))) (some (.d N4)) a5 a6 a7) = .nx (E2 (some (.d (.str (tx k.1)))) (some (.d (.list (rs.map encRw)))) (some (.d N4)) a5 a6 a7) := by
        have c : (eB (eBin gNotIn (eTup aNil) (eM (eLc (eB (eVar 3) itD) (gtTup 2 (gtCons (gtName 5) (gtCons (gtName 6) gtNil))) cYes (eM (eVar 6) Ow.d) [5, 6]) viewD)) asB) (E2 (some (.d (.str (tx k.1)))) (some (.d (.list (rs.map encRw)))) (some (.d N4)) a5 a6 a7) = .ok false := by
          have tp : (eTup aNil) (E2 (some (.d (.str (tx k.1)))) (some (.d (.list (rs.map encRw)))) (some (.d N4)) a5 a6 a7) = .ok (.tuple []) := by simp [sizeLine_eq]
          rw [eB_eq, eBin_eq, tp, R.bind_ok, eM_eq, lc3, R.map_ok, R.bind_ok, lv3, ni]
          rfl
        rw [sIf_eq, c, R.st_ok]
        rfl
      obtain ⟨env', lp, b5, b6, b7, e'⟩ := forL_all (g := gtTup 2 (gtCons (gtName 5) (gtCons (gtName 6) gtNil))) (f := (sFor (eB (eVar 6) itD) (gtName 7)
        (sIf (eB (eBin gNotIn (eVar 7) (eVar 1)) asB)
        (sRaise "NoWood")
        sSkip))) (fun env => ∃ b5 b6 b7, env = E2 (some (.d (.str (tx k.1)))) (some (.d (.list (rs.map encRw)))) (some (.d N4)) b5 b6 b7) (rs.map encRw) (by
          rintro d hd _ ⟨b5, b6, b7, rfl⟩
          obtain ⟨r, hr, rfl⟩ := List.mem_map.mp hd
          refine ⟨E2 (some (.d (.str (tx k.1)))) (some (.d (.list (rs.map encRw)))) (some (.d N4)) (some (.d (.str r.nm))) (some (.d (.tuple (r.br.map PyData.str)))) b7, rfl, ?_⟩
          obtain ⟨env', lp, c7, e'⟩ := forL_all (g := gtName 7) (f := (sIf (eB (eBin gNotIn (eVar 7) (eVar 1)) asB)
            (sRaise "NoWood")
            sSkip)) (fun env => ∃ c7, env = E2 (some (.d (.str (tx k.1)))) (some (.d (.list (rs.map encRw)))) (some (.d N4)) (some (.d (.str r.nm))) (some (.d (.tuple (r.br.map PyData.str)))) c7) (r.br.map PyData.str) (by
              rintro d hd _ ⟨c7, rfl⟩
              obtain ⟨z, hz, rfl⟩ := List.mem_map.mp hd
              obtain ⟨zo, zk⟩ := (rm r hr).2 z hz
              have ni := notIn_strs zo kok
              have an : (ks.any fun x => x == z) = true := List.any_eq_true.mpr ⟨z, zk, by simp⟩
              rw [an] at ni
              refine ⟨E2 (some (.d (.str (tx k.1)))) (some (.d (.list (rs.map encRw)))) (some (.d N4)) (some (.d (.str r.nm))) (some (.d (.tuple (r.br.map PyData.str)))) (some (.d (.str z))), rfl, E2 (some (.d (.str (tx k.1)))) (some (.d (.list (rs.map encRw)))) (some (.d N4)) (some (.d (.str r.nm))) (some (.d (.tuple (r.br.map PyData.str)))) (some (.d (.str z))), ?_, _, rfl⟩
              show (sIf _ _ _) [_, _, _, _, _, _, _, _] = .nx [_, _, _, _, _, _, _, _]
              generalize encWd (toWd w) = WD at *
              generalize PyData.list (rs.map encRw) = RL at *
              generalize PyData.list (ks.map PyData.str) = KD at *
              generalize PyData.tuple (r.br.map PyData.str) = BT at *
              simp [ni]) _ ⟨b7, rfl⟩
          refine ⟨env', ?_, _, _, c7, e'⟩
          have it : (eB (eVar 6) itD) (E2 (some (.d (.str (tx k.1)))) (some (.d (.list (rs.map encRw)))) (some (.d N4)) (some (.d (.str r.nm))) (some (.d (.tuple (r.br.map PyData.str)))) b7) = .ok (r.br.map PyData.str) := rfl
          rw [sFor_eq, it, R.st_ok, lp]) (E2 (some (.d (.str (tx k.1)))) (some (.d (.list (rs.map encRw)))) (some (.d N4)) a5 a6 a7) ⟨a5, a6, a7, rfl⟩
      refine ⟨env', ?_, _, _, _, b5, b6, b7, e'⟩
      rw [sqW s4, sqW s5, sqW s6]
      have it : (eB (eVar 3) itD) (E2 (some (.d (.str (tx k.1)))) (some (.d (.list (rs.map encRw)))) (some (.d N4)) a5 a6 a7) = .ok (rs.map encRw) := rfl
      rw [sFor_eq, it, R.st_ok, lp]) (E2 none none none none none none) ⟨none, none, none, none, none, none, rfl⟩
  have it : (eB (eVar 0) itD) [some (.d (encWd (toWd w))), some (.d (.list (ks.map PyData.str))), none, none, none, none, none, none] = .ok ((toWd w).map encKd) := rfl
  rw [sFor_eq, it, R.st_ok, lp]
  rfl
end
end Mir
set_option Elab.async false
set_option linter.all false
set_option maxRecDepth 100000
set_option maxHeartbeats 4000000
namespace Mir
open PySem PySem.Spec L2
noncomputable section
abbrev encRW (r : WdR) : D := encRw (toRw r)
def leW (a b : WdR) : Bool := PySem.W.dataLe false id (encRW a) (encRW b)
def srtW (rs : List WdR) : List WdR := rs.mergeSort leW
theorem srtW_perm (rs : List WdR) : (srtW rs).Perm rs := List.mergeSort_perm _ _
theorem srtW_enc (rs : List WdR) : sortedD (rs.map encRW) = (srtW rs).map encRW := by
  have := List.map_mergeSort (r := leW) (s := PySem.W.dataLe false id) (f := encRW) (l := rs) (fun a _ b _ => rfl)
  exact this.symm
theorem gSorted_rows (rs : List WdR) : gSorted [.list (rs.map encRW)] = some (.l ((srtW rs).map fun r => .d (encRW r))) := by
  obtain ⟨rows', _, h⟩ := sorted_rows (rs.map toRw)
  rw [List.map_map] at h
  have h : (if sortOk (rs.map encRW) = true then some (Ow.l ((sortedD (rs.map encRW)).map Ow.d)) else none) = some (.l (rows'.map fun r => .d (encRw r))) := h
  show (if sortOk (rs.map encRW) = true then some (Ow.l ((sortedD (rs.map encRW)).map Ow.d)) else none) = _
  by_cases c : sortOk (rs.map encRW) = true
  · rw [if_pos c, srtW_enc, List.map_map]
    rfl
  · rw [if_neg c] at h; cases h
theorem srtW_again (rs : List WdR) : srtW (srtW rs) = srtW rs := by
  have T := PySem.W.sortLe_total (PyProof.Rows.listOrd PyProof.Rows.itemOrd) false fun d : PyData => PySem.W.keyToks (id d)
  refine List.mergeSort_of_pairwise ?_
  exact List.pairwise_mergeSort (fun a b c h1 h2 => T.trans (encRW a) (encRW b) (encRW c) h1 h2) (fun a b => by
    rw [Bool.or_eq_true]
    exact T.total (encRW a) (encRW b)) rs
def srtWd (w : List WdK) : List WdK := w.map fun k => (k.1, srtW k.2)
theorem srtWd_again (w : List WdK) : srtWd (srtWd w) = srtWd w := by
  unfold srtWd
  rw [List.map_map]
  exact List.map_congr_left fun k _ => by show (k.1, srtW (srtW k.2)) = _; rw [srtW_again]
theorem okWd_srt {w : List WdK} (h : OkWd w) : OkWd (srtWd w) := by
  have mem : ∀ k ∈ srtWd w, ∃ q ∈ w, k = (q.1, srtW q.2) := fun k hk => by
    obtain ⟨q, hq, rfl⟩ := List.mem_map.mp hk
    exact ⟨q, hq, rfl⟩
  have ks : (srtWd w).map (·.1) = w.map (·.1) := by unfold srtWd; rw [List.map_map]; rfl
  refine ⟨fun k hk => ?_, ?_, ?_, by rw [ks]; exact h.nd, fun k hk => ?_, fun k hk => ?_, fun k hk r hr b hb => ?_⟩
  · obtain ⟨q, hq, rfl⟩ := mem k hk
    have o := h.ok q hq
    exact ⟨o.nm, fun e => o.some (by have := (srtW_perm q.2).length_eq; rw [show srtW q.2 = [] from e] at this; exact List.length_eq_zero_iff.mp this.symm), by show (srtW q.2).length ≤ 100; rw [(srtW_perm q.2).length_eq]; exact o.few, fun r hr => o.rows r ((srtW_perm q.2).mem_iff.mp hr)⟩
  · unfold srtWd; simp [h.some]
  · unfold srtWd; rw [List.length_map]; exact h.few
  · obtain ⟨q, hq, rfl⟩ := mem k hk
    exact ((srtW_perm q.2).map _).nodup_iff.mpr (h.names q hq)
  · obtain ⟨q, hq, rfl⟩ := mem k hk
    obtain ⟨r, hr, e⟩ := h.bare q hq
    exact ⟨r, (srtW_perm q.2).mem_iff.mpr hr, e⟩
  · obtain ⟨q, hq, rfl⟩ := mem k hk
    rw [ks]
    exact h.told q hq r ((srtW_perm q.2).mem_iff.mp hr) b hb
def kindO (k : WdK) : Ow := .t [.d (.str (tx k.1)), .l (k.2.map fun r => .d (encRW r))]
def woodO (w : List WdK) : Ow := .l (w.map kindO)
theorem encKd_W (k : WdK) : encKd (toKd k) = .tuple [.str (tx k.1), .list (k.2.map encRW)] := by
  unfold encKd toKd
  simp only [List.map_map]
  rfl
theorem vw_kindO (k : WdK) : viewD (kindO k) = encKd (toKd k) := by
  unfold kindO
  rw [viewD_t, viewAll_cons, viewAll_cons, viewAll_nil, viewD_d, viewD_of (fun r : WdR => encRW r) k.2, encKd_W]
theorem vw_woodO (w : List WdK) : viewD (woodO w) = encWd (toWd w) := by
  unfold woodO encWd toWd
  rw [viewD_l, viewAll_map, List.map_map, List.map_map]
  congr 1
  exact List.map_congr_left fun k _ => vw_kindO k
theorem encWd_W (w : List WdK) : encWd (toWd w) = .list (w.map fun k => encKd (toKd k)) := by
  unfold encWd toWd
  rw [List.map_map]
  rfl
abbrev bReadWood (f2 f4 f6 f7 : List D → R Ow) : Ev → SR :=
    (sSeq (sSet 1 (eM (eM (eLc (eB (eM (eB (aCons (eM (eB (aCons (eVar 0) aNil) f2) viewD) (aCons (eC (.str ";")) aNil)) f4) viewD) itD) (gtName 2) cYes (eB (aCons (eVar 2) aNil) f6) [2]) viewD) Ow.d))
    (sSeq (sIf (tOrE (eB (eBin gGt (eM (eCa gLen (aCons (eVar 1) aNil)) viewD) (eC (.int 6))) asB) (eB (eBin gGt (eM (eCa gSum (aCons (eB (eLc (eB (eVar 1) itD) (gtTup 2 (gtCons (gtName 3) (gtCons (gtName 4) gtNil))) cYes (eCa gLen (aCons (eVar 4) aNil)) [3, 4]) shD) aNil)) viewD) (eC (.int 16))) asB))
    (sRaise "NoText")
    sSkip)
    (sSeq (sDrop (eM (eB (aCons (eVar 1) aNil) f7) viewD))
    (sRet (eLc (eB (eVar 1) itD) (gtTup 2 (gtCons (gtName 3) (gtCons (gtName 4) gtNil))) cYes (eTupO (oCons (eM (eVar 3) Ow.d) (oCons (eCa gSorted (aCons (eVar 4) aNil)) oNil))) [3, 4])))))
theorem kindWs_len {k : WdK} (h : OkK k) : (kindWs k).length ≤ 802 := by
  have := (joinRows_len h).2
  unfold kindWs
  simp
  omega
theorem woodWs_len {w : List WdK} (h : OkWd w) : (woodWs w).length ≤ 100000 := by
  have a := joinWs_len [59] (w.map kindWs)
  rw [List.map_map] at a
  have b := sum_le_mul ((fun p : List Wo => p.length + 1) ∘ kindWs) 803 w fun k hk => by have := kindWs_len (h.ok k hk); show (kindWs k).length + 1 ≤ 803; omega
  have := h.few
  unfold woodWs
  omega
theorem readWood_fin {f2 f4 f6 f7 : List D → R Ow} {w : List WdK} (h : OkWd w) (h6 : w.length ≤ 6) (h16 : (w.map fun k => k.2.length).sum ≤ 16) {T : D} (e2 : f2 [T] = .ok (rowWO (woodWs w))) (e4 : ∀ ws s, ws.length ≤ 100000 → f4 [rowWD ws, .str (tx s)] = .ok (.l ((splitA s [] ws).map rowWO))) (e6 : ∀ k, OkK k → f6 [rowWD (kindWs k)] = .ok (.d (encKd (toKd k)))) (e7 : f7 [encWd (toWd w)] = .ok (.d .none)) : finR (bReadWood f2 f4 f6 f7 (envOf 4 [T])) = .ok (woodO (srtWd w)) := by
  have he : envOf 4 [T] = [some (.d T), none, none, none, none] := rfl
  rw [he]
  have vr := vw_rowWO (woodWs w)
  have pt := e4 (woodWs w) [59] (woodWs_len h)
  rw [show woodWs w = joinWs [59] (w.map kindWs) from rfl, split_join (fun p hp => by obtain ⟨k, hk, rfl⟩ := List.mem_map.mp hp; exact semi_notin (h.ok k hk)) (by simp [h.some])] at pt
  rw [← show woodWs w = joinWs [59] (w.map kindWs) from rfl, ← semi_is2] at pt
  have vp := vw_parts (w.map kindWs)
  have lc : eLc (eB (eM (eB (aCons (eM (eB (aCons (eVar 0) aNil) f2) viewD) (aCons (eC (.str ";")) aNil)) f4) viewD) itD) (gtName 2) cYes (eB (aCons (eVar 2) aNil) f6) [2] [some (.d T), none, none, none, none] = .ok (.l (w.map fun k => .d (encKd (toKd k)))) := by
    refine eLc_of (ds := w.map fun k => rowWD (kindWs k)) ?_ (by rw [List.length_map, sizeLine_eq]; omega) ?_
    · have e : (w.map kindWs).map rowWD = w.map fun k => rowWD (kindWs k) := by rw [List.map_map]; rfl
      rw [← e]
      generalize (Ow.l ((w.map kindWs).map rowWO)) = PO at *
      generalize (w.map kindWs).map rowWD = PD at *
      generalize rowWO (woodWs w) = JO at *
      generalize rowWD (woodWs w) = JD at *
      simp [e2, vr, pt, vp]
    · refine lcR_map (fun k => rowWD (kindWs k)) (fun k => Ow.d (encKd (toKd k))) w fun k hk => ⟨[some (.d T), none, some (.d (rowWD (kindWs k))), none, none], rfl, rfl, ?_⟩
      have := e6 k (h.ok k hk)
      generalize rowWD (kindWs k) = KD at *
      simp [this]
  have lv : viewD (.l (w.map fun k => .d (encKd (toKd k)))) = encWd (toWd w) := by
    rw [encWd_W]
    exact viewD_of (fun k : WdK => encKd (toKd k)) w
  refine fin_step (env1 := [some (.d T), some (.d (encWd (toWd w))), none, none, none]) (by rw [sSet_eq, eM_eq, eM_eq, lc, R.map_ok, R.map_ok, lv, R.st_ok]; rfl) ?_
  have ln : gLen [encWd (toWd w)] = some (.d (.int (w.length : Nat))) := by
    rw [encWd_W]
    show some (Ow.d (PyData.int ((w.map fun k => encKd (toKd k)).length : Nat))) = _
    rw [List.length_map]
  have g6 : gGt (.int (w.length : Nat)) (.int 6) = some (.bool false) := by
    show some (PyData.bool (decide ((6 : Int) < ((w.length : Nat) : Int)))) = _
    rw [decide_eq_false (by omega)]
  have g16 : gGt (.int ((w.map fun k => k.2.length).sum : Nat)) (.int 16) = some (.bool false) := by
    show some (PyData.bool (decide ((16 : Int) < (((w.map fun k => k.2.length).sum : Nat) : Int)))) = _
    rw [decide_eq_false (by omega)]
  have itW : (eB (eVar 1) itD) [some (.d T), some (.d (encWd (toWd w))), none, none, none] = .ok (w.map fun k => encKd (toKd k)) := by
    rw [encWd_W]
    rfl
  have lcS : eLc (eB (eVar 1) itD) (gtTup 2 (gtCons (gtName 3) (gtCons (gtName 4) gtNil))) cYes (eCa gLen (aCons (eVar 4) aNil)) [3, 4] [some (.d T), some (.d (encWd (toWd w))), none, none, none] = .ok (.l (w.map fun k => .d (.int (k.2.length : Nat)))) := by
    refine eLc_of (ds := w.map fun k => encKd (toKd k)) itW (by rw [List.length_map, sizeLine_eq]; omega) ?_
    refine lcR_map (fun k => encKd (toKd k)) (fun k => Ow.d (.int (k.2.length : Nat))) w fun k hk => ⟨[some (.d T), some (.d (encWd (toWd w))), none, some (.d (.str (tx k.1))), some (.d (.list (k.2.map encRW)))], by rw [encKd_W]; rfl, rfl, ?_⟩
    have : gLen [.list (k.2.map encRW)] = some (.d (.int (k.2.length : Nat))) := by
      show some (Ow.d (PyData.int ((k.2.map encRW).length : Nat))) = _
      rw [List.length_map]
    generalize PyData.list (k.2.map encRW) = RL at *
    generalize encWd (toWd w) = WD
    simp [this]
  have sh : shD (.l (w.map fun k => .d (.int (k.2.length : Nat)))) = .ok (.list ((w.map fun k => ((k.2.length : Nat) : Int)).map PyData.int)) := by
    have := shD_l ((w.map fun k => ((k.2.length : Nat) : Int)).map PyData.int)
    rw [List.map_map] at this
    rw [List.map_map] at this
    exact this
  have su : gSum [.list ((w.map fun k => ((k.2.length : Nat) : Int)).map PyData.int)] = some (.d (.int ((w.map fun k => k.2.length).sum : Nat))) := by
    show ((intsD ((w.map fun k => ((k.2.length : Nat) : Int)).map PyData.int)).map fun ns => Ow.d (.int ns.sum)) = _
    rw [intsD_map]
    have e : ∀ l : List WdK, ((l.map fun k => ((k.2.length : Nat) : Int)).sum) = (((l.map fun k => k.2.length).sum : Nat) : Int) := fun l => by
      induction l with
      | nil => rfl
      | cons k l ih => rw [List.map_cons, List.sum_cons, List.map_cons, List.sum_cons, ih, Int.natCast_add]
    rw [← e]
    rfl
  refine fin_step (env1 := [some (.d T), some (.d (encWd (toWd w))), none, none, none]) (by
    generalize (Ow.l (w.map fun k => .d (.int (k.2.length : Nat)))) = SO at *
    generalize PyData.list ((w.map fun k => ((k.2.length : Nat) : Int)).map PyData.int) = SL at *
    generalize encWd (toWd w) = WD at *
    generalize ((w.length : Nat) : Int) = z1 at *
    generalize (((w.map fun k => k.2.length).sum : Nat) : Int) = z2 at *
    simp [ln, g6, lcS, sh, su, g16]) ?_
  refine fin_step (env1 := [some (.d T), some (.d (encWd (toWd w))), none, none, none]) (by
    clear lcS itW lc
    generalize encWd (toWd w) = WD at *
    simp [e7]) ?_
  have lcR : eLc (eB (eVar 1) itD) (gtTup 2 (gtCons (gtName 3) (gtCons (gtName 4) gtNil))) cYes (eTupO (oCons (eM (eVar 3) Ow.d) (oCons (eCa gSorted (aCons (eVar 4) aNil)) oNil))) [3, 4] [some (.d T), some (.d (encWd (toWd w))), none, none, none] = .ok (woodO (srtWd w)) := by
    have e : woodO (srtWd w) = .l (w.map fun k => kindO (k.1, srtW k.2)) := by
      unfold woodO srtWd
      rw [List.map_map]
      rfl
    rw [e]
    refine eLc_of (ds := w.map fun k => encKd (toKd k)) itW (by rw [List.length_map, sizeLine_eq]; omega) ?_
    refine lcR_map (fun k => encKd (toKd k)) (fun k => kindO (k.1, srtW k.2)) w fun k hk => ⟨[some (.d T), some (.d (encWd (toWd w))), none, some (.d (.str (tx k.1))), some (.d (.list (k.2.map encRW)))], by rw [encKd_W]; rfl, rfl, ?_⟩
    have so := gSorted_rows k.2
    unfold kindO
    generalize (Ow.l ((srtW k.2).map fun r => .d (encRW r))) = SO at *
    generalize PyData.list (k.2.map encRW) = RL at *
    generalize encWd (toWd w) = WD
    simp [so, sizeLine_eq]
  show finR (sRet _ _) = _
  rw [sRet_eq, lcR]
  rfl
end
end Mir
set_option Elab.async false
set_option linter.all false
set_option maxRecDepth 100000
set_option maxHeartbeats 4000000
namespace Mir
open PySem PySem.Spec L2
noncomputable section
def rwT (r : WdR) : List Nat := r.1 ++ (if r.2 = [] then [] else [40] ++ (glue [32] r.2 ++ [41]))
def kdT (k : WdK) : List Nat := (k.1 ++ [32, 61, 32]) ++ glue [32, 124, 32] (k.2.map rwT)
def wdT (w : List WdK) : List Nat := glue [59, 32] (w.map kdT)
theorem glueW_len (s : List Nat) (h : s.length ≤ 3) : ∀ l : List (List Nat), (glue s l).length ≤ (l.map fun w => w.length + 3).sum
  | [] => by simp [glue]
  | a :: r => by
    have e : ∀ r : List (List Nat), ((r.map fun b => s ++ b).flatten).length ≤ (r.map fun w => w.length + 3).sum := fun r => by
      induction r with
      | nil => simp
      | cons b r ih =>
        rw [List.map_cons, List.flatten_cons, List.length_append, List.length_append, List.map_cons, List.sum_cons]
        omega
    have := e r
    rw [glue, List.length_append, List.map_cons, List.sum_cons]
    omega
theorem sum_plusW (l : List (List Nat)) : (l.map fun w => w.length + 3).sum = (l.map List.length).sum + l.length * 3 := by
  induction l with
  | nil => rfl
  | cons a l ih => rw [List.map_cons, List.sum_cons, List.map_cons, List.sum_cons, ih, List.length_cons, Nat.succ_mul]; omega
theorem gJoinL (s : List Nat) (hs : s.length ≤ 3) (l : List (List Nat)) (B : Nat) (hl : l.length ≤ 1000) (hb : ∀ w ∈ l, w.length ≤ B) (hB : B ≤ 10000) : gJoin (.str (tx s)) (.list (l.map fun w => .str (tx w))) = some (.str (tx (glue s l))) ∧ (glue s l).length ≤ l.length * (B + 3) := by
  have a := sum_le_mul (fun w : List Nat => w.length + 3) (B + 3) l fun w hw => by have := hb w hw; omega
  have b := glueW_len s hs l
  have c := sum_plusW l
  have d : l.length * (B + 3) ≤ 1000 * 10003 := Nat.mul_le_mul hl (by omega)
  have e : l.length * s.length ≤ l.length * 3 := Nat.mul_le_mul_left _ hs
  exact ⟨gJoin_tx s l (by omega), by omega⟩
theorem spW_is : (" " : Str) = tx [32] := by rw [tx_of (" " : Str)]; congr 1
theorem bars_is : (" | " : Str) = tx [32, 124, 32] := by rw [tx_of (" | " : Str)]; congr 1
theorem eqs_is : (" = " : Str) = tx [32, 61, 32] := by rw [tx_of (" = " : Str)]; congr 1
theorem semis_is : ("; " : Str) = tx [59, 32] := by rw [tx_of ("; " : Str)]; congr 1
theorem rwT_len {r : WdR} (h : OkR r) : (rwT r).length ≤ 60 := by
  have n8 := h.nm.2.2
  have b4 := h.few
  have a := (gJoinL [32] (by decide) r.2 8 (by omega) (fun w hw => (h.br w hw).2.2) (by decide)).2
  unfold rwT
  split
  · simp; omega
  · simp only [List.length_append, List.length_cons, List.length_nil]
    have : r.2.length * (8 + 3) ≤ 4 * 11 := Nat.mul_le_mul_right _ b4
    omega
theorem brTup_eq {r : WdR} (h : OkR r) : gEq (.tuple (r.2.map fun b => .str (tx b))) (.tuple []) = some (.bool r.2.isEmpty) := by
  have := bare_eq (r := toRw r) fun z hz => by
    obtain ⟨b, hb, rfl⟩ := List.mem_map.mp (show z ∈ r.2.map tx from hz)
    exact (h.br b hb).ok
  have e : (toRw r).br.map PyData.str = r.2.map fun b => .str (tx b) := by
    unfold toRw
    simp only [List.map_map]
    rfl
  rw [e] at this
  rw [this]
  unfold toRw
  simp only
  cases r.2 <;> rfl
/-- name(branches), as a value -/
theorem brx_ok {r : WdR} (h : OkR r) (hb : r.2 ≠ []) {N J : Ev → R D} {env : Ev} (hN : N env = .ok (.str (tx r.1))) (hJ : J env = .ok (.tuple (r.2.map fun b => .str (tx b)))) : (eBinO gAdd (eB (eBinO gAdd (eB (eBinO gAdd N (eC (.str "("))) shD) (eJoin (eC (.str " ")) J)) shD) (eC (.str ")"))) env = .ok (.d (.str (tx (rwT r)))) := by
  have n8 := h.nm.2.2
  have b4 := h.few
  obtain ⟨j1, j2⟩ := gJoinL [32] (by decide) r.2 8 (by omega) (fun w hw => (h.br w hw).2.2) (by decide)
  have : r.2.length * (8 + 3) ≤ 4 * 11 := Nat.mul_le_mul_right _ b4
  have j1 : gJoin (.str " ") (.tuple (r.2.map fun b => .str (tx b))) = some (.str (tx (glue [32] r.2))) := by rw [spW_is]; exact j1
  have a1 : gAdd (.str (tx r.1)) (.str "(") = some (.d (.str (tx (r.1 ++ [40])))) := by rw [op_is2]; exact gAdd_tx (by simp; omega)
  have a2 : gAdd (.str (tx (r.1 ++ [40]))) (.str (tx (glue [32] r.2))) = some (.d (.str (tx (r.1 ++ [40] ++ glue [32] r.2)))) := gAdd_tx (by simp; omega)
  have a3 : gAdd (.str (tx (r.1 ++ [40] ++ glue [32] r.2))) (.str ")") = some (.d (.str (tx (r.1 ++ [40] ++ glue [32] r.2 ++ [41])))) := by rw [cl_is2]; exact gAdd_tx (by simp; omega)
  have e : r.1 ++ [40] ++ glue [32] r.2 ++ [41] = rwT r := by unfold rwT; rw [if_neg hb]; simp
  rw [e] at a3
  have eJ := eJoin_eq (f := eC (.str " ")) (g := J) (env := env) (a := " ") rfl hJ
  rw [j1] at eJ
  generalize tx (r.1 ++ [40] ++ glue [32] r.2) = t3 at *
  generalize tx (r.1 ++ [40]) = t2 at *
  generalize tx (glue [32] r.2) = t1 at *
  simp [hN, a1, a2, a3, eJ]
abbrev bShowRow : Ev → SR :=
    (sSeq (sIf (eB (eBin gEq (eBin gIx (eVar 0) (eC (.int 1))) (eTup aNil)) asB)
    (sRet (eM (eBin gIx (eVar 0) (eC (.int 0))) Ow.d))
    sSkip)
    (sRet (eBinO gAdd (eB (eBinO gAdd (eB (eBinO gAdd (eBin gIx (eVar 0) (eC (.int 0))) (eC (.str "("))) shD) (eJoin (eC (.str " ")) (eBin gIx (eVar 0) (eC (.int 1))))) shD) (eC (.str ")")))))
theorem encRW_eq (r : WdR) : encRW r = .tuple [.str (tx r.1), .tuple (r.2.map fun b => .str (tx b))] := by
  unfold encRW encRw toRw
  simp only [List.map_map]
  rfl
theorem showRow_fin {r : WdR} (h : OkR r) : finR (bShowRow (envOf 0 [encRW r])) = .ok (.d (.str (tx (rwT r)))) := by
  have he : envOf 0 [encRW r] = [some (.d (encRW r))] := rfl
  rw [he]
  have i0 : gIx (encRW r) (.int 0) = some (.str (tx r.1)) := by rw [encRW_eq]; rfl
  have i1 : gIx (encRW r) (.int 1) = some (.tuple (r.2.map fun b => .str (tx b))) := by rw [encRW_eq]; rfl
  have q := brTup_eq h
  by_cases hb : r.2 = []
  · have e : rwT r = r.1 := by unfold rwT; rw [if_pos hb]; simp
    have em : r.2.isEmpty = true := by rw [hb]; rfl
    rw [em] at q
    rw [e]
    generalize PyData.tuple (r.2.map fun b => .str (tx b)) = BT at *
    generalize encRW r = RD at *
    simp [i0, i1, q, sizeLine_eq, SR.andThen, finR]
  · have em : r.2.isEmpty = false := by
      cases e : r.2 with
      | nil => exact absurd e hb
      | cons => rfl
    rw [em] at q
    refine fin_step (env1 := [some (.d (encRW r))]) (by
      generalize PyData.tuple (r.2.map fun b => .str (tx b)) = BT at *
      generalize encRW r = RD at *
      simp [i0, i1, q, sizeLine_eq]) ?_
    have := brx_ok h hb (N := eBin gIx (eVar 0) (eC (.int 0))) (J := eBin gIx (eVar 0) (eC (.int 1))) (env := [some (.d (encRW r))]) (by generalize encRW r = RD at *; simp [i0]) (by generalize encRW r = RD at *; simp [i1])
    show finR (sRet _ _) = _
    rw [sRet_eq, this]
    rfl
abbrev swB (f9 : List D → R Ow) : Ev → SR := (sApp 1 (eBinO gAdd (eB (eBinO gAdd (eVar 2) (eC (.str " = "))) shD) (eJoin (eC (.str " | ")) (eB (eLc (eB (eVar 3) itD) (gtName 4) cYes (eB (aCons (eVar 4) aNil) f9) [4]) shD))))
abbrev bShowWood (f9 : List D → R Ow) : Ev → SR :=
    (sSeq (sSet 1 (eLst aNil))
    (sSeq (sFor (eB (eVar 0) itD) (gtTup 2 (gtCons (gtName 2) (gtCons (gtName 3) gtNil)))
    (swB f9))
    (sRet (eM (eJoin (eC (.str "; ")) (eB (eVarO 1) shD)) Ow.d))))
theorem kdT_len {k : WdK} (h : OkK k) : (kdT k).length ≤ 7000 := by
  have n8 := h.nm.2.2
  have few := h.few
  have a := (gJoinL [32, 124, 32] (by decide) (k.2.map rwT) 60 (by rw [List.length_map]; omega) (fun w hw => by
    obtain ⟨r, hr, rfl⟩ := List.mem_map.mp hw
    exact rwT_len (h.rows r hr)) (by decide)).2
  rw [List.length_map] at a
  have : k.2.length * (60 + 3) ≤ 100 * 63 := Nat.mul_le_mul_right _ few
  unfold kdT
  simp only [List.length_append, List.length_cons, List.length_nil]
  omega
/-- kind = row | .., as a value -/
theorem kx_ok {k : WdK} (h : OkK k) {N J : Ev → R D} {env : Ev} (hN : N env = .ok (.str (tx k.1))) (hJ : J env = .ok (.list ((k.2.map rwT).map fun b => .str (tx b)))) : (eBinO gAdd (eB (eBinO gAdd N (eC (.str " = "))) shD) (eJoin (eC (.str " | ")) J)) env = .ok (.d (.str (tx (kdT k)))) := by
  have n8 := h.nm.2.2
  have few := h.few
  obtain ⟨j1, j2⟩ := gJoinL [32, 124, 32] (by decide) (k.2.map rwT) 60 (by rw [List.length_map]; omega) (fun w hw => by
    obtain ⟨r, hr, rfl⟩ := List.mem_map.mp hw
    exact rwT_len (h.rows r hr)) (by decide)
  rw [List.length_map] at j2
  have : k.2.length * (60 + 3) ≤ 100 * 63 := Nat.mul_le_mul_right _ few
  rw [← bars_is] at j1
  have a1 : gAdd (.str (tx k.1)) (.str " = ") = some (.d (.str (tx (k.1 ++ [32, 61, 32])))) := by rw [eqs_is]; exact gAdd_tx (by simp; omega)
  have a2 : gAdd (.str (tx (k.1 ++ [32, 61, 32]))) (.str (tx (glue [32, 124, 32] (k.2.map rwT)))) = some (.d (.str (tx (kdT k)))) := gAdd_tx (by simp; omega)
  have eJ := eJoin_eq (f := eC (.str " | ")) (g := J) (env := env) (a := " | ") rfl hJ
  rw [j1] at eJ
  generalize tx (k.1 ++ [32, 61, 32]) = t2 at *
  generalize tx (glue [32, 124, 32] (k.2.map rwT)) = t1 at *
  simp [hN, a1, a2, eJ]
theorem showWood_fin {f9 : List D → R Ow} (h9 : ∀ r, OkR r → f9 [encRW r] = .ok (.d (.str (tx (rwT r))))) {w : List WdK} (h : OkWd w) : finR (bShowWood f9 (envOf 4 [encWd (toWd w)])) = .ok (.d (.str (tx (wdT w)))) := by
  have he : envOf 4 [encWd (toWd w)] = [some (.d (encWd (toWd w))), none, none, none, none] := rfl
  rw [he]
  refine fin_step (env1 := [some (.d (encWd (toWd w))), some (.l []), none, none, none]) (by generalize encWd (toWd w) = WD; simp [sizeLine_eq]) ?_
  have few := h.few
  obtain ⟨env', lp, x2, x3, x4, e'⟩ := forL_ind (g := gtTup 2 (gtCons (gtName 2) (gtCons (gtName 3) gtNil))) (f := swB f9) (w.map fun k => encKd (toKd k)) (fun i env => ∃ x2 x3 x4, env = [some (.d (encWd (toWd w))), some (rowWO ((w.take i).map kdT)), x2, x3, x4]) (by
    rintro i d _ hd ⟨x2, x3, x4, rfl⟩
    rw [List.getElem?_map] at hd
    obtain ⟨k, hk, rfl⟩ := Option.map_eq_some_iff.mp hd
    have o := h.ok k (List.mem_of_getElem? hk)
    have fk := o.few
    refine ⟨[some (.d (encWd (toWd w))), some (rowWO ((w.take i).map kdT)), some (.d (.str (tx k.1))), some (.d (.list (k.2.map encRW))), x4], by rw [encKd_W]; rfl, [some (.d (encWd (toWd w))), some (rowWO ((w.take (i + 1)).map kdT)), some (.d (.str (tx k.1))), some (.d (.list (k.2.map encRW))), x4], .inl ?_, _, _, _, rfl⟩
    have lc : eLc (eB (eVar 3) itD) (gtName 4) cYes (eB (aCons (eVar 4) aNil) f9) [4] [some (.d (encWd (toWd w))), some (rowWO ((w.take i).map kdT)), some (.d (.str (tx k.1))), some (.d (.list (k.2.map encRW))), x4] = .ok (.l (k.2.map fun r => .d (.str (tx (rwT r))))) := by
      refine eLc_of (ds := k.2.map encRW) rfl (by rw [List.length_map, sizeLine_eq]; omega) ?_
      refine lcR_map encRW (fun r => Ow.d (.str (tx (rwT r)))) k.2 fun r hr => ⟨[some (.d (encWd (toWd w))), some (rowWO ((w.take i).map kdT)), some (.d (.str (tx k.1))), some (.d (.list (k.2.map encRW))), some (.d (encRW r))], rfl, rfl, ?_⟩
      have := h9 r (o.rows r hr)
      generalize encRW r = RD at *
      generalize PyData.list (k.2.map encRW) = RL
      generalize rowWO ((w.take i).map kdT) = RO
      generalize encWd (toWd w) = WD
      simp [this]
    have sh : shD (.l (k.2.map fun r => .d (.str (tx (rwT r))))) = .ok (.list ((k.2.map rwT).map fun b => .str (tx b))) := by
      have := shD_l ((k.2.map rwT).map fun b => PyData.str (tx b))
      rw [List.map_map, List.map_map] at this
      exact this
    have kx := kx_ok o (N := eVar 2) (J := eB (eLc (eB (eVar 3) itD) (gtName 4) cYes (eB (aCons (eVar 4) aNil) f9) [4]) shD) (env := [some (.d (encWd (toWd w))), some (rowWO ((w.take i).map kdT)), some (.d (.str (tx k.1))), some (.d (.list (k.2.map encRW))), x4]) rfl (by rw [eB_eq, lc, R.bind_ok, sh])
    have tk : (w.take (i + 1)).map kdT = (w.take i).map kdT ++ [kdT k] := by rw [List.take_add_one, hk]; simp
    show (sApp 1 _) _ = _
    rw [sApp_eq]
    unfold ownL
    simp only [List.getElem?_cons_succ, List.getElem?_cons_zero]
    rw [kx, R.st_ok, if_pos (by rw [List.length_map, List.length_map, List.length_take, sizeLine_eq]; omega), tk]
    unfold rowWO
    rw [List.map_append]
    rfl) [some (.d (encWd (toWd w))), some (.l []), none, none, none] ⟨none, none, none, rfl⟩
  have itW : (eB (eVar 0) itD) [some (.d (encWd (toWd w))), some (.l []), none, none, none] = .ok (w.map fun k => encKd (toKd k)) := by rw [encWd_W]; rfl
  refine fin_step (by rw [sFor_eq, itW, R.st_ok]; exact lp) ?_
  rw [List.length_map, List.take_length] at e'
  subst e'
  obtain ⟨j1, _⟩ := gJoinL [59, 32] (by decide) (w.map kdT) 7000 (by rw [List.length_map]; omega) (fun x hx => by
    obtain ⟨k, hk, rfl⟩ := List.mem_map.mp hx
    exact kdT_len (h.ok k hk)) (by decide)
  rw [← semis_is] at j1
  have sh : shD (rowWO (w.map kdT)) = .ok (.list ((w.map kdT).map fun b => .str (tx b))) := by
    have := shD_l ((w.map kdT).map fun b => PyData.str (tx b))
    rw [List.map_map] at this
    exact this
  have eJ := eJoin_eq (f := eC (.str "; ")) (g := eB (eVarO 1) shD) (env := [some (.d (encWd (toWd w))), some (rowWO (w.map kdT)), x2, x3, x4]) (a := "; ") (d := .list ((w.map kdT).map fun b => .str (tx b))) rfl (by show ((R.ok (rowWO (w.map kdT))).bind shD) = _; rw [R.bind_ok, sh])
  rw [j1] at eJ
  show finR (sRet _ _) = _
  rw [sRet_eq, eM_eq, eJ]
  rfl
end
end Mir
set_option Elab.async false
set_option linter.all false
set_option maxRecDepth 100000
set_option maxHeartbeats 4000000
namespace Mir
open PySem PySem.Spec L2
noncomputable section
theorem sApp_ofW {i : Nat} {f : Ev → R Ow} {env : Ev} {os : List Ow} {r : Ow} (h : env[i]? = some (some (.l os))) (hf : f env = .ok r) (hl : os.length < sizeLine) : sApp i f env = .nx (env.set i (some (.l (os ++ [r])))) := by
  rw [sApp_eq]
  unfold ownL
  rw [h]
  simp only
  rw [hf, R.st_ok, if_pos hl]
theorem nice_rW {r : WdR} (h : OkR r) : (encRW r).canLay0 = true ∧ (encRW r).depth ≤ 3 := by
  have n := nice_strs (l := r.2.map tx) fun z hz => by
    obtain ⟨b, hb, rfl⟩ := List.mem_map.mp hz
    exact (h.br b hb).ok
  have e : (r.2.map tx).map PyData.str = r.2.map fun b => .str (tx b) := by rw [List.map_map]; rfl
  rw [e] at n
  have d := depthAll_of (n := 0) (r.2.map fun b => PyData.str (tx b)) fun d hd => by
    obtain ⟨z, hz, rfl⟩ := List.mem_map.mp hd
    simp [PyData.depth]
  have o := h.nm.ok
  rw [encRW_eq]
  have n1 := n.1
  rw [PyData.canLay0] at n1
  refine ⟨by simp [PyData.canLay0, PyData.canLayAll0, o, n1], ?_⟩
  simp only [PyData.depth, PyData.depthAll]
  omega
theorem nice_kW {k : WdK} (h : OkK k) : (encKd (toKd k)).canLay0 = true ∧ (encKd (toKd k)).depth ≤ 8 := by
  have n := nice_list (ds := k.2.map encRW) (n := 3) (fun d hd => by
    obtain ⟨r, hr, rfl⟩ := List.mem_map.mp hd
    exact nice_rW (h.rows r hr)) (by omega)
  have d := depthAll_of (n := 3) (k.2.map encRW) fun d hd => by
    obtain ⟨r, hr, rfl⟩ := List.mem_map.mp hd
    exact (nice_rW (h.rows r hr)).2
  have o := h.nm.ok
  rw [encKd_W]
  have n1 := n.1
  rw [PyData.canLay0] at n1
  refine ⟨by simp [PyData.canLay0, PyData.canLayAll0, o, n1], ?_⟩
  simp only [PyData.depth, PyData.depthAll]
  omega
theorem nice_wdW {w : List WdK} (h : ∀ k ∈ w, OkK k) : Nice (encWd (toWd w)) := by
  rw [encWd_W]
  exact nice_list (n := 8) (fun d hd => by
    obtain ⟨k, hk, rfl⟩ := List.mem_map.mp hd
    exact nice_kW (h k hk)) (by omega)
abbrev slIn : Ev → SR := (sIf (eB (eBin gEq (eVar 6) (eTup aNil)) asB)
    (sApp 4 (eM (eVar 5) Ow.d))
    (sApp 4 (eBinO gAdd (eB (eBinO gAdd (eB (eBinO gAdd (eVar 5) (eC (.str "("))) shD) (eJoin (eC (.str " ")) (eVar 6))) shD) (eC (.str ")")))))
abbrev slOut : Ev → SR :=
    (sSeq (sSet 4 (eLst aNil))
    (sSeq (sFor (eB (eVar 3) itD) (gtTup 2 (gtCons (gtName 5) (gtCons (gtName 6) gtNil)))
    slIn)
    (sApp 1 (eBinO gAdd (eB (eBinO gAdd (eVar 2) (eC (.str " = "))) shD) (eJoin (eC (.str " | ")) (eB (eVarO 4) shD))))))
abbrev bLawShown : Ev → SR :=
    (sSeq (sSet 1 (eLst aNil))
    (sSeq (sFor (eB (eVar 0) itD) (gtTup 2 (gtCons (gtName 2) (gtCons (gtName 3) gtNil)))
    slOut)
    (sRet (eM (eJoin (eC (.str "; ")) (eB (eVarO 1) shD)) Ow.d))))
theorem sh_rowWO (ws : List Wo) : shD (rowWO ws) = .ok (.list (ws.map fun b => .str (tx b))) := by
  have := shD_l (ws.map fun b => PyData.str (tx b))
  rw [List.map_map] at this
  exact this
theorem lawShown_fin {w : List WdK} (h : OkWd w) : finR (bLawShown (envOf 6 [encWd (toWd w)])) = .ok (.d (.str (tx (wdT w)))) := by
  have he : envOf 6 [encWd (toWd w)] = [some (.d (encWd (toWd w))), none, none, none, none, none, none] := rfl
  rw [he]
  refine fin_step (env1 := [some (.d (encWd (toWd w))), some (.l []), none, none, none, none, none]) (by generalize encWd (toWd w) = WD; simp [sizeLine_eq]) ?_
  have few := h.few
  obtain ⟨env', lp, x2, x3, x4, x5, x6, e'⟩ := forL_ind (g := gtTup 2 (gtCons (gtName 2) (gtCons (gtName 3) gtNil))) (f := slOut) (w.map fun k => encKd (toKd k)) (fun i env => ∃ x2 x3 x4 x5 x6, env = [some (.d (encWd (toWd w))), some (rowWO ((w.take i).map kdT)), x2, x3, x4, x5, x6]) (by
    rintro i d _ hd ⟨x2, x3, x4, x5, x6, rfl⟩
    rw [List.getElem?_map] at hd
    obtain ⟨k, hk, rfl⟩ := Option.map_eq_some_iff.mp hd
    have o := h.ok k (List.mem_of_getElem? hk)
    have fk := o.few
    let E := fun (x4 x5 x6 : Option Ow) => ([some (.d (encWd (toWd w))), some (rowWO ((w.take i).map kdT)), some (.d (.str (tx k.1))), some (.d (.list (k.2.map encRW))), x4, x5, x6] : Ev)
    refine ⟨E x4 x5 x6, by rw [encKd_W]; rfl, ?_⟩
    obtain ⟨env', lp, y5, y6, e'⟩ := forL_ind (g := gtTup 2 (gtCons (gtName 5) (gtCons (gtName 6) gtNil))) (f := slIn) (k.2.map encRW) (fun j env => ∃ y5 y6, env = E (some (rowWO ((k.2.take j).map rwT))) y5 y6) (by
      rintro j d _ hd ⟨y5, y6, rfl⟩
      rw [List.getElem?_map] at hd
      obtain ⟨r, hr, rfl⟩ := Option.map_eq_some_iff.mp hd
      have or := o.rows r (List.mem_of_getElem? hr)
      have q := brTup_eq or
      have tk : (k.2.take (j + 1)).map rwT = (k.2.take j).map rwT ++ [rwT r] := by rw [List.take_add_one, hr]; simp
      have len : ((k.2.take j).map rwT).length ≤ 100 := by rw [List.length_map, List.length_take]; omega
      refine ⟨E (some (rowWO ((k.2.take j).map rwT))) (some (.d (.str (tx r.1)))) (some (.d (.tuple (r.2.map fun b => .str (tx b))))), by rw [encRW_eq]; rfl, E (some (rowWO ((k.2.take (j + 1)).map rwT))) (some (.d (.str (tx r.1)))) (some (.d (.tuple (r.2.map fun b => .str (tx b))))), .inl ?_, _, _, rfl⟩
      have ct : (eB (eBin gEq (eVar 6) (eTup aNil)) asB) (E (some (rowWO ((k.2.take j).map rwT))) (some (.d (.str (tx r.1)))) (some (.d (.tuple (r.2.map fun b => .str (tx b)))))) = .ok r.2.isEmpty := by
        have v6 : eVar 6 (E (some (rowWO ((k.2.take j).map rwT))) (some (.d (.str (tx r.1)))) (some (.d (.tuple (r.2.map fun b => .str (tx b)))))) = .ok (.tuple (r.2.map fun b => .str (tx b))) := rfl
        have tp : (eTup aNil) (E (some (rowWO ((k.2.take j).map rwT))) (some (.d (.str (tx r.1)))) (some (.d (.tuple (r.2.map fun b => .str (tx b)))))) = .ok (.tuple []) := by simp [sizeLine_eq]
        rw [eB_eq, eBin_eq, v6, R.bind_ok, tp, R.bind_ok, q]
        rfl
      have app : ∀ (f : Ev → R Ow), f (E (some (rowWO ((k.2.take j).map rwT))) (some (.d (.str (tx r.1)))) (some (.d (.tuple (r.2.map fun b => .str (tx b)))))) = .ok (.d (.str (tx (rwT r)))) → (sApp 4 f) (E (some (rowWO ((k.2.take j).map rwT))) (some (.d (.str (tx r.1)))) (some (.d (.tuple (r.2.map fun b => .str (tx b)))))) = .nx (E (some (rowWO ((k.2.take (j + 1)).map rwT))) (some (.d (.str (tx r.1)))) (some (.d (.tuple (r.2.map fun b => .str (tx b)))))) := fun f hf => by
        rw [sApp_ofW (os := ((k.2.take j).map rwT).map fun w => .d (.str (tx w))) (r := .d (.str (tx (rwT r)))) rfl hf (by rw [List.length_map, sizeLine_eq]; omega), tk]
        show SR.nx (E (some (.l (_ ++ [_]))) _ _) = _
        unfold rowWO
        rw [List.map_append (l₂ := [rwT r])]
        rfl
      show sIf _ _ _ _ = _
      rw [sIf_eq, ct, R.st_ok]
      by_cases hb : r.2 = []
      · have em : r.2.isEmpty = true := by rw [hb]; rfl
        rw [em, if_pos rfl]
        exact app _ (by
          have e : rwT r = r.1 := by unfold rwT; rw [if_pos hb]; simp
          rw [e]; rfl)
      · have em : r.2.isEmpty = false := by
          cases e : r.2 with
          | nil => exact absurd e hb
          | cons => rfl
        rw [em, if_neg (by simp)]
        exact app _ (brx_ok or hb rfl rfl)) (E (some (.l [])) x5 x6) ⟨x5, x6, rfl⟩
    rw [List.length_map, List.take_length] at e'
    subst e'
    have it3 : (eB (eVar 3) itD) (E (some (.l [])) x5 x6) = .ok (k.2.map encRW) := rfl
    have kx := kx_ok o (N := eVar 2) (J := eB (eVarO 4) shD) (env := E (some (rowWO (k.2.map rwT))) y5 y6) rfl (by show ((R.ok (rowWO (k.2.map rwT))).bind shD) = _; rw [R.bind_ok, sh_rowWO])
    have tk : (w.take (i + 1)).map kdT = (w.take i).map kdT ++ [kdT k] := by rw [List.take_add_one, hk]; simp
    refine ⟨[some (.d (encWd (toWd w))), some (rowWO ((w.take (i + 1)).map kdT)), some (.d (.str (tx k.1))), some (.d (.list (k.2.map encRW))), some (rowWO (k.2.map rwT)), y5, y6], .inl ?_, _, _, _, _, _, rfl⟩
    show sSeq _ _ _ = _
    rw [sqW (e1 := E (some (.l [])) x5 x6) (by
      show (sSet 4 (eLst aNil)) [_, _, _, _, _, _, _] = .nx [_, _, _, _, _, _, _]
      generalize encWd (toWd w) = WD
      generalize PyData.list (k.2.map encRW) = RL
      generalize rowWO ((w.take i).map kdT) = RO
      simp [sizeLine_eq]), sqW (by rw [sFor_eq, it3, R.st_ok]; exact lp), sApp_ofW (os := ((w.take i).map kdT).map fun w => .d (.str (tx w))) (r := .d (.str (tx (kdT k)))) rfl kx (by rw [List.length_map, List.length_map, List.length_take, sizeLine_eq]; omega), tk]
    show SR.nx [_, some (.l (_ ++ [_])), _, _, _, _, _] = _
    unfold rowWO
    rw [List.map_append (l₂ := [kdT k])]
    rfl) [some (.d (encWd (toWd w))), some (.l []), none, none, none, none, none] ⟨none, none, none, none, none, rfl⟩
  have itW : (eB (eVar 0) itD) [some (.d (encWd (toWd w))), some (.l []), none, none, none, none, none] = .ok (w.map fun k => encKd (toKd k)) := by rw [encWd_W]; rfl
  refine fin_step (by rw [sFor_eq, itW, R.st_ok]; exact lp) ?_
  rw [List.length_map, List.take_length] at e'
  subst e'
  obtain ⟨j1, _⟩ := gJoinL [59, 32] (by decide) (w.map kdT) 7000 (by rw [List.length_map]; omega) (fun x hx => by
    obtain ⟨k, hk, rfl⟩ := List.mem_map.mp hx
    exact kdT_len (h.ok k hk)) (by decide)
  rw [← semis_is] at j1
  have eJ := eJoin_eq (f := eC (.str "; ")) (g := eB (eVarO 1) shD) (env := [some (.d (encWd (toWd w))), some (rowWO (w.map kdT)), x2, x3, x4, x5, x6]) (a := "; ") (d := .list ((w.map kdT).map fun b => .str (tx b))) rfl (by show ((R.ok (rowWO (w.map kdT))).bind shD) = _; rw [R.bind_ok, sh_rowWO])
  rw [j1] at eJ
  show finR (sRet _ _) = _
  rw [sRet_eq, eM_eq, eJ]
  rfl
abbrev lkIn : Ev → SR := (sIf (tOrE (tNotE (eB (eB (eVar 4) (gIsi "tuple")) asB)) (tNotE (eB (eB (eBin gIx (eVar 4) (eC (.int 1))) (gIsi "tuple")) asB)))
    (sRet (eM (eC (.bool false)) Ow.d))
    sSkip)
abbrev lkOut : Ev → SR := (sSeq (sIf (tNotE (eB (eB (eVar 3) (gIsi "list")) asB))
    (sRet (eM (eC (.bool false)) Ow.d))
    sSkip)
    (sFor (eB (eVar 3) itD) (gtName 4)
    lkIn))
abbrev bLawKinds : Ev → SR :=
    (sSeq (sIf (tOrE (tNotE (eB (eB (eVar 0) (gIsi "list")) asB)) (eB (eBin gNe (eVar 0) (eVar 1)) asB))
    (sRet (eM (eC (.bool false)) Ow.d))
    sSkip)
    (sSeq (sFor (eB (eVar 0) itD) (gtTup 2 (gtCons (gtName 2) (gtCons (gtName 3) gtNil)))
    lkOut)
    (sRet (eM (eC (.bool true)) Ow.d))))
theorem lawKinds_fin {w : List WdK} (h : ∀ k ∈ w, OkK k) : finR (bLawKinds (envOf 3 [encWd (toWd w), encWd (toWd w)])) = .ok (.d (.bool true)) := by
  have he : envOf 3 [encWd (toWd w), encWd (toWd w)] = [some (.d (encWd (toWd w))), some (.d (encWd (toWd w))), none, none, none] := rfl
  rw [he]
  have ne := gNe_self (nice_wdW h)
  have is : gIsi "list" (encWd (toWd w)) = .ok (.bool true) := rfl
  refine fin_step (env1 := [some (.d (encWd (toWd w))), some (.d (encWd (toWd w))), none, none, none]) (by generalize encWd (toWd w) = WD at *; simp [ne, is]) ?_
  obtain ⟨env', lp, x2, x3, x4, e'⟩ := forL_all (g := gtTup 2 (gtCons (gtName 2) (gtCons (gtName 3) gtNil))) (f := lkOut) (fun env => ∃ x2 x3 x4, env = [some (.d (encWd (toWd w))), some (.d (encWd (toWd w))), x2, x3, x4]) (w.map fun k => encKd (toKd k)) (by
    rintro d hd _ ⟨x2, x3, x4, rfl⟩
    obtain ⟨k, hk, rfl⟩ := List.mem_map.mp hd
    refine ⟨[some (.d (encWd (toWd w))), some (.d (encWd (toWd w))), some (.d (.str (tx k.1))), some (.d (.list (k.2.map encRW))), x4], by rw [encKd_W]; rfl, ?_⟩
    obtain ⟨env', lp, y4, e'⟩ := forL_all (g := gtName 4) (f := lkIn) (fun env => ∃ y4, env = [some (.d (encWd (toWd w))), some (.d (encWd (toWd w))), some (.d (.str (tx k.1))), some (.d (.list (k.2.map encRW))), y4]) (k.2.map encRW) (by
      rintro d hd _ ⟨y4, rfl⟩
      obtain ⟨r, hr, rfl⟩ := List.mem_map.mp hd
      refine ⟨[some (.d (encWd (toWd w))), some (.d (encWd (toWd w))), some (.d (.str (tx k.1))), some (.d (.list (k.2.map encRW))), some (.d (encRW r))], rfl, [some (.d (encWd (toWd w))), some (.d (encWd (toWd w))), some (.d (.str (tx k.1))), some (.d (.list (k.2.map encRW))), some (.d (encRW r))], ?_, _, rfl⟩
      have t1 : gIsi "tuple" (encRW r) = .ok (.bool true) := rfl
      have i1 : gIx (encRW r) (.int 1) = some (.tuple (r.2.map fun b => .str (tx b))) := by rw [encRW_eq]; rfl
      have t2 : gIsi "tuple" (.tuple (r.2.map fun b => .str (tx b))) = .ok (.bool true) := rfl
      generalize PyData.tuple (r.2.map fun b => .str (tx b)) = BT at *
      generalize encRW r = RD at *
      generalize PyData.list (k.2.map encRW) = RL
      generalize encWd (toWd w) = WD
      simp [t1, i1, t2]) [some (.d (encWd (toWd w))), some (.d (encWd (toWd w))), some (.d (.str (tx k.1))), some (.d (.list (k.2.map encRW))), x4] ⟨x4, rfl⟩
    refine ⟨env', ?_, _, _, y4, e'⟩
    have it3 : (eB (eVar 3) itD) [some (.d (encWd (toWd w))), some (.d (encWd (toWd w))), some (.d (.str (tx k.1))), some (.d (.list (k.2.map encRW))), x4] = .ok (k.2.map encRW) := rfl
    have l1 : gIsi "list" (.list (k.2.map encRW)) = .ok (.bool true) := rfl
    show sSeq _ _ _ = _
    rw [sqW (e1 := [some (.d (encWd (toWd w))), some (.d (encWd (toWd w))), some (.d (.str (tx k.1))), some (.d (.list (k.2.map encRW))), x4]) (by
      generalize PyData.list (k.2.map encRW) = RL at *
      generalize encWd (toWd w) = WD
      simp [l1]), sFor_eq, it3, R.st_ok, lp]) [some (.d (encWd (toWd w))), some (.d (encWd (toWd w))), none, none, none] ⟨none, none, none, rfl⟩
  have itW : (eB (eVar 0) itD) [some (.d (encWd (toWd w))), some (.d (encWd (toWd w))), none, none, none] = .ok (w.map fun k => encKd (toKd k)) := by rw [encWd_W]; rfl
  refine fin_step (by rw [sFor_eq, itW, R.st_ok]; exact lp) ?_
  subst e'
  rfl
end
end Mir
set_option Elab.async false
set_option linter.all false
set_option maxRecDepth 100000
set_option maxHeartbeats 4000000
namespace Mir
open PySem PySem.Spec L2
noncomputable section
theorem joinWs_snoc (s : Wo) (p : List Wo) : ∀ ps : List (List Wo), joinWs s (ps ++ [p]) = if ps = [] then p else joinWs s ps ++ s :: p
  | [] => by simp [joinWs]
  | q :: ps => by
    rw [List.cons_append, joinWs, joinWs, if_neg (by simp), List.map_append, List.flatten_append]
    simp
section
variable {F G : Ev → R D} {env : Ev} {a b : List Wo}
theorem add_wl (h : a.length + b.length ≤ 16777216) : gAdd (rowWD a) (rowWD b) = some (rowWO (a ++ b)) := by
  show (if (a.map fun w => PyData.str (tx w)).length + (b.map fun w => PyData.str (tx w)).length ≤ sizeLine then some (Ow.l (((a.map fun w => PyData.str (tx w)) ++ (b.map fun w => PyData.str (tx w))).map Ow.d)) else none) = _
  rw [if_pos (by rw [List.length_map, List.length_map, sizeLine_eq]; exact h), ← List.map_append, List.map_map]
  rfl
theorem catO (hF : F env = .ok (rowWD a)) (hG : G env = .ok (rowWD b)) (h : a.length + b.length ≤ 16777216) : (eBinO gAdd F G) env = .ok (rowWO (a ++ b)) := by
  rw [eBinO_eq, hF, R.bind_ok, hG, R.bind_ok, add_wl h]
  rfl
theorem catS (hF : F env = .ok (rowWD a)) (hG : G env = .ok (rowWD b)) (h : a.length + b.length ≤ 16777216) : (eB (eBinO gAdd F G) shD) env = .ok (rowWD (a ++ b)) := by
  rw [eB_eq, catO hF hG h, R.bind_ok, sh_rowWO]
theorem catV (hF : F env = .ok (rowWD a)) (hG : G env = .ok (rowWD b)) (h : a.length + b.length ≤ 16777216) : (eM (eM (eBinO gAdd F G) viewD) Ow.d) env = .ok (.d (rowWD (a ++ b))) := by
  rw [eM_eq, eM_eq, catO hF hG h, R.map_ok, R.map_ok, vw_rowWO]
theorem oneS {w : Wo} (hF : F env = .ok (.str (tx w))) : (eB (eLst (aCons F aNil)) shD) env = .ok (rowWD [w]) := by
  have : (eLst (aCons F aNil)) env = .ok (rowWO [w]) := by
    rw [eLst_eq, aCons_eq, hF, R.bind_ok, aNil_eq, R.map_ok, R.bind_ok, guard_pos (by rw [sizeLine_eq]; simp)]
    rfl
  rw [eB_eq, this, R.bind_ok, sh_rowWO]
end
abbrev lpRow : Ev → SR := (sSeq (sSet 1 (eM (eM (eBinO gAdd (eB (eBinO gAdd (eVar 1) (eB (eRep (eLst (aCons (eC (.str "|")) aNil)) (eM (eCa gInt (aCons (eBin gGt (eVar 4) (eC (.int 0))) aNil)) viewD)) shD)) shD) (eB (eLst (aCons (eBin gIx (eBin gIx (eVar 3) (eVar 4)) (eC (.int 0))) aNil)) shD)) viewD) Ow.d))
    (sIf (eB (eBin gNe (eBin gIx (eBin gIx (eVar 3) (eVar 4)) (eC (.int 1))) (eTup aNil)) asB)
    (sSet 1 (eM (eM (eBinO gAdd (eB (eBinO gAdd (eB (eBinO gAdd (eVar 1) (eB (eLst (aCons (eC (.str "(")) aNil)) shD)) shD) (eB (eCa gList (aCons (eBin gIx (eBin gIx (eVar 3) (eVar 4)) (eC (.int 1))) aNil)) shD)) shD) (eB (eLst (aCons (eC (.str ")")) aNil)) shD)) viewD) Ow.d))
    sSkip))
abbrev lpKind : Ev → SR := (sSeq (sSet 1 (eM (eM (eBinO gAdd (eVar 1) (eB (eLst (aCons (eC (.str ";")) (aCons (eVar 2) (aCons (eC (.str "=")) aNil)))) shD)) viewD) Ow.d))
    (sFor (eB (aCons (eM (eCa gLen (aCons (eVar 3) aNil)) viewD) aNil) rg1) (gtName 4)
    lpRow))
abbrev bLawParts : Ev → SR :=
    (sSeq (sSet 1 (eM (eM (eLst aNil) viewD) Ow.d))
    (sSeq (sFor (eB (eVar 0) itD) (gtTup 2 (gtCons (gtName 2) (gtCons (gtName 3) gtNil)))
    lpKind)
    (sRet (eSl (eVar 1) (eB (eC (.int 1)) asI) oNone))))
abbrev lpE (WD : D) (W : List Wo) (k : WdK) (x4 : Option Ow) : Ev := [some (.d WD), some (.d (rowWD W)), some (.d (.str (tx k.1))), some (.d (.list (k.2.map encRW))), x4]
theorem lpRow_ok (WD : D) (W : List Wo) {k : WdK} (h : OkK k) {j : Nat} {r : WdR} (hr : k.2[j]? = some r) (hW : W.length ≤ 1000000) : lpRow (lpE WD W k (some (.d (.int (j : Nat))))) = .nx (lpE WD (W ++ (if j = 0 then [] else [[124]]) ++ rowWs r) k (some (.d (.int (j : Nat))))) := by
  have or := h.rows r (List.mem_of_getElem? hr)
  have rx : gIx (.list (k.2.map encRW)) (.int (j : Nat)) = some (encRW r) := gIx_natW (by rw [List.getElem?_map, hr]; rfl)
  have i0 : gIx (encRW r) (.int 0) = some (.str (tx r.1)) := by rw [encRW_eq]; rfl
  have i1 : gIx (encRW r) (.int 1) = some (.tuple (r.2.map fun b => .str (tx b))) := by rw [encRW_eq]; rfl
  have row : ∀ W : List Wo, (eBin gIx (eVar 3) (eVar 4)) (lpE WD W k (some (.d (.int (j : Nat))))) = .ok (encRW r) := fun W => by
    have a : eVar 3 (lpE WD W k (some (.d (.int (j : Nat))))) = .ok (.list (k.2.map encRW)) := rfl
    have b : eVar 4 (lpE WD W k (some (.d (.int (j : Nat))))) = .ok (.int (j : Nat)) := rfl
    rw [eBin_eq, a, R.bind_ok, b, R.bind_ok, rx]
    rfl
  have bars : (eB (eRep (eLst (aCons (eC (.str "|")) aNil)) (eM (eCa gInt (aCons (eBin gGt (eVar 4) (eC (.int 0))) aNil)) viewD)) shD) (lpE WD W k (some (.d (.int (j : Nat))))) = .ok (rowWD (if j = 0 then [] else [[124]])) := by
    have gt : gGt (.int (j : Nat)) (.int 0) = some (.bool (decide ((0 : Int) < ((j : Nat) : Int)))) := rfl
    have a : (eM (eCa gInt (aCons (eBin gGt (eVar 4) (eC (.int 0))) aNil)) viewD) (lpE WD W k (some (.d (.int (j : Nat))))) = .ok (.int (if j = 0 then 0 else 1)) := by
      have b : eVar 4 (lpE WD W k (some (.d (.int (j : Nat))))) = .ok (.int (j : Nat)) := rfl
      have c : (eBin gGt (eVar 4) (eC (.int 0))) (lpE WD W k (some (.d (.int (j : Nat))))) = .ok (.bool (decide ((0 : Int) < ((j : Nat) : Int)))) := by
        rw [eBin_eq, b, R.bind_ok, eC_eq, R.bind_ok, gt]
        rfl
      rw [eM_eq, eCa_eq, aCons_eq, c, R.bind_ok, aNil_eq, R.map_ok, R.bind_ok, gInt_bool]
      by_cases z : j = 0
      · subst z; rfl
      · rw [if_neg z, decide_eq_true (by omega)]; rfl
    have l1 : (eLst (aCons (eC (.str "|")) aNil)) (lpE WD W k (some (.d (.int (j : Nat))))) = .ok (.l [.d (.str "|")]) := by
      rw [eLst_eq, aCons_eq, eC_eq, R.bind_ok, aNil_eq, R.map_ok, R.bind_ok, guard_pos (by rw [sizeLine_eq]; simp)]
      rfl
    rw [eB_eq, eRep_eq, l1, R.bind_ok, a, R.bind_ok]
    by_cases z : j = 0
    · rw [if_pos z, if_pos z]
      have : repO (.l [.d (.str "|")]) (.int 0) = .ok (.l []) := by
        show guard _ _ = _
        rw [guard_pos (by rw [sizeLine_eq]; decide)]
        rfl
      rw [this]
      rfl
    · rw [if_neg z, if_neg z]
      have : repO (.l [.d (.str "|")]) (.int 1) = .ok (rowWO [[124]]) := by
        show guard _ _ = _
        rw [guard_pos (by rw [sizeLine_eq]; decide), bar_is2]
        rfl
      rw [this, R.bind_ok]
      exact sh_rowWO _
  have nm1 : (eB (eLst (aCons (eBin gIx (eBin gIx (eVar 3) (eVar 4)) (eC (.int 0))) aNil)) shD) (lpE WD W k (some (.d (.int (j : Nat))))) = .ok (rowWD [r.1]) := oneS (by
    rw [eBin_eq, row W, R.bind_ok, eC_eq, R.bind_ok, i0]
    rfl)
  have bl : (if j = 0 then ([] : List Wo) else [[124]]).length ≤ 1 := by split <;> simp
  have st1 := catV (env := lpE WD W k (some (.d (.int (j : Nat))))) (catS (F := eVar 1) (a := W) rfl bars (by omega)) nm1 (by simp only [List.length_append, List.length_cons, List.length_nil]; omega)
  have q := brTup_eq or
  show sSeq _ _ _ = _
  rw [sqW (e1 := lpE WD (W ++ (if j = 0 then [] else [[124]]) ++ [r.1]) k (some (.d (.int (j : Nat))))) (by rw [sSet_eq, st1]; rfl)]
  generalize hW2 : W ++ (if j = 0 then [] else [[124]]) ++ [r.1] = W2
  have l2 : W2.length ≤ 1000002 := by rw [← hW2]; simp only [List.length_append, List.length_cons, List.length_nil]; omega
  have ne : gNe (.tuple (r.2.map fun b => .str (tx b))) (.tuple []) = some (.bool (!r.2.isEmpty)) := by
    have n1 : Nice (.tuple (r.2.map fun b => .str (tx b))) := by
      have := nice_strs (l := r.2.map tx) fun z hz => by
        obtain ⟨b, hb, rfl⟩ := List.mem_map.mp hz
        exact (or.br b hb).ok
      rw [List.map_map] at this
      exact this
    have n0 : Nice (.tuple []) := nice_strs (l := []) fun z hz => by cases hz
    have q2 := q
    rw [gEq_nice n1 n0] at q2
    injection q2 with q2
    injection q2 with q2
    rw [gNe_nice n1 n0, q2]
  have ct : (eB (eBin gNe (eBin gIx (eBin gIx (eVar 3) (eVar 4)) (eC (.int 1))) (eTup aNil)) asB) (lpE WD W2 k (some (.d (.int (j : Nat))))) = .ok (!r.2.isEmpty) := by
    have tp : (eTup aNil) (lpE WD W2 k (some (.d (.int (j : Nat))))) = .ok (.tuple []) := by simp [sizeLine_eq]
    rw [eB_eq, eBin_eq, eBin_eq, row W2, R.bind_ok, eC_eq, R.bind_ok, i1, R.of_some, R.bind_ok, tp, R.bind_ok, ne]
    rfl
  rw [sIf_eq, ct, R.st_ok]
  by_cases hb : r.2 = []
  · have em : r.2.isEmpty = true := by rw [hb]; rfl
    rw [em]
    have e : W ++ (if j = 0 then [] else [[124]]) ++ rowWs r = W2 := by rw [← hW2]; unfold rowWs; rw [if_pos hb]
    rw [e]
    rfl
  · have em : r.2.isEmpty = false := by
      cases e : r.2 with
      | nil => exact absurd e hb
      | cons => rfl
    rw [em, if_pos (by rfl)]
    have op : (eB (eLst (aCons (eC (.str "(")) aNil)) shD) (lpE WD W2 k (some (.d (.int (j : Nat))))) = .ok (rowWD [[40]]) := oneS (by rw [op_is2]; rfl)
    have cl : (eB (eLst (aCons (eC (.str ")")) aNil)) shD) (lpE WD W2 k (some (.d (.int (j : Nat))))) = .ok (rowWD [[41]]) := oneS (by rw [cl_is2]; rfl)
    have ls : (eB (eCa gList (aCons (eBin gIx (eBin gIx (eVar 3) (eVar 4)) (eC (.int 1))) aNil)) shD) (lpE WD W2 k (some (.d (.int (j : Nat))))) = .ok (rowWD r.2) := by
      have gl : gList [.tuple (r.2.map fun b => .str (tx b))] = some (rowWO r.2) := by
        show some (Ow.l ((r.2.map fun b => PyData.str (tx b)).map Ow.d)) = _
        rw [List.map_map]
        rfl
      rw [eB_eq, eCa_eq, aCons_eq, eBin_eq, row W2, R.bind_ok, eC_eq, R.bind_ok, i1, R.of_some, R.bind_ok, aNil_eq, R.map_ok, R.bind_ok, gl, R.of_some, R.bind_ok, sh_rowWO]
    have b4 := or.few
    have s2 := catV (env := lpE WD W2 k (some (.d (.int (j : Nat))))) (catS (catS (F := eVar 1) (a := W2) rfl op (by simp; omega)) ls (by simp; omega)) cl (by simp; omega)
    rw [sSet_eq, s2]
    have e : W2 ++ [[40]] ++ r.2 ++ [[41]] = W ++ (if j = 0 then [] else [[124]]) ++ rowWs r := by
      rw [← hW2]
      unfold rowWs
      rw [if_neg hb]
      simp
    rw [e]
    rfl
theorem rowWs_sum {k : WdK} (h : OkK k) (j : Nat) : (joinWs [124] ((k.2.take j).map rowWs)).length ≤ 800 := by
  have a := joinWs_len [124] ((k.2.take j).map rowWs)
  rw [List.map_map] at a
  have b := sum_le_mul ((fun p : List Wo => p.length + 1) ∘ rowWs) 8 (k.2.take j) fun r hr => by have := (rowWs_len (h.rows r (List.mem_of_mem_take hr))).2; show (rowWs r).length + 1 ≤ 8; omega
  have := h.few
  rw [List.length_take] at b
  omega
theorem lpKind_ok (WD : D) (W : List Wo) {k : WdK} (h : OkK k) (hW : W.length ≤ 900000) (x4 : Option Ow) : ∃ y4, lpKind (lpE WD W k x4) = .nx (lpE WD (W ++ [59] :: kindWs k) k y4) := by
  have few := h.few
  have hd : (eB (eLst (aCons (eC (.str ";")) (aCons (eVar 2) (aCons (eC (.str "=")) aNil)))) shD) (lpE WD W k x4) = .ok (rowWD [[59], k.1, [61]]) := by
    have v2 : eVar 2 (lpE WD W k x4) = .ok (.str (tx k.1)) := rfl
    have : (eLst (aCons (eC (.str ";")) (aCons (eVar 2) (aCons (eC (.str "=")) aNil)))) (lpE WD W k x4) = .ok (rowWO [[59], k.1, [61]]) := by
      rw [eLst_eq, aCons_eq, eC_eq, R.bind_ok, aCons_eq, v2, R.bind_ok, aCons_eq, eC_eq, R.bind_ok, aNil_eq, R.map_ok, R.map_ok, R.map_ok, R.bind_ok, guard_pos (by rw [sizeLine_eq]; simp), semi_is2, eq_is2]
      rfl
    rw [eB_eq, this, R.bind_ok, sh_rowWO]
  have s1 := catV (env := lpE WD W k x4) (F := eVar 1) (a := W) rfl hd (by simp; omega)
  generalize hW1 : W ++ [[59], k.1, [61]] = W1 at s1
  have l1 : W1.length ≤ 900003 := by rw [← hW1]; simp; omega
  have ln : gLen [.list (k.2.map encRW)] = some (.d (.int (k.2.length : Nat))) := by
    show some (Ow.d (PyData.int ((k.2.map encRW).length : Nat))) = _
    rw [List.length_map]
  have it : (eB (aCons (eM (eCa gLen (aCons (eVar 3) aNil)) viewD) aNil) rg1) (lpE WD W1 k x4) = .ok (rangeD 0 k.2.length) := by
    have rg := rg1_nat k.2.length (by omega)
    have v3 : eVar 3 (lpE WD W1 k x4) = .ok (.list (k.2.map encRW)) := rfl
    rw [eB_eq, aCons_eq, eM_eq, eCa_eq, aCons_eq, v3, R.bind_ok, aNil_eq, R.map_ok, R.bind_ok, ln, R.of_some, R.map_ok, viewD_d, R.bind_ok, R.map_ok, R.bind_ok, rg]
  obtain ⟨env', lp, y4, e'⟩ := forL_ind (g := gtName 4) (f := lpRow) (rangeD 0 k.2.length) (fun j env => ∃ y4, env = lpE WD (W1 ++ joinWs [124] ((k.2.take j).map rowWs)) k y4) (by
    rintro j d _ hd ⟨y4, rfl⟩
    have jl : j < k.2.length := by
      have := (List.getElem?_eq_some_iff.1 hd).1
      rwa [rangeD_len] at this
    have ed : d = .int (j : Nat) := by
      have := hd
      rw [rangeD_map] at this
      simpa [jl] using this.symm
    subst ed
    have hr : k.2[j]? = some k.2[j] := List.getElem?_eq_getElem jl
    have sm := rowWs_sum h j
    have st := lpRow_ok WD (W1 ++ joinWs [124] ((k.2.take j).map rowWs)) h hr (by rw [List.length_append]; omega)
    have e : W1 ++ joinWs [124] ((k.2.take j).map rowWs) ++ (if j = 0 then [] else [[124]]) ++ rowWs k.2[j] = W1 ++ joinWs [124] ((k.2.take (j + 1)).map rowWs) := by
      rw [List.take_add_one, hr, Option.toList_some, List.map_append, List.map_cons, List.map_nil, joinWs_snoc]
      by_cases z : j = 0
      · subst z; simp [joinWs]
      · have : (k.2.take j).map rowWs ≠ [] := by
          intro e
          have e := congrArg List.length e
          rw [List.length_map, List.length_take, List.length_nil] at e
          omega
        rw [if_neg z, if_neg this]
        simp
    rw [e] at st
    exact ⟨_, rfl, _, .inl st, _, rfl⟩) (lpE WD W1 k x4) ⟨x4, by simp [joinWs]⟩
  rw [rangeD_len, List.take_length] at e'
  subst e'
  refine ⟨y4, ?_⟩
  show sSeq _ _ _ = _
  rw [sqW (e1 := lpE WD W1 k x4) (by rw [sSet_eq, s1]; rfl), sFor_eq, it, R.st_ok, lp, ← hW1]
  unfold kindWs
  simp
theorem lawParts_fin {w : List WdK} (h : OkWd w) : finR (bLawParts (envOf 4 [encWd (toWd w)])) = .ok (rowWO (woodWs w)) := by
  have he : envOf 4 [encWd (toWd w)] = [some (.d (encWd (toWd w))), none, none, none, none] := rfl
  rw [he]
  have few := h.few
  refine fin_step (env1 := [some (.d (encWd (toWd w))), some (.d (rowWD [])), none, none, none]) (by generalize encWd (toWd w) = WD; simp [sizeLine_eq]) ?_
  have sm : ∀ i, (((w.take i).map fun k => [59] :: kindWs k).flatten).length ≤ 100 * 803 := fun i => by
    rw [List.length_flatten, List.map_map]
    have := sum_le_mul (List.length ∘ fun k : WdK => [59] :: kindWs k) 803 (w.take i) fun k hk => by
      have := kindWs_len (h.ok k (List.mem_of_mem_take hk))
      show ([59] :: kindWs k).length ≤ 803
      simp; omega
    rw [List.length_take] at this
    have : min i w.length * 803 ≤ 100 * 803 := Nat.mul_le_mul_right _ (by omega)
    omega
  obtain ⟨env', lp, x2, x3, x4, e'⟩ := forL_ind (g := gtTup 2 (gtCons (gtName 2) (gtCons (gtName 3) gtNil))) (f := lpKind) (w.map fun k => encKd (toKd k)) (fun i env => ∃ x2 x3 x4, env = [some (.d (encWd (toWd w))), some (.d (rowWD (((w.take i).map fun k => [59] :: kindWs k).flatten))), x2, x3, x4]) (by
    rintro i d _ hd ⟨x2, x3, x4, rfl⟩
    rw [List.getElem?_map] at hd
    obtain ⟨k, hk, rfl⟩ := Option.map_eq_some_iff.mp hd
    have o := h.ok k (List.mem_of_getElem? hk)
    have := sm i
    obtain ⟨y4, st⟩ := lpKind_ok (encWd (toWd w)) (((w.take i).map fun k => [59] :: kindWs k).flatten) o (by omega) x4
    have e : ((w.take (i + 1)).map fun k => [59] :: kindWs k).flatten = ((w.take i).map fun k => [59] :: kindWs k).flatten ++ [59] :: kindWs k := by
      rw [List.take_add_one, hk, Option.toList_some, List.map_append, List.flatten_append]
      simp
    exact ⟨lpE (encWd (toWd w)) (((w.take i).map fun k => [59] :: kindWs k).flatten) k x4, by rw [encKd_W]; rfl, _, .inl st, some (.d (.str (tx k.1))), some (.d (.list (k.2.map encRW))), y4, by rw [e]⟩) [some (.d (encWd (toWd w))), some (.d (rowWD [])), none, none, none] ⟨none, none, none, rfl⟩
  have itW : (eB (eVar 0) itD) [some (.d (encWd (toWd w))), some (.d (rowWD [])), none, none, none] = .ok (w.map fun k => encKd (toKd k)) := by rw [encWd_W]; rfl
  refine fin_step (by rw [sFor_eq, itW, R.st_ok]; exact lp) ?_
  rw [List.length_map, List.take_length] at e'
  subst e'
  have dr : (((w.map fun k => [59] :: kindWs k).flatten)).drop 1 = woodWs w := by
    unfold woodWs
    cases w with
    | nil => exact absurd rfl h.some
    | cons k ks =>
      rw [List.map_cons, List.flatten_cons, List.map_cons, joinWs, List.map_map]
      rfl
  have sl : gSl (rowWD ((w.map fun k => [59] :: kindWs k).flatten)) (some 1) none = some (rowWO (woodWs w)) := by
    show some (Ow.l ((cutL (((w.map fun k => [59] :: kindWs k).flatten).map fun x => PyData.str (tx x)) (some 1) none).map Ow.d)) = _
    have c := cutL_drop (((w.map fun k => [59] :: kindWs k).flatten).map fun x => PyData.str (tx x)) 1
    have c : cutL (((w.map fun k => [59] :: kindWs k).flatten).map fun x => PyData.str (tx x)) (some 1) none = _ := c
    rw [c, ← List.map_drop, dr, List.map_map]
    rfl
  generalize rowWD ((w.map fun k => [59] :: kindWs k).flatten) = RD at *
  generalize encWd (toWd w) = WD
  simp [sl, finR]
end
end Mir
set_option Elab.async false
set_option linter.all false
set_option maxRecDepth 100000
set_option maxHeartbeats 4000000
namespace Mir
open PySem PySem.Spec L2
theorem occ_abc : ∀ j : Fin 26, Builtin.Str.occurrences abc (tx [97 + j.val]) 0 abc.length 1 = [j.val] := by decide +kernel
theorem gSl_from {l : List Nat} {k : Nat} (hk : k ≤ l.length) (hl : l.length ≤ 16777216) : gSl (.str (tx l)) (some (k : Int)) none = some (.d (.str (tx (l.drop k)))) := by
  show (if (tx l).length ≤ sizeLine then some (Ow.d (.str (cutS (tx l) (some (k : Int)) none))) else none) = _
  rw [tx_len, if_pos (by rw [sizeLine_eq]; exact hl)]
  unfold cutS
  rw [tx_len, tx_cps, HT.sIx_nat, HT.sIx_none, Nat.min_eq_left hk, List.take_of_length_le (by rw [List.length_drop]; omega)]
  rfl
noncomputable section
abbrev n9Step : Ev → SR := (sSet 5 (eM (eM (eBinO gAdd (eVar 5) (eBin gIx (eVar 3) (eBin gMod (eM (eBinO gAdd (eBin gDiv (eVar 4) (eM (eBinO gAdd (eVar 6) (eC (.int 1))) viewD)) (eBin gMul (eBin gMul (eC (.int 3)) (eVar 6)) (eVar 6))) viewD) (eC (.int 26))))) viewD) Ow.d))
/-- the k-th name: one letter moved on -/
def nm9 (b : List Nat) (t f k : Nat) : List Nat := b.take t ++ [97 + (f + k) % 26] ++ b.drop (t + 1)
theorem nm9_apart {b : List Nat} {t f i j : Nat} (ht : t < b.length) (hi : i < 26) (hj : j < 26) (h : nm9 b t f i = nm9 b t f j) : i = j := by
  unfold nm9 at h
  have tl : (b.take t).length = t := by rw [List.length_take]; omega
  have e := congrArg (fun l => l[t]?) h
  simp only [List.append_assoc, List.getElem?_append, tl, Nat.lt_irrefl, if_false, Nat.sub_self] at e
  simp at e
  omega
end
end Mir
set_option Elab.async false
set_option linter.all false
set_option maxRecDepth 100000
set_option maxHeartbeats 4000000
namespace Mir
open PySem PySem.Spec L2
noncomputable section
abbrev n7Step : Ev → SR := (sSeq (sSet 10 (eM (eM (eBinO gAdd (eB (eBinO gAdd (eB (eSl (eVar 5) oNone (eB (eVar 7) asI)) shD) (eBin gIx (eVar 3) (eBin gMod (eM (eBinO gAdd (eVar 8) (eVar 6)) viewD) (eC (.int 26))))) shD) (eB (eSl (eVar 5) (eB (eM (eBinO gAdd (eVar 7) (eC (.int 1))) viewD) asI) oNone) shD)) viewD) Ow.d))
    (sSeq (sIf (tAndE (eB (eBin gEq (eBin gMod (eVar 4) (eC (.int 3))) (eC (.int 1))) asB) (tAndE (eB (eBin gLt (eVar 6) (eC (.int 8))) asB) (eB (eBin gEq (eM (eCa gLen (aCons (eVar 5) aNil)) viewD) (eC (.int 8))) asB)))
    (sSet 10 (eM (eM (eSl (eVar 5) oNone (eB (eBin gSub (eC (.int 8)) (eVar 6)) asI)) viewD) Ow.d))
    sSkip)
    (sApp 9 (eM (eVar 10) Ow.d))))
abbrev bNames7 : Ev → SR := (sSeq (sSet 3 (eM (eC (.str "abcdefghijklmnopqrstuvwxyz")) Ow.d))
    (sSeq (sSet 4 (eM (eBin gMod (eVar 0) (eBin gPow (eC (.int 10)) (eC (.int 20)))) Ow.d))
    (sSeq (sSet 5 (eM (eC (.str "")) Ow.d))
    (sSeq (sFor (eB (aCons (eM (eBinO gAdd (eC (.int 1)) (eBin gMod (eVar 4) (eC (.int 8)))) viewD) aNil) rg1) (gtName 6)
    n9Step)
    (sSeq (sSet 7 (eM (eBin gMod (eVar 1) (eM (eCa gLen (aCons (eVar 5) aNil)) viewD)) Ow.d))
    (sSeq (sSet 8 (eM (eTxIndex (eVar 3) (eBin gIx (eVar 5) (eVar 7))) Ow.d))
    (sSeq (sSet 9 (eLst aNil))
    (sSeq (sFor (eB (aCons (eVar 2) aNil) rg1) (gtName 6)
    n7Step)
    (sRetV 9)))))))))
def nm7 (b : List Nat) (t f : Nat) (q : Bool) (k : Nat) : List Nat := if q = true ∧ k < 8 then b.take (8 - k) else nm9 b t f k
theorem nm9_len {b : List Nat} {t f k : Nat} (ht : t < b.length) : (nm9 b t f k).length = b.length := by
  unfold nm9
  simp
  omega
theorem nm9_L {b : List Nat} {t f k : Nat} (h : ∀ z ∈ b, isL z = true) : ∀ z ∈ nm9 b t f k, isL z = true := fun z hz => by
  unfold nm9 at hz
  rcases List.mem_append.mp hz with hz | hz
  · rcases List.mem_append.mp hz with hz | hz
    · exact h z (List.mem_of_mem_take hz)
    · rw [List.mem_singleton.mp hz]
      unfold isL
      have a : 97 ≤ 97 + (f + k) % 26 := by omega
      have b : 97 + (f + k) % 26 ≤ 122 := by omega
      simp [a, b]
  · exact h z (List.mem_of_mem_drop hz)
theorem nm9_at {b : List Nat} {t f k : Nat} (ht : t < b.length) : (nm9 b t f k)[t]? = some (97 + (f + k) % 26) := by
  unfold nm9
  have tl : (b.take t).length = t := by rw [List.length_take]; omega
  rw [List.append_assoc, List.getElem?_append_right (by omega), tl, Nat.sub_self]
  rfl
section
variable {b : List Nat} {t f : Nat} {q : Bool} (ht : t < b.length) (hb : b.length ≤ 8) (hL : ∀ z ∈ b, isL z = true) (hf : f < 26) (hx : b[t]? = some (97 + f)) (hq : q = true → b.length = 8)
include ht hb hL hq in
theorem nm7_ok (k : Nat) : NmW (nm7 b t f q k) := by
  unfold nm7
  split
  · rename_i c
    have := hq c.1
    refine ⟨fun e => ?_, fun z hz => hL z (List.mem_of_mem_take hz), by rw [List.length_take]; omega⟩
    have e := congrArg List.length e
    rw [List.length_take, List.length_nil] at e
    omega
  · have l := nm9_len (b := b) (t := t) (f := f) (k := k) ht
    refine ⟨fun e => ?_, nm9_L hL, by omega⟩
    rw [e, List.length_nil] at l
    omega
include ht hf hx hq in
theorem nm7_apart {i j : Nat} (hi : i < 26) (hj : j < 26) (h : nm7 b t f q i = nm7 b t f q j) : i = j := by
  have half : ∀ {i j : Nat}, j < 26 → (q = true ∧ i < 8) → ¬ (q = true ∧ j < 8) → b.take (8 - i) = nm9 b t f j → False := fun {i j} hj ci cj e => by
    have l8 := hq ci.1
    have l := congrArg List.length e
    rw [nm9_len ht, List.length_take] at l
    have i0 : i = 0 := by omega
    subst i0
    have e2 : b = nm9 b t f j := by rw [← e, List.take_of_length_le (by omega)]
    have a := nm9_at (b := b) (t := t) (f := f) (k := j) ht
    rw [← e2, hx] at a
    injection a with a
    have : 8 ≤ j := by
      by_cases c : j < 8
      · exact absurd ⟨ci.1, c⟩ cj
      · omega
    omega
  unfold nm7 at h
  by_cases ci : q = true ∧ i < 8
  · by_cases cj : q = true ∧ j < 8
    · rw [if_pos ci, if_pos cj] at h
      have l8 := hq ci.1
      have := congrArg List.length h
      rw [List.length_take, List.length_take] at this
      omega
    · rw [if_pos ci, if_neg cj] at h
      exact (half hj ci cj h).elim
  · by_cases cj : q = true ∧ j < 8
    · rw [if_neg ci, if_pos cj] at h
      exact (half hi cj ci h.symm).elim
    · rw [if_neg ci, if_neg cj] at h
      exact nm9_apart ht hi hj h
end
theorem names7_fin (c w : Int) (n : Nat) (hn : n ≤ 100) : ∃ (b : List Nat) (t f : Nat) (q : Bool), t < b.length ∧ b.length ≤ 8 ∧ (∀ z ∈ b, isL z = true) ∧ f < 26 ∧ b[t]? = some (97 + f) ∧ (q = true → b.length = 8) ∧ finR (bNames7 (envOf 8 [.int c, .int w, .int (n : Nat)])) = .ok (rowWO ((List.range n).map (nm7 b t f q))) := by
  have p20 : gPow (.int 10) (.int 20) = some (.int (10 ^ 20)) := gPow10 20 (by decide)
  obtain ⟨M, hM⟩ : ∃ M : Int, M = c % 10 ^ 20 := ⟨_, rfl⟩
  have hM0 : 0 ≤ M := by rw [hM]; exact Int.emod_nonneg _ (by decide)
  have mM : gMod (.int c) (.int (10 ^ 20)) = some (.int M) := by rw [hM]; exact gMod_int (by decide)
  obtain ⟨T20, hT20⟩ : ∃ T : Int, T = 10 ^ 20 := ⟨_, rfl⟩
  rw [← hT20] at p20 mM
  obtain ⟨lg, hlg⟩ : ∃ lg : Nat, 1 + M % 8 = (lg : Int) := ⟨(1 + M % 8).toNat, by omega⟩
  have lb : 1 ≤ lg ∧ lg ≤ 8 := by omega
  have m8 : gMod (.int M) (.int 8) = some (.int (M % 8)) := gMod_int (by decide)
  have letter : ∀ i : Int, 0 ≤ i → isL (97 + (i % 26).toNat) = true ∧ gMod (.int i) (.int 26) = some (.int (i % 26)) ∧ gIx (.str abc) (.int (i % 26)) = some (.str (tx [97 + (i % 26).toNat])) := fun i h => by
    obtain ⟨k, hk⟩ : ∃ k : Nat, i % 26 = (k : Int) := ⟨(i % 26).toNat, by omega⟩
    have hk26 : k < 26 := by omega
    rw [hk, Int.toNat_natCast]
    refine ⟨?_, by rw [← hk]; exact gMod_int (by decide), abc_ix hk26⟩
    unfold isL
    have a : 97 ≤ 97 + k := by omega
    have b : 97 + k ≤ 122 := by omega
    simp [a, b]
  obtain ⟨env', e1, x6, b, e2, bl, hL⟩ := forL_ind (g := gtName 6) (f := n9Step) (rangeD 0 lg)
    (fun i env => ∃ (x6 : Option Ow) (b : List Nat), env = [some (.d (.int c)), some (.d (.int w)), some (.d (.int (n : Nat))), some (.d (.str abc)), some (.d (.int M)), some (.d (.str (tx b))), x6, none, none, none, none] ∧ b.length = i ∧ ∀ z ∈ b, isL z = true) (fun i d env hd ⟨x6, b, he, bl, hL⟩ => by
      obtain ⟨hi, ed⟩ := rangeD_at hd
      rw [Int.zero_add] at ed
      subst ed he
      have dv : gDiv (.int M) (.int ((i : Nat) + 1 : Int)) = some (.int (M / ((i : Nat) + 1 : Int))) := gDiv_small (by omega) (by omega)
      have g3 : gMul (.int 3) (.int (i : Nat)) = some (.int (3 * (i : Nat))) := gMul_by (by omega) (by omega)
      have g4 : gMul (.int (3 * (i : Nat))) (.int (i : Nat)) = some (.int (3 * (i : Nat) * (i : Nat))) := gMul_by (by omega) (by omega)
      have z1 : 0 ≤ M / ((i : Nat) + 1 : Int) := Int.ediv_nonneg hM0 (by omega)
      have z2 : 0 ≤ 3 * (i : Int) * (i : Int) := Int.mul_nonneg (by omega) (by omega)
      obtain ⟨hc, h1, h2⟩ := letter (M / ((i : Nat) + 1 : Int) + 3 * (i : Nat) * (i : Nat)) (by omega)
      generalize 3 * (i : Int) * (i : Int) = Q at g4 h1 h2 hc
      generalize M / ((i : Nat) + 1 : Int) = P at dv h1 h2 hc
      generalize 97 + ((P + Q) % 26).toNat = ch at hc h2
      have hadd : gAdd (.str (tx b)) (.str (tx [ch])) = some (.d (.str (tx (b ++ [ch])))) := gAdd_tx (by rw [List.length_singleton]; omega)
      refine ⟨[some (.d (.int c)), some (.d (.int w)), some (.d (.int (n : Nat))), some (.d (.str abc)), some (.d (.int M)), some (.d (.str (tx b))), some (.d (.int (i : Nat))), none, none, none, none], rfl, [some (.d (.int c)), some (.d (.int w)), some (.d (.int (n : Nat))), some (.d (.str abc)), some (.d (.int M)), some (.d (.str (tx (b ++ [ch])))), some (.d (.int (i : Nat))), none, none, none, none], .inl ?_, _, _, rfl, by rw [List.length_append, bl]; rfl, fun z hz => ?_⟩
      · generalize Str.ofString "x" = dummy
        simp [dv, g3, g4, h1, h2, hadd]
      · rcases List.mem_append.mp hz with h | h
        · exact hL z h
        · rw [List.mem_singleton] at h; subst h; exact hc) [some (.d (.int c)), some (.d (.int w)), some (.d (.int (n : Nat))), some (.d (.str abc)), some (.d (.int M)), some (.d (.str (tx []))), none, none, none, none, none] ⟨none, [], rfl, rfl, fun z h => by cases h⟩
  subst e2
  rw [show (rangeD 0 lg).length = lg from by simp [rangeD]] at bl
  obtain ⟨t, ht⟩ : ∃ t : Nat, w % (lg : Int) = (t : Int) := ⟨(w % (lg : Int)).toNat, by have := Int.emod_nonneg w (show (lg : Int) ≠ 0 by omega); omega⟩
  have tl : t < lg := by have := Int.emod_lt_of_pos w (show (0 : Int) < (lg : Int) by omega); omega
  have mt : gMod (.int w) (.int (lg : Nat)) = some (.int (t : Nat)) := by rw [← ht]; exact gMod_int (by omega)
  have tb : t < b.length := by omega
  obtain ⟨ch, hch⟩ : ∃ ch, b[t]? = some ch := ⟨_, List.getElem?_eq_getElem tb⟩
  have cL := hL ch (List.mem_of_getElem? hch)
  obtain ⟨f, hf, hf26⟩ : ∃ f, ch = 97 + f ∧ f < 26 := by
    unfold isL at cL
    simp at cL
    exact ⟨ch - 97, by omega, by omega⟩
  refine ⟨b, t, f, decide (M % 3 = 1) && decide (lg = 8), tb, by omega, hL, hf26, by rw [hch, hf], fun h => by
    rw [Bool.and_eq_true, decide_eq_true_eq, decide_eq_true_eq] at h
    omega, ?_⟩
  have ib : gIx (.str (tx b)) (.int (t : Nat)) = some (.str (tx [97 + f])) := by rw [← hf]; exact gIx_tx hch (by omega)
  have oc : gIndex (.str abc) (.str (tx [97 + f])) = some (.int (f : Nat)) := by
    show (match Builtin.Str.occurrences abc (tx [97 + f]) 0 abc.length 1 with
      | i :: _ => some (PyData.int (i : Nat))
      | [] => none) = _
    rw [occ_abc ⟨f, hf26⟩]
  have lenb : gLen [.str (tx b)] = some (.d (.int (lg : Nat))) := by
    have : gLen [.str (tx b)] = some (Ow.d (.int ((tx b).length : Nat))) := if_pos (by rw [tx_len, sizeLine_eq]; omega)
    rw [this, tx_len, bl]
  have he : envOf 8 [.int c, .int w, .int (n : Nat)] = [some (.d (.int c)), some (.d (.int w)), some (.d (.int (n : Nat))), none, none, none, none, none, none, none, none] := rfl
  rw [he]
  refine fin_step (env1 := [some (.d (.int c)), some (.d (.int w)), some (.d (.int (n : Nat))), some (.d (.str abc)), none, none, none, none, none, none, none]) rfl ?_
  refine fin_step (env1 := [some (.d (.int c)), some (.d (.int w)), some (.d (.int (n : Nat))), some (.d (.str abc)), some (.d (.int M)), none, none, none, none, none, none]) (by generalize abc = A; simp [p20, mM]) ?_
  refine fin_step (env1 := [some (.d (.int c)), some (.d (.int w)), some (.d (.int (n : Nat))), some (.d (.str abc)), some (.d (.int M)), some (.d (.str (tx []))), none, none, none, none, none]) (by rw [← empty_is]; rfl) ?_
  refine fin_step (env1 := _) (by
    rw [sFor_eq]
    have it : (eB (aCons (eM (eBinO gAdd (eC (.int 1)) (eBin gMod (eVar 4) (eC (.int 8)))) viewD) aNil) rg1) [some (.d (.int c)), some (.d (.int w)), some (.d (.int (n : Nat))), some (.d (.str abc)), some (.d (.int M)), some (.d (.str (tx []))), none, none, none, none, none] = .ok (rangeD 0 lg) := by
      have rg := rg1_nat lg (by omega)
      generalize abc = A
      generalize rangeD 0 lg = RG at rg ⊢
      simp [m8, hlg, rg]
    rw [it, R.st_ok]
    exact e1) ?_
  refine fin_step (env1 := [some (.d (.int c)), some (.d (.int w)), some (.d (.int (n : Nat))), some (.d (.str abc)), some (.d (.int M)), some (.d (.str (tx b))), x6, some (.d (.int (t : Nat))), none, none, none]) (by generalize abc = A; generalize tx b = B at lenb ⊢; simp [lenb, mt]) ?_
  refine fin_step (env1 := [some (.d (.int c)), some (.d (.int w)), some (.d (.int (n : Nat))), some (.d (.str abc)), some (.d (.int M)), some (.d (.str (tx b))), x6, some (.d (.int (t : Nat))), some (.d (.int (f : Nat))), none, none]) (by
    have ei : eTxIndex (eVar 3) (eBin gIx (eVar 5) (eVar 7)) [some (.d (.int c)), some (.d (.int w)), some (.d (.int (n : Nat))), some (.d (.str abc)), some (.d (.int M)), some (.d (.str (tx b))), x6, some (.d (.int (t : Nat))), none, none, none] = .ok (.int (f : Nat)) := by
      unfold eTxIndex
      have e3 : eVar 3 [some (.d (.int c)), some (.d (.int w)), some (.d (.int (n : Nat))), some (.d (.str abc)), some (.d (.int M)), some (.d (.str (tx b))), x6, some (.d (.int (t : Nat))), none, none, none] = .ok (.str abc) := rfl
      rw [e3, R.bind_ok]
      simp only
      generalize abc = A at oc ⊢
      generalize tx b = B at ib ⊢
      simp [ib, oc]
    rw [sSet_eq, eM_eq, ei]
    rfl) ?_
  have m3 : gMod (.int M) (.int 3) = some (.int (M % 3)) := gMod_int (by decide)
  have e3 : gEq (.int (M % 3)) (.int 1) = some (.bool (decide (M % 3 = 1))) := by
    show some (PyData.bool (M % 3 == 1)) = _
    congr 2
  have e8 : gEq (.int (lg : Nat)) (.int 8) = some (.bool (decide (lg = 8))) := by
    show some (PyData.bool (((lg : Nat) : Int) == 8)) = _
    congr 2
    by_cases z : lg = 8
    · subst z; rfl
    · rw [decide_eq_false z, beq_eq_false_iff_ne.mpr (by omega)]
  obtain ⟨Q, hQ⟩ : ∃ Q, Q = (decide (M % 3 = 1) && decide (lg = 8)) := ⟨_, rfl⟩
  rw [← hQ]
  refine fin_step (env1 := [some (.d (.int c)), some (.d (.int w)), some (.d (.int (n : Nat))), some (.d (.str abc)), some (.d (.int M)), some (.d (.str (tx b))), x6, some (.d (.int (t : Nat))), some (.d (.int (f : Nat))), some (.l []), none]) (by generalize abc = A; generalize tx b = B; simp [sizeLine_eq]) ?_
  obtain ⟨env', lp, y6, y10, e'⟩ := forL_ind (g := gtName 6) (f := n7Step) (rangeD 0 n) (fun k env => ∃ y6 y10, env = [some (.d (.int c)), some (.d (.int w)), some (.d (.int (n : Nat))), some (.d (.str abc)), some (.d (.int M)), some (.d (.str (tx b))), y6, some (.d (.int (t : Nat))), some (.d (.int (f : Nat))), some (rowWO ((List.range k).map (nm7 b t f Q))), y10]) (by
    rintro k d _ hd ⟨y6, y10, rfl⟩
    obtain ⟨hk, ed⟩ := rangeD_at hd
    rw [Int.zero_add] at ed
    subst ed
    refine ⟨[some (.d (.int c)), some (.d (.int w)), some (.d (.int (n : Nat))), some (.d (.str abc)), some (.d (.int M)), some (.d (.str (tx b))), some (.d (.int (k : Nat))), some (.d (.int (t : Nat))), some (.d (.int (f : Nat))), some (rowWO ((List.range k).map (nm7 b t f Q))), y10], rfl, [some (.d (.int c)), some (.d (.int w)), some (.d (.int (n : Nat))), some (.d (.str abc)), some (.d (.int M)), some (.d (.str (tx b))), some (.d (.int (k : Nat))), some (.d (.int (t : Nat))), some (.d (.int (f : Nat))), some (rowWO ((List.range (k + 1)).map (nm7 b t f Q))), some (.d (.str (tx (nm7 b t f Q k))))], .inl ?_, _, _, rfl⟩
    obtain ⟨_, h1, h2⟩ := letter ((f : Int) + (k : Int)) (by omega)
    have hm : ((f : Int) + (k : Int)) % 26 = (((f + k) % 26 : Nat) : Int) := by omega
    have s1 := gSl_to (l := b) (k := t) (by omega)
    have s2 := gSl_from (l := b) (k := t + 1) (by omega) (by omega)
    have tc : ((t + 1 : Nat) : Int) = (t : Int) + 1 := by omega
    rw [tc] at s2
    rw [hm, Int.toNat_natCast] at h2
    rw [hm] at h1
    have a1 : gAdd (.str (tx (b.take t))) (.str (tx [97 + (f + k) % 26])) = some (.d (.str (tx (b.take t ++ [97 + (f + k) % 26])))) := gAdd_tx (by rw [List.length_take]; simp; omega)
    have a2 : gAdd (.str (tx (b.take t ++ [97 + (f + k) % 26]))) (.str (tx (b.drop (t + 1)))) = some (.d (.str (tx (nm9 b t f k)))) := by
      unfold nm9
      exact gAdd_tx (by rw [List.length_append, List.length_take, List.length_drop]; simp; omega)
    have st1 : (sSet 10 (eM (eM (eBinO gAdd (eB (eBinO gAdd (eB (eSl (eVar 5) oNone (eB (eVar 7) asI)) shD) (eBin gIx (eVar 3) (eBin gMod (eM (eBinO gAdd (eVar 8) (eVar 6)) viewD) (eC (.int 26))))) shD) (eB (eSl (eVar 5) (eB (eM (eBinO gAdd (eVar 7) (eC (.int 1))) viewD) asI) oNone) shD)) viewD) Ow.d)) [some (.d (.int c)), some (.d (.int w)), some (.d (.int (n : Nat))), some (.d (.str abc)), some (.d (.int M)), some (.d (.str (tx b))), some (.d (.int (k : Nat))), some (.d (.int (t : Nat))), some (.d (.int (f : Nat))), some (rowWO ((List.range k).map (nm7 b t f Q))), y10] = .nx [some (.d (.int c)), some (.d (.int w)), some (.d (.int (n : Nat))), some (.d (.str abc)), some (.d (.int M)), some (.d (.str (tx b))), some (.d (.int (k : Nat))), some (.d (.int (t : Nat))), some (.d (.int (f : Nat))), some (rowWO ((List.range k).map (nm7 b t f Q))), some (.d (.str (tx (nm9 b t f k))))] := by
      generalize rowWO ((List.range k).map (nm7 b t f Q)) = RO
      generalize tx (nm9 b t f k) = R1 at a2 ⊢
      generalize tx (b.take t ++ [97 + (f + k) % 26]) = R2 at a1 a2
      generalize tx [97 + (f + k) % 26] = R3 at a1 h2
      generalize tx (b.take t) = R4 at a1 s1
      generalize tx (b.drop (t + 1)) = R5 at a2 s2
      generalize tx b = B at s1 s2 ⊢
      generalize abc = A at h2 ⊢
      generalize (((f + k) % 26 : Nat) : Int) = z at h1 h2
      simp [s1, s2, h1, h2, a1, a2]
    have lt8 : gLt (.int (k : Nat)) (.int 8) = some (.bool (decide (k < 8))) := by
      show some (PyData.bool (decide (((k : Nat) : Int) < 8))) = _
      congr 2
      exact decide_eq_decide.mpr (by omega)
    have st2 : (sIf (tAndE (eB (eBin gEq (eBin gMod (eVar 4) (eC (.int 3))) (eC (.int 1))) asB) (tAndE (eB (eBin gLt (eVar 6) (eC (.int 8))) asB) (eB (eBin gEq (eM (eCa gLen (aCons (eVar 5) aNil)) viewD) (eC (.int 8))) asB)))
        (sSet 10 (eM (eM (eSl (eVar 5) oNone (eB (eBin gSub (eC (.int 8)) (eVar 6)) asI)) viewD) Ow.d))
        sSkip) [some (.d (.int c)), some (.d (.int w)), some (.d (.int (n : Nat))), some (.d (.str abc)), some (.d (.int M)), some (.d (.str (tx b))), some (.d (.int (k : Nat))), some (.d (.int (t : Nat))), some (.d (.int (f : Nat))), some (rowWO ((List.range k).map (nm7 b t f Q))), some (.d (.str (tx (nm9 b t f k))))] = .nx [some (.d (.int c)), some (.d (.int w)), some (.d (.int (n : Nat))), some (.d (.str abc)), some (.d (.int M)), some (.d (.str (tx b))), some (.d (.int (k : Nat))), some (.d (.int (t : Nat))), some (.d (.int (f : Nat))), some (rowWO ((List.range k).map (nm7 b t f Q))), some (.d (.str (tx (nm7 b t f Q k))))] := by
      have sk : k < 8 → gSl (.str (tx b)) none (some (8 - (k : Int))) = some (.d (.str (tx (b.take (8 - k))))) := fun h => by
        have := gSl_to (l := b) (k := 8 - k) (by omega)
        rw [show ((8 - k : Nat) : Int) = 8 - (k : Int) by omega] at this
        exact this
      have q7 : nm7 b t f Q k = if (M % 3 = 1 ∧ lg = 8) ∧ k < 8 then b.take (8 - k) else nm9 b t f k := by
        unfold nm7
        rw [hQ]
        simp only [Bool.and_eq_true, decide_eq_true_eq]
      rw [q7]
      generalize rowWO ((List.range k).map (nm7 b t f Q)) = RO
      by_cases z3 : M % 3 = 1
      · by_cases z8 : lg = 8
        · rw [decide_eq_true z3] at e3
          rw [decide_eq_true z8] at e8
          by_cases zk : k < 8
          · have sk := sk zk
            rw [decide_eq_true zk] at lt8
            rw [if_pos ⟨⟨z3, z8⟩, zk⟩]
            generalize tx (nm9 b t f k) = R1
            generalize tx (b.take (8 - k)) = R2 at *
            generalize tx b = B at *
            generalize abc = A at *
            simp [m3, e3, lt8, lenb, e8, sk]
          · rw [decide_eq_false zk] at lt8
            rw [if_neg (fun h => zk h.2)]
            generalize tx (nm9 b t f k) = R1
            generalize tx b = B at *
            generalize abc = A at *
            simp [m3, e3, lt8]
        · rw [decide_eq_true z3] at e3
          rw [decide_eq_false z8] at e8
          rw [if_neg (fun h => z8 h.1.2)]
          generalize tx (nm9 b t f k) = R1
          generalize tx b = B at *
          generalize abc = A at *
          generalize decide (k < 8) = bk at *
          cases bk <;> simp [m3, e3, lt8, lenb, e8]
      · rw [decide_eq_false z3] at e3
        rw [if_neg (fun h => z3 h.1.1)]
        generalize tx (nm9 b t f k) = R1
        generalize tx b = B at *
        generalize abc = A at *
        simp [m3, e3]
    show sSeq _ _ _ = _
    rw [sqW st1, sqW st2, sApp_ofW (os := ((List.range k).map (nm7 b t f Q)).map fun w => .d (.str (tx w))) (r := .d (.str (tx (nm7 b t f Q k)))) rfl rfl (by rw [List.length_map, List.length_map, List.length_range, sizeLine_eq]; omega)]
    rw [List.range_succ, List.map_append (l₂ := [k])]
    unfold rowWO
    rw [List.map_append]
    rfl) [some (.d (.int c)), some (.d (.int w)), some (.d (.int (n : Nat))), some (.d (.str abc)), some (.d (.int M)), some (.d (.str (tx b))), x6, some (.d (.int (t : Nat))), some (.d (.int (f : Nat))), some (.l []), none] ⟨x6, none, rfl⟩
  have it : (eB (aCons (eVar 2) aNil) rg1) [some (.d (.int c)), some (.d (.int w)), some (.d (.int (n : Nat))), some (.d (.str abc)), some (.d (.int M)), some (.d (.str (tx b))), x6, some (.d (.int (t : Nat))), some (.d (.int (f : Nat))), some (.l []), none] = .ok (rangeD 0 n) := by
    have rg := rg1_nat n (by omega)
    generalize abc = A
    generalize tx b = B
    generalize rangeD 0 n = RG at rg ⊢
    simp [rg]
  refine fin_step (by rw [sFor_eq, it, R.st_ok]; exact lp) ?_
  rw [rangeD_len] at e'
  subst e'
  rfl
end
end Mir
set_option Elab.async false
set_option linter.all false
set_option maxRecDepth 100000
set_option maxHeartbeats 4000000
namespace Mir
open PySem PySem.Spec L2
noncomputable section
theorem few_of_nodup {α : Type} [DecidableEq α] : ∀ (l m : List α), l.Nodup → (∀ x ∈ l, x ∈ m) → l.length ≤ m.length
  | [], m, _, _ => Nat.zero_le _
  | x :: l, m, nd, h => by
    have nd' := List.nodup_cons.mp nd
    have xm := h x List.mem_cons_self
    have ih := few_of_nodup l (m.erase x) nd'.2 fun y hy => by
      have ne : y ≠ x := fun e => nd'.1 (by rw [← e]; exact hy)
      exact (List.mem_erase_of_ne ne).mpr (h y (List.mem_cons_of_mem _ hy))
    have := List.length_erase_of_mem xm
    have : 0 < m.length := List.length_pos_of_mem xm
    rw [List.length_cons]
    omega
structure DrW (kn nm : Nat → Wo) (lots : Nat) (w : List WdK) (s : Nat) : Prop where
  kinds : w.map (·.1) = (List.range lots).map kn
  sum : (w.map fun k => k.2.length).sum = s
  rows : ∀ k ∈ w, ∀ r ∈ k.2, (∃ j, j < 16 ∧ r.1 = nm j) ∧ r.2.length ≤ 4 ∧ ∀ b ∈ r.2, ∃ i, i < lots ∧ b = kn i
  nd : ∀ k ∈ w, (k.2.map (·.1)).Nodup
  bare : ∀ k ∈ w, ∃ r ∈ k.2, r.2 = []
theorem sum_set {α : Type} (f : α → Nat) : ∀ (l : List α) (a : Nat) (x y : α), l[a]? = some x → ((l.set a y).map f).sum + f x = (l.map f).sum + f y
  | [], a, x, y, h => by simp at h
  | z :: l, 0, x, y, h => by
    simp at h
    subst h
    simp
    omega
  | z :: l, a + 1, x, y, h => by
    have ih := sum_set f l a x y (by simpa using h)
    simp at ih ⊢
    omega
theorem map_set_same {α β : Type} (f : α → β) {l : List α} {a : Nat} {x y : α} (h : l[a]? = some x) (e : f y = f x) : (l.set a y).map f = l.map f := by
  apply List.ext_getElem?
  intro i
  rw [List.getElem?_map, List.getElem?_map, List.getElem?_set]
  by_cases c : a = i
  · subst c
    have := (List.getElem?_eq_some_iff.mp h).1
    rw [if_pos rfl, if_pos this, h, Option.map_some, Option.map_some, e]
  · rw [if_neg c]
def insR {α : Type} (p : Nat) (x : α) (l : List α) : List α := l.take p ++ [x] ++ l.drop p
theorem insR_perm {α : Type} (p : Nat) (x : α) (l : List α) : (insR p x l).Perm (x :: l) := by
  unfold insR
  rw [List.append_assoc]
  have : (l.take p ++ ([x] ++ l.drop p)).Perm (x :: (l.take p ++ l.drop p)) := List.perm_middle
  rwa [List.take_append_drop] at this
section
variable {kn nm : Nat → Wo} {lots : Nat} {w : List WdK} {s : Nat}
theorem DrW.len (h : DrW kn nm lots w s) : w.length = lots := by
  have := congrArg List.length h.kinds
  simpa using this
theorem DrW.le (h : DrW kn nm lots w s) {k : WdK} (hk : k ∈ w) : k.2.length ≤ s := by
  rw [← h.sum]
  have : ∀ l : List WdK, k ∈ l → k.2.length ≤ (l.map fun k => k.2.length).sum := fun l => by
    induction l with
    | nil => intro h; cases h
    | cons x l ih =>
      intro h
      rw [List.map_cons, List.sum_cons]
      rcases List.mem_cons.mp h with rfl | h
      · omega
      · have := ih h; omega
  exact this w hk
theorem DrW.ins (h : DrW kn nm lots w s) {a : Nat} {k : WdK} (hk : w[a]? = some k) {j p : Nat} (hj : j < 16) (hn : nm j ∉ k.2.map (·.1)) {br : List Wo} (b4 : br.length ≤ 4) (hb : ∀ b ∈ br, ∃ i, i < lots ∧ b = kn i) : DrW kn nm lots (w.set a (k.1, insR p (nm j, br) k.2)) (s + 1) := by
  have km := List.mem_of_getElem? hk
  have pm := insR_perm p ((nm j, br) : WdR) k.2
  refine ⟨(map_set_same (fun x : WdK => x.1) (y := (k.1, insR p (nm j, br) k.2)) hk rfl).trans h.kinds, ?_, fun q hq r hr => ?_, fun q hq => ?_, fun q hq => ?_⟩
  · have := sum_set (fun k : WdK => k.2.length) w a k (k.1, insR p (nm j, br) k.2) hk
    have l := pm.length_eq
    have hs := h.sum
    simp only [List.length_cons] at l this
    rw [l] at this
    omega
  · rcases List.mem_or_eq_of_mem_set hq with hq | rfl
    · exact h.rows q hq r hr
    · rcases List.mem_cons.mp (pm.mem_iff.mp hr) with rfl | hr
      · exact ⟨⟨j, hj, rfl⟩, b4, hb⟩
      · exact h.rows k km r hr
  · rcases List.mem_or_eq_of_mem_set hq with hq | rfl
    · exact h.nd q hq
    · rw [(pm.map _).nodup_iff, List.map_cons, List.nodup_cons]
      exact ⟨hn, h.nd k km⟩
  · rcases List.mem_or_eq_of_mem_set hq with hq | rfl
    · exact h.bare q hq
    · obtain ⟨r, hr, e⟩ := h.bare k km
      exact ⟨r, pm.mem_iff.mpr (List.mem_cons_of_mem _ hr), e⟩
theorem DrW.ok (h : DrW kn nm lots w s) (hs : s ≤ 16) (l1 : 1 ≤ lots) (l2 : lots ≤ 6) (hk : ∀ i, NmW (kn i)) (hn : ∀ i, NmW (nm i)) (ki : ∀ i j, i < lots → j < lots → kn i = kn j → i = j) : OkWd w := by
  have ke : ∀ k ∈ w, ∃ i, i < lots ∧ k.1 = kn i := fun k hk => by
    have m : k.1 ∈ w.map (·.1) := List.mem_map_of_mem hk
    rw [h.kinds] at m
    obtain ⟨i, hi, e⟩ := List.mem_map.mp m
    exact ⟨i, List.mem_range.mp hi, e.symm⟩
  refine ⟨fun k hk' => ⟨?_, ?_, ?_, fun r hr => ⟨?_, ?_, ?_⟩⟩, ?_, ?_, ?_, h.nd, h.bare, fun k hk' r hr b hb => ?_⟩
  · obtain ⟨i, _, e⟩ := ke k hk'
    rw [e]; exact hk i
  · obtain ⟨r, hr, _⟩ := h.bare k hk'
    intro e
    rw [e] at hr
    cases hr
  · have := h.le hk'; omega
  · obtain ⟨⟨j, _, e⟩, _⟩ := h.rows k hk' r hr
    rw [e]; exact hn j
  · exact (h.rows k hk' r hr).2.1
  · intro b hb
    obtain ⟨i, _, e⟩ := (h.rows k hk' r hr).2.2 b hb
    rw [e]; exact hk i
  · intro e
    have := h.len
    rw [e, List.length_nil] at this
    omega
  · rw [h.len]; omega
  · rw [h.kinds]
    refine List.pairwise_map.mpr ?_
    have nr : (List.range lots).Nodup := List.nodup_range
    have : (List.range lots).Pairwise fun a b => kn a ≠ kn b := by
      refine List.Pairwise.imp_of_mem (fun {a b} ha hb ne e => ?_) nr
      exact ne (ki a b (List.mem_range.mp ha) (List.mem_range.mp hb) e)
    exact this
  · obtain ⟨i, hi, e⟩ := (h.rows k hk' r hr).2.2 b hb
    rw [h.kinds, e]
    exact List.mem_map_of_mem (List.mem_range.mpr hi)
/-- a name is left -/
theorem DrW.free (h : DrW kn nm lots w s) (hs : s ≤ 15) (ni : ∀ i j, i < 16 → j < 16 → nm i = nm j → i = j) {k : WdK} (hk : k ∈ w) : 1 ≤ (((List.range 16).map nm).filter fun z => !(k.2.map (·.1)).any fun x => x == z).length := by
  have nd : ((List.range 16).map nm).Nodup := by
    refine List.pairwise_map.mpr ?_
    exact List.Pairwise.imp_of_mem (fun {a b} ha hb ne e => ne (ni a b (List.mem_range.mp ha) (List.mem_range.mp hb) e)) List.nodup_range
  apply Nat.one_le_iff_ne_zero.mpr
  intro z
  have all : ∀ x ∈ (List.range 16).map nm, x ∈ k.2.map (·.1) := fun x hx => by
    by_cases c : x ∈ k.2.map (·.1)
    · exact c
    · have m : x ∈ ((List.range 16).map nm).filter fun z => !(k.2.map (·.1)).any fun x => x == z := by
        rw [List.mem_filter]
        refine ⟨hx, ?_⟩
        rw [Bool.not_eq_true', List.any_eq_false]
        intro y hy e
        exact c (by rw [← (beq_iff_eq.mp e)]; exact hy)
      rw [List.length_eq_zero_iff.mp z] at m
      cases m
  have := few_of_nodup _ _ nd all
  rw [List.length_map, List.length_range, List.length_map] at this
  have := h.le hk
  omega
end
theorem okThaw_ofX {i : Nat} {dead keep : List Nat} {env env' : Ev} (h : ∀ j x, env'[j]? = some x → okAt i dead keep env (0 + j) x) : okThaw i dead keep env env' := fun j x hx => by have := h j x hx; rwa [Nat.zero_add] at this
theorem okF_nilX {i : Nat} {dead keep : List Nat} {env : Ev} {n : Nat} : ∀ j x, ([] : Ev)[j]? = some x → okAt i dead keep env (n + j) x := fun j x h => by simp at h
theorem okF_consX {i : Nat} {dead keep : List Nat} {env : Ev} {n : Nat} {x : Option Ow} {xs : Ev} (h : okAt i dead keep env n x) (t : ∀ j y, xs[j]? = some y → okAt i dead keep env (n + 1 + j) y) : ∀ j y, (x :: xs)[j]? = some y → okAt i dead keep env (n + j) y
  | 0, y, e => by
    rw [List.getElem?_cons_zero] at e
    cases e
    exact h
  | j + 1, y, e => by
    rw [List.getElem?_cons_succ] at e
    have := t j y e
    rwa [show n + (j + 1) = n + 1 + j by omega]
section
variable {i : Nat} {dead keep : List Nat} {env : Ev} {n : Nat}
theorem okIX {x : Option Ow} (h : n = i := by decide) : okAt i dead keep env n x := .inl h
theorem okNX : okAt i dead keep env n none := .inr (.inr (.inl rfl))
theorem okCX {o : Ow} (h : cleanO o = true) : okAt i dead keep env n (some o) := .inr (.inr (.inr (.inl ⟨o, rfl, h⟩)))
theorem okKX {d : D} (h : n ∈ keep := by decide) (e : env[n]? = some (some (.d d)) := by rfl) : okAt i dead keep env n (some (.d d)) := .inr (.inr (.inr (.inr ⟨h, d, rfl, e⟩)))
end
theorem clean_lsX {xs : List D} (h : ∀ x ∈ xs, cleanD x = true) : cleanO (.l (xs.map Ow.d)) = true := by
  rw [cleanO, cleanOs_iff]
  intro o ho
  obtain ⟨x, hx, rfl⟩ := List.mem_map.mp ho
  rw [cleanO]
  exact h x hx
end
end Mir
set_option Elab.async false
set_option linter.all false
set_option maxRecDepth 100000
set_option maxHeartbeats 4000000
namespace G
open PySem PySem.Spec L2 Mir
def top (i : Nat) : Stmt := PySem.Challenge.pw_turnery_k07_woods_shown_and_read.main.body.getD i (.Pass ⟨0, 0, 0, 0⟩)
abbrev s_run_end : Stmt := top 8
abbrev s_word_end : Stmt := top 9
abbrev s_words : Stmt := top 10
abbrev s_is_name : Stmt := top 11
abbrev s_parted : Stmt := top 12
abbrev s_row_by : Stmt := top 14
abbrev s_kind_by : Stmt := top 15
abbrev s_look_over : Stmt := top 16
abbrev s_read_wood : Stmt := top 17
abbrev s_show_row : Stmt := top 18
abbrev s_show_wood : Stmt := top 19
abbrev s__law_cell_at : Stmt := top 21
abbrev s__law_names : Stmt := top 22
abbrev s__law_wood : Stmt := top 23
abbrev s__law_parts : Stmt := top 24
abbrev s__law_shown : Stmt := top 25
abbrev s__law_joined : Stmt := top 26
abbrev s__law_kinds : Stmt := top 27
abbrev s_law : Stmt := top 28
/-- run_end: 0 text, 1 start, 2 signs, 3 end -/
noncomputable def b_run_end (m : Nat → List PyData → R Ow) : Ev → SR :=
    (sSeq (sSet 3 (eM (eVar 1) Ow.d))
    (sSeq (whileN (tAndE (eB (eBin gLt (eVar 3) (eM (eCa gLen (aCons (eVar 0) aNil)) viewD)) asB) (eB (eBin gIn (eBin gIx (eVar 0) (eVar 3)) (eVar 2)) asB))
    (sAug gAddA 3 (eC (.int 1))) 1000000)
    (sRet (eM (eVar 3) Ow.d))))
/-- word_end: 0 text, 1 start, 2 end, 3 first -/
noncomputable def b_word_end (m : Nat → List PyData → R Ow) : Ev → SR :=
    (sSeq (sIf (eB (eBin gIn (eBin gIx (eVar 0) (eVar 1)) (eC (.str "();:=|*"))) asB)
    (sRet (eBinO gAdd (eVar 1) (eC (.int 1))))
    sSkip)
    (sSeq (sSet 2 (eM (eM (eB (aCons (eVar 0) (aCons (eVar 1) (aCons (eC (.str "abcdefghijklmnopqrstuvwxyz")) aNil))) (m 0)) viewD) Ow.d))
    (sSeq (sIf (eB (eBin gGt (eVar 2) (eVar 1)) asB)
    (sSeq (sIf (eB (eBin gGt (eBin gSub (eVar 2) (eVar 1)) (eC (.int 8))) asB)
    (sRaise "NoText")
    sSkip)
    (sRet (eM (eVar 2) Ow.d)))
    sSkip)
    (sSeq (sSet 3 (eM (eM (eBinO gAdd (eVar 1) (eB (eCa gInt (aCons (eBin gEq (eBin gIx (eVar 0) (eVar 1)) (eC (.str "-"))) aNil)) shD)) viewD) Ow.d))
    (sSeq (sSet 2 (eM (eM (eB (aCons (eVar 0) (aCons (eVar 3) (aCons (eC (.str "0123456789")) aNil))) (m 0)) viewD) Ow.d))
    (sSeq (sIf (tOrE (eB (eBin gEq (eVar 2) (eVar 3)) asB) (eB (eBin gGt (eBin gSub (eVar 2) (eVar 3)) (eC (.int 60))) asB))
    (sRaise "NoText")
    sSkip)
    (sSeq (sIf (tAndE (eB (eBin gEq (eBin gIx (eVar 0) (eVar 3)) (eC (.str "0"))) asB) (tOrE (eB (eBin gGt (eBin gSub (eVar 2) (eVar 3)) (eC (.int 1))) asB) (eB (eBin gGt (eVar 3) (eVar 1)) asB)))
    (sRaise "NoText")
    sSkip)
    (sRet (eM (eVar 2) Ow.d)))))))))
/-- words: 0 text, 1 found, 2 here, 3 end -/
noncomputable def b_words (m : Nat → List PyData → R Ow) : Ev → SR :=
    (sSeq (sIf (tNotE (eB (eB (eVar 0) (gIsi "str")) asB))
    (sRaise "NoText")
    sSkip)
    (sSeq (sSet 1 (eLst aNil))
    (sSeq (sSet 2 (eM (eC (.int 0)) Ow.d))
    (sSeq (whileN (eB (eBin gLt (eVar 2) (eM (eCa gLen (aCons (eVar 0) aNil)) viewD)) asB)
    (sSeq (sIf (eB (eBin gEq (eBin gIx (eVar 0) (eVar 2)) (eC (.str " "))) asB)
    (sSeq (sAug gAddA 2 (eC (.int 1)))
    sCont)
    sSkip)
    (sSeq (sSet 3 (eM (eM (eB (aCons (eVar 0) (aCons (eVar 2) aNil)) (m 1)) viewD) Ow.d))
    (sSeq (sApp 1 (eSl (eVar 0) (eB (eVar 2) asI) (eB (eVar 3) asI)))
    (sSet 2 (eM (eVar 3) Ow.d))))) 1000000)
    (sRetV 1)))))
/-- is_name: 0 word -/
noncomputable def b_is_name (m : Nat → List PyData → R Ow) : Ev → SR :=
    (sRet (eM (eBin gIn (eBin gIx (eVar 0) (eC (.int 0))) (eC (.str "abcdefghijklmnopqrstuvwxyz"))) Ow.d))
/-- parted: 0 row, 1 sign, 2 parts, 3 word -/
noncomputable def b_parted (m : Nat → List PyData → R Ow) : Ev → SR :=
    (sSeq (sSet 2 (eLstO (oCons (eLst aNil) oNil)))
    (sSeq (sFor (eB (eVar 0) itD) (gtName 3)
    (sIf (eB (eBin gEq (eVar 3) (eVar 1)) asB)
    (sApp 2 (eLst aNil))
    (sPApp (pIx (pVar 2) (eB (eC (.int 1)) gNeg)) (eM (eVar 3) Ow.d))))
    (sRetV 2)))
/-- row_by: 0 part, 1 kinds, 2 kind -/
noncomputable def b_row_by (m : Nat → List PyData → R Ow) : Ev → SR :=
    (sSeq (sIf (tOrE (eB (eBin gEq (eVar 0) (eM (eLst aNil) viewD)) asB) (tNotE (eB (eM (eB (aCons (eBin gIx (eVar 0) (eC (.int 0))) aNil) (m 3)) viewD) asB)))
    (sRaise "NoText")
    sSkip)
    (sSeq (sIf (eB (eBin gEq (eM (eCa gLen (aCons (eVar 0) aNil)) viewD) (eC (.int 1))) asB)
    (sRet (eM (eTup (aCons (eBin gIx (eVar 0) (eC (.int 0))) (aCons (eTup aNil) aNil))) Ow.d))
    sSkip)
    (sSeq (sSet 1 (eM (eM (eSl (eVar 0) (eB (eC (.int 2)) asI) (eB (eB (eC (.int 1)) gNeg) asI)) viewD) Ow.d))
    (sSeq (sIf (tOrE (eB (eBin gNe (eBin gIx (eVar 0) (eC (.int 1))) (eC (.str "("))) asB) (tOrE (eB (eBin gNe (eBin gIx (eVar 0) (eB (eC (.int 1)) gNeg)) (eC (.str ")"))) asB) (tOrE (eB (eBin gEq (eVar 1) (eM (eLst aNil) viewD)) asB) (eB (eBin gGt (eM (eCa gLen (aCons (eVar 1) aNil)) viewD) (eC (.int 4))) asB))))
    (sRaise "NoText")
    sSkip)
    (sSeq (sFor (eB (eVar 1) itD) (gtName 2)
    (sIf (tNotE (eB (eM (eB (aCons (eVar 2) aNil) (m 3)) viewD) asB))
    (sRaise "NoText")
    sSkip))
    (sRet (eM (eTup (aCons (eBin gIx (eVar 0) (eC (.int 0))) (aCons (eM (eCa gTuple (aCons (eVar 1) aNil)) viewD) aNil))) Ow.d)))))))
/-- kind_by: 0 part, 1 row -/
noncomputable def b_kind_by (m : Nat → List PyData → R Ow) : Ev → SR :=
    (sSeq (sIf (tOrE (eB (eBin gLt (eM (eCa gLen (aCons (eVar 0) aNil)) viewD) (eC (.int 3))) asB) (tOrE (tNotE (eB (eM (eB (aCons (eBin gIx (eVar 0) (eC (.int 0))) aNil) (m 3)) viewD) asB)) (eB (eBin gNe (eBin gIx (eVar 0) (eC (.int 1))) (eC (.str "="))) asB)))
    (sRaise "NoText")
    sSkip)
    (sRet (eM (eTup (aCons (eBin gIx (eVar 0) (eC (.int 0))) (aCons (eM (eLc (eB (eM (eB (aCons (eM (eSl (eVar 0) (eB (eC (.int 2)) asI) oNone) viewD) (aCons (eC (.str "|")) aNil)) (m 4)) viewD) itD) (gtName 1) cYes (eB (aCons (eVar 1) aNil) (m 5)) (List.map (·.2) ([("row", 1)] : List (Str × Nat)))) viewD) aNil))) Ow.d)))
/-- look_over: 0 wood, 1 kinds, 2 kind, 3 rows, 4 names, 5 name, 6 branches, 7 wanted -/
noncomputable def b_look_over (m : Nat → List PyData → R Ow) : Ev → SR :=
    (sSeq (sSet 1 (eM (eM (eLc (eB (eVar 0) itD) (gtTup 2 (gtCons (gtName 2) (gtCons (gtName 3) gtNil))) cYes (eM (eVar 2) Ow.d) (List.map (·.2) ([("kind", 2), ("rows", 3)] : List (Str × Nat)))) viewD) Ow.d))
    (sSeq (sIf (eB (eBin gLt (eB (eVar 1) gLenSet) (eM (eCa gLen (aCons (eVar 1) aNil)) viewD)) asB)
    (sRaise "NoWood")
    sSkip)
    (sFor (eB (eVar 0) itD) (gtTup 2 (gtCons (gtName 2) (gtCons (gtName 3) gtNil)))
    (sSeq (sSet 4 (eM (eM (eLc (eB (eVar 3) itD) (gtTup 2 (gtCons (gtName 5) (gtCons (gtName 6) gtNil))) cYes (eM (eVar 5) Ow.d) (List.map (·.2) ([("name", 5), ("branches", 6)] : List (Str × Nat)))) viewD) Ow.d))
    (sSeq (sIf (eB (eBin gLt (eB (eVar 4) gLenSet) (eM (eCa gLen (aCons (eVar 4) aNil)) viewD)) asB)
    (sRaise "NoWood")
    sSkip)
    (sSeq (sIf (eB (eBin gNotIn (eTup aNil) (eM (eLc (eB (eVar 3) itD) (gtTup 2 (gtCons (gtName 5) (gtCons (gtName 6) gtNil))) cYes (eM (eVar 6) Ow.d) (List.map (·.2) ([("name", 5), ("branches", 6)] : List (Str × Nat)))) viewD)) asB)
    (sRaise "NoWood")
    sSkip)
    (sFor (eB (eVar 3) itD) (gtTup 2 (gtCons (gtName 5) (gtCons (gtName 6) gtNil)))
    (sFor (eB (eVar 6) itD) (gtName 7)
    (sIf (eB (eBin gNotIn (eVar 7) (eVar 1)) asB)
    (sRaise "NoWood")
    sSkip)))))))))
/-- read_wood: 0 text, 1 wood, 2 part, 3 kind, 4 rows -/
noncomputable def b_read_wood (m : Nat → List PyData → R Ow) : Ev → SR :=
    (sSeq (sSet 1 (eM (eM (eLc (eB (eM (eB (aCons (eM (eB (aCons (eVar 0) aNil) (m 2)) viewD) (aCons (eC (.str ";")) aNil)) (m 4)) viewD) itD) (gtName 2) cYes (eB (aCons (eVar 2) aNil) (m 6)) (List.map (·.2) ([("part", 2)] : List (Str × Nat)))) viewD) Ow.d))
    (sSeq (sIf (tOrE (eB (eBin gGt (eM (eCa gLen (aCons (eVar 1) aNil)) viewD) (eC (.int 6))) asB) (eB (eBin gGt (eM (eCa gSum (aCons (eB (eLc (eB (eVar 1) itD) (gtTup 2 (gtCons (gtName 3) (gtCons (gtName 4) gtNil))) cYes (eCa gLen (aCons (eVar 4) aNil)) (List.map (·.2) ([("kind", 3), ("rows", 4)] : List (Str × Nat)))) shD) aNil)) viewD) (eC (.int 16))) asB))
    (sRaise "NoText")
    sSkip)
    (sSeq (sDrop (eM (eB (aCons (eVar 1) aNil) (m 7)) viewD))
    (sRet (eLc (eB (eVar 1) itD) (gtTup 2 (gtCons (gtName 3) (gtCons (gtName 4) gtNil))) cYes (eTupO (oCons (eM (eVar 3) Ow.d) (oCons (eCa gSorted (aCons (eVar 4) aNil)) oNil))) (List.map (·.2) ([("kind", 3), ("rows", 4)] : List (Str × Nat))))))))
/-- show_row: 0 row -/
noncomputable def b_show_row (m : Nat → List PyData → R Ow) : Ev → SR :=
    (sSeq (sIf (eB (eBin gEq (eBin gIx (eVar 0) (eC (.int 1))) (eTup aNil)) asB)
    (sRet (eM (eBin gIx (eVar 0) (eC (.int 0))) Ow.d))
    sSkip)
    (sRet (eBinO gAdd (eB (eBinO gAdd (eB (eBinO gAdd (eBin gIx (eVar 0) (eC (.int 0))) (eC (.str "("))) shD) (eJoin (eC (.str " ")) (eBin gIx (eVar 0) (eC (.int 1))))) shD) (eC (.str ")")))))
/-- show_wood: 0 wood, 1 parts, 2 kind, 3 rows, 4 row -/
noncomputable def b_show_wood (m : Nat → List PyData → R Ow) : Ev → SR :=
    (sSeq (sSet 1 (eLst aNil))
    (sSeq (sFor (eB (eVar 0) itD) (gtTup 2 (gtCons (gtName 2) (gtCons (gtName 3) gtNil)))
    (sApp 1 (eBinO gAdd (eB (eBinO gAdd (eVar 2) (eC (.str " = "))) shD) (eJoin (eC (.str " | ")) (eB (eLc (eB (eVar 3) itD) (gtName 4) cYes (eB (aCons (eVar 4) aNil) (m 9)) (List.map (·.2) ([("row", 4)] : List (Str × Nat)))) shD)))))
    (sRet (eM (eJoin (eC (.str "; ")) (eB (eVarO 1) shD)) Ow.d))))
/-- _law_cell_at: 0 _law_script, 1 _law_k -/
noncomputable def b__law_cell_at (m : Nat → List PyData → R Ow) : Ev → SR :=
    (sSeq (sIf (eB (eBin gLt (eVar 1) (eM (eCa gLen (aCons (eVar 0) aNil)) viewD)) asB)
    (sRet (eM (eBin gIx (eVar 0) (eVar 1)) Ow.d))
    sSkip)
    (sRet (eM (eC (.int 0)) Ow.d)))
/-- _law_names: 0 _law_cell, 1 _law_where, 2 _law_lots, 3 _law_letters, 4 _law_number, 5 _law_base, 6 _law_k, 7 _law_there, 8 _law_first, 9 _law_names_here, 10 _law_name -/
noncomputable def b__law_names (m : Nat → List PyData → R Ow) : Ev → SR :=
    (sSeq (sSet 3 (eM (eC (.str "abcdefghijklmnopqrstuvwxyz")) Ow.d))
    (sSeq (sSet 4 (eM (eBin gMod (eVar 0) (eBin gPow (eC (.int 10)) (eC (.int 20)))) Ow.d))
    (sSeq (sSet 5 (eM (eC (.str "")) Ow.d))
    (sSeq (sFor (eB (aCons (eM (eBinO gAdd (eC (.int 1)) (eBin gMod (eVar 4) (eC (.int 8)))) viewD) aNil) rg1) (gtName 6)
    (sSet 5 (eM (eM (eBinO gAdd (eVar 5) (eBin gIx (eVar 3) (eBin gMod (eM (eBinO gAdd (eBin gDiv (eVar 4) (eM (eBinO gAdd (eVar 6) (eC (.int 1))) viewD)) (eBin gMul (eBin gMul (eC (.int 3)) (eVar 6)) (eVar 6))) viewD) (eC (.int 26))))) viewD) Ow.d)))
    (sSeq (sSet 7 (eM (eBin gMod (eVar 1) (eM (eCa gLen (aCons (eVar 5) aNil)) viewD)) Ow.d))
    (sSeq (sSet 8 (eM (eTxIndex (eVar 3) (eBin gIx (eVar 5) (eVar 7))) Ow.d))
    (sSeq (sSet 9 (eLst aNil))
    (sSeq (sFor (eB (aCons (eVar 2) aNil) rg1) (gtName 6)
    (sSeq (sSet 10 (eM (eM (eBinO gAdd (eB (eBinO gAdd (eB (eSl (eVar 5) oNone (eB (eVar 7) asI)) shD) (eBin gIx (eVar 3) (eBin gMod (eM (eBinO gAdd (eVar 8) (eVar 6)) viewD) (eC (.int 26))))) shD) (eB (eSl (eVar 5) (eB (eM (eBinO gAdd (eVar 7) (eC (.int 1))) viewD) asI) oNone) shD)) viewD) Ow.d))
    (sSeq (sIf (tAndE (eB (eBin gEq (eBin gMod (eVar 4) (eC (.int 3))) (eC (.int 1))) asB) (tAndE (eB (eBin gLt (eVar 6) (eC (.int 8))) asB) (eB (eBin gEq (eM (eCa gLen (aCons (eVar 5) aNil)) viewD) (eC (.int 8))) asB)))
    (sSet 10 (eM (eM (eSl (eVar 5) oNone (eB (eBin gSub (eC (.int 8)) (eVar 6)) asI)) viewD) Ow.d))
    sSkip)
    (sApp 9 (eM (eVar 10) Ow.d)))))
    (sRetV 9)))))))))
/-- _law_wood: 0 _law_script, 1 _law_lots, 2 _law_kinds_here, 3 _law_names_here, 4 _law_start, 5 _law_wood_here, 6 _law_k, 7 _law_number, 8 _law_own, 9 _law_free, 10 _law_name, 11 _law_row, 12 _law_branches, 13 _law_j -/
noncomputable def b__law_wood (m : Nat → List PyData → R Ow) : Ev → SR :=
    (sSeq (sSet 1 (eM (eM (eBinO gAdd (eC (.int 1)) (eBin gMod (eM (eB (aCons (eVar 0) (aCons (eC (.int 0)) aNil)) (m 11)) viewD) (eC (.int 6)))) viewD) Ow.d))
    (sSeq (sSet 2 (eM (eM (eSl (eB (eB (aCons (eM (eB (aCons (eVar 0) (aCons (eC (.int 1)) aNil)) (m 11)) viewD) (aCons (eM (eB (aCons (eVar 0) (aCons (eC (.int 2)) aNil)) (m 11)) viewD) (aCons (eC (.int 6)) aNil))) (m 12)) shD) oNone (eB (eVar 1) asI)) viewD) Ow.d))
    (sSeq (sSet 3 (eM (eM (eB (aCons (eM (eB (aCons (eVar 0) (aCons (eC (.int 3)) aNil)) (m 11)) viewD) (aCons (eM (eB (aCons (eVar 0) (aCons (eC (.int 4)) aNil)) (m 11)) viewD) (aCons (eC (.int 16)) aNil))) (m 12)) viewD) Ow.d))
    (sSeq (sSet 4 (eM (eBin gMod (eM (eB (aCons (eVar 0) (aCons (eC (.int 5)) aNil)) (m 11)) viewD) (eBin gPow (eC (.int 10)) (eC (.int 9)))) Ow.d))
    (sSeq (sSet 5 (eLc (eB (aCons (eVar 1) aNil) rg1) (gtName 6) cYes (eTupO (oCons (eM (eBin gIx (eVar 2) (eVar 6)) Ow.d) (oCons (eLst (aCons (eTup (aCons (eBin gIx (eVar 3) (eBin gMod (eBin gDiv (eVar 4) (eM (eBinO gAdd (eVar 6) (eC (.int 1))) viewD)) (eC (.int 16)))) (aCons (eTup aNil) aNil))) aNil)) oNil))) (List.map (·.2) ([("_law_k", 6)] : List (Str × Nat)))))
    (sSeq (sFor (eB (aCons (eC (.int 6)) (aCons (eM (eCa gMin2 (aCons (eB (eCa gLen (aCons (eVar 0) aNil)) shD) (aCons (eBin gSub (eC (.int 22)) (eVar 1)) aNil))) viewD) aNil)) rg2) (gtName 6)
    (sSeq (sSet 7 (eM (eBin gMod (eBin gIx (eVar 0) (eVar 6)) (eBin gPow (eC (.int 10)) (eC (.int 20)))) Ow.d))
    (sBor 5 8 (hIx (hIx (hVar 5) (eBin gMod (eVar 7) (eVar 1))) (eC (.int 1)))
    (sSeq (sThaw 8 [] [0, 1, 2, 3, 4, 5, 6, 7, 12, 13] (sSet 9 (eLc (eB (eVar 3) itD) (gtName 10) (eB (eBin gNotIn (eVar 10) (eM (eLc (eB (eVar 8) itD) (gtName 11) cYes (eM (eBin gIx (eVar 11) (eC (.int 0))) Ow.d) (List.map (·.2) ([("_law_row", 11)] : List (Str × Nat)))) viewD)) asB) (eM (eVar 10) Ow.d) (List.map (·.2) ([("_law_name", 10)] : List (Str × Nat))))))
    (sSeq (sSet 12 (eM (eM (eCa gTuple (aCons (eB (eLc (eB (aCons (eBin gMod (eBin gDiv (eVar 7) (eC (.int 6))) (eC (.int 5))) aNil) rg1) (gtName 13) cYes (eM (eBin gIx (eVar 2) (eBin gMod (eBin gDiv (eVar 7) (eM (eBinO gAdd (eC (.int 7)) (eBin gMul (eC (.int 3)) (eVar 13))) viewD)) (eVar 1))) Ow.d) (List.map (·.2) ([("_law_j", 13)] : List (Str × Nat)))) shD) aNil)) viewD) Ow.d))
    (sInsS 8 (eBin gMod (eBin gDiv (eVar 7) (eC (.int 30))) (eM (eBinO gAdd (eB (eCa gLen (aCons (eB (eVarO 8) shD) aNil)) shD) (eC (.int 1))) viewD)) (eM (eTup (aCons (eBin gIx (eB (eVarO 9) shD) (eBin gMod (eBin gDiv (eVar 7) (eC (.int 90))) (eM (eCa gLen (aCons (eB (eVarO 9) shD) aNil)) viewD))) (aCons (eVar 12) aNil))) Ow.d)))))))
    (sRetV 5)))))))
/-- _law_parts: 0 _law_wood_here, 1 _law_row, 2 _law_kind, 3 _law_rows, 4 _law_k -/
noncomputable def b__law_parts (m : Nat → List PyData → R Ow) : Ev → SR :=
    (sSeq (sSet 1 (eM (eM (eLst aNil) viewD) Ow.d))
    (sSeq (sFor (eB (eVar 0) itD) (gtTup 2 (gtCons (gtName 2) (gtCons (gtName 3) gtNil)))
    (sSeq (sSet 1 (eM (eM (eBinO gAdd (eVar 1) (eB (eLst (aCons (eC (.str ";")) (aCons (eVar 2) (aCons (eC (.str "=")) aNil)))) shD)) viewD) Ow.d))
    (sFor (eB (aCons (eM (eCa gLen (aCons (eVar 3) aNil)) viewD) aNil) rg1) (gtName 4)
    (sSeq (sSet 1 (eM (eM (eBinO gAdd (eB (eBinO gAdd (eVar 1) (eB (eRep (eLst (aCons (eC (.str "|")) aNil)) (eM (eCa gInt (aCons (eBin gGt (eVar 4) (eC (.int 0))) aNil)) viewD)) shD)) shD) (eB (eLst (aCons (eBin gIx (eBin gIx (eVar 3) (eVar 4)) (eC (.int 0))) aNil)) shD)) viewD) Ow.d))
    (sIf (eB (eBin gNe (eBin gIx (eBin gIx (eVar 3) (eVar 4)) (eC (.int 1))) (eTup aNil)) asB)
    (sSet 1 (eM (eM (eBinO gAdd (eB (eBinO gAdd (eB (eBinO gAdd (eVar 1) (eB (eLst (aCons (eC (.str "(")) aNil)) shD)) shD) (eB (eCa gList (aCons (eBin gIx (eBin gIx (eVar 3) (eVar 4)) (eC (.int 1))) aNil)) shD)) shD) (eB (eLst (aCons (eC (.str ")")) aNil)) shD)) viewD) Ow.d))
    sSkip)))))
    (sRet (eSl (eVar 1) (eB (eC (.int 1)) asI) oNone))))
/-- _law_shown: 0 _law_wood_here, 1 _law_parts_here, 2 _law_kind, 3 _law_rows, 4 _law_texts, 5 _law_name, 6 _law_branches -/
noncomputable def b__law_shown (m : Nat → List PyData → R Ow) : Ev → SR :=
    (sSeq (sSet 1 (eLst aNil))
    (sSeq (sFor (eB (eVar 0) itD) (gtTup 2 (gtCons (gtName 2) (gtCons (gtName 3) gtNil)))
    (sSeq (sSet 4 (eLst aNil))
    (sSeq (sFor (eB (eVar 3) itD) (gtTup 2 (gtCons (gtName 5) (gtCons (gtName 6) gtNil)))
    (sIf (eB (eBin gEq (eVar 6) (eTup aNil)) asB)
    (sApp 4 (eM (eVar 5) Ow.d))
    (sApp 4 (eBinO gAdd (eB (eBinO gAdd (eB (eBinO gAdd (eVar 5) (eC (.str "("))) shD) (eJoin (eC (.str " ")) (eVar 6))) shD) (eC (.str ")"))))))
    (sApp 1 (eBinO gAdd (eB (eBinO gAdd (eVar 2) (eC (.str " = "))) shD) (eJoin (eC (.str " | ")) (eB (eVarO 4) shD)))))))
    (sRet (eM (eJoin (eC (.str "; ")) (eB (eVarO 1) shD)) Ow.d))))
/-- _law_joined: 0 _law_row, 1 _law_blanks, 2 _law_text, 3 _law_k, 4 _law_gap -/
noncomputable def b__law_joined (m : Nat → List PyData → R Ow) : Ev → SR :=
    (sSeq (sSet 2 (eM (eC (.str "")) Ow.d))
    (sSeq (sFor (eB (aCons (eM (eCa gLen (aCons (eVar 0) aNil)) viewD) aNil) rg1) (gtName 3)
    (sSeq (sSet 4 (eM (eM (eSl (eC (.str "   ")) oNone (eB (eVar 1) asI)) viewD) Ow.d))
    (sSeq (sIf (tAndE (eB (eBin gGt (eVar 3) (eC (.int 0))) asB) (tAndE (eB (eBin gEq (eVar 1) (eC (.int 0))) asB) (eB (eBin gGt (eM (eCa gLen (aCons (eB (eBinO gAdd (eBin gIx (eVar 0) (eVar 3)) (eBin gIx (eVar 0) (eBin gSub (eVar 3) (eC (.int 1))))) shD) aNil)) viewD) (eC (.int 1))) asB)))
    (sIf (tAndE (eB (eBin gSubNotIn (eBin gIx (eVar 0) (eVar 3)) (eC (.str "();=|"))) asB) (eB (eBin gSubNotIn (eBin gIx (eVar 0) (eBin gSub (eVar 3) (eC (.int 1)))) (eC (.str "();=|"))) asB))
    (sSet 4 (eM (eC (.str " ")) Ow.d))
    sSkip)
    sSkip)
    (sSet 2 (eM (eM (eBinO gAdd (eB (eBinO gAdd (eVar 2) (eVar 4)) shD) (eBin gIx (eVar 0) (eVar 3))) viewD) Ow.d)))))
    (sRet (eM (eVar 2) Ow.d))))
/-- _law_kinds: 0 _law_found, 1 _law_due, 2 _law_kind, 3 _law_rows, 4 _law_row -/
noncomputable def b__law_kinds (m : Nat → List PyData → R Ow) : Ev → SR :=
    (sSeq (sIf (tOrE (tNotE (eB (eB (eVar 0) (gIsi "list")) asB)) (eB (eBin gNe (eVar 0) (eVar 1)) asB))
    (sRet (eM (eC (.bool false)) Ow.d))
    sSkip)
    (sSeq (sFor (eB (eVar 0) itD) (gtTup 2 (gtCons (gtName 2) (gtCons (gtName 3) gtNil)))
    (sSeq (sIf (tNotE (eB (eB (eVar 3) (gIsi "list")) asB))
    (sRet (eM (eC (.bool false)) Ow.d))
    sSkip)
    (sFor (eB (eVar 3) itD) (gtName 4)
    (sIf (tOrE (tNotE (eB (eB (eVar 4) (gIsi "tuple")) asB)) (tNotE (eB (eB (eBin gIx (eVar 4) (eC (.int 1))) (gIsi "tuple")) asB)))
    (sRet (eM (eC (.bool false)) Ow.d))
    sSkip))))
    (sRet (eM (eC (.bool true)) Ow.d))))
/-- law: 0 _law_script, 1 _law_wood_here, 2 _law_due, 3 _law_kind, 4 _law_rows, 5 _law_row, 6 _law_found, 7 _law_again -/
noncomputable def b_law (m : Nat → List PyData → R Ow) : Ev → SR :=
    (sSeq (sSet 1 (eM (eM (eB (aCons (eVar 0) aNil) (m 13)) viewD) Ow.d))
    (sSeq (sSet 2 (eM (eM (eLc (eB (eVar 1) itD) (gtTup 2 (gtCons (gtName 3) (gtCons (gtName 4) gtNil))) cYes (eM (eTup (aCons (eVar 3) (aCons (eM (eCa gSorted (aCons (eVar 4) aNil)) viewD) aNil))) Ow.d) (List.map (·.2) ([("_law_kind", 3), ("_law_rows", 4)] : List (Str × Nat)))) viewD) Ow.d))
    (sSeq (sSet 5 (eM (eM (eB (aCons (eVar 1) aNil) (m 14)) viewD) Ow.d))
    (sSeq (sSet 6 (eB (aCons (eM (eB (aCons (eVar 5) (aCons (eM (eBinO gAdd (eC (.int 1)) (eBin gMod (eBin gDiv (eM (eB (aCons (eVar 0) (aCons (eC (.int 0)) aNil)) (m 11)) viewD) (eC (.int 6))) (eC (.int 3)))) viewD) aNil)) (m 16)) viewD) aNil) (m 8)))
    (sSeq (sThaw 6 [] [0, 1, 2, 3, 4, 5, 7] (sIf (tOrE (tNotE (eB (eM (eB (aCons (eVar 6) (aCons (eVar 2) aNil)) (m 17)) viewD) asB)) (eB (eBin gNe (eM (eB (aCons (eVar 6) aNil) (m 10)) viewD) (eM (eB (aCons (eVar 2) aNil) (m 15)) viewD)) asB))
    (sRet (eM (eC (.bool false)) Ow.d))
    sSkip))
    (sSeq (sPApp (pIx (pIx (pVar 6) (eC (.int 0))) (eC (.int 1))) (eM (eTup (aCons (eC (.str "z")) (aCons (eTup aNil) aNil))) Ow.d))
    (sSeq (sApp 6 (eM (eTup (aCons (eC (.str "z")) (aCons (eM (eLst aNil) viewD) aNil))) Ow.d))
    (sSeq (sIf (tNotE (eB (eM (eB (aCons (eM (eB (aCons (eM (eB (aCons (eVar 5) (aCons (eC (.int 0)) aNil)) (m 16)) viewD) aNil) (m 8)) viewD) (aCons (eVar 2) aNil)) (m 17)) viewD) asB))
    (sRet (eM (eC (.bool false)) Ow.d))
    sSkip)
    (sSeq (sSet 7 (eM (eM (eB (aCons (eM (eB (aCons (eVar 2) aNil) (m 15)) viewD) aNil) (m 8)) viewD) Ow.d))
    (sRet (eM (eAnd (eM (eB (aCons (eVar 7) (aCons (eVar 2) aNil)) (m 17)) viewD) (eB (eM (eB (aCons (eVar 7) aNil) (m 10)) viewD) (gIsi "str"))) Ow.d)))))))))))
noncomputable def mir : Nat → Nat → List PyData → R Ow
  | 0, _ => fun _ => .no
  | n + 1, i => match i with
    | 0 => runB 1 (b_run_end (mir n))
    | 1 => runB 2 (b_word_end (mir n))
    | 2 => runB 3 (b_words (mir n))
    | 3 => runB 0 (b_is_name (mir n))
    | 4 => runB 2 (b_parted (mir n))
    | 5 => runB 2 (b_row_by (mir n))
    | 6 => runB 1 (b_kind_by (mir n))
    | 7 => runB 7 (b_look_over (mir n))
    | 8 => runB 4 (b_read_wood (mir n))
    | 9 => runB 0 (b_show_row (mir n))
    | 10 => runB 4 (b_show_wood (mir n))
    | 11 => runB 0 (b__law_cell_at (mir n))
    | 12 => runB 8 (b__law_names (mir n))
    | 13 => runB 13 (b__law_wood (mir n))
    | 14 => runB 4 (b__law_parts (mir n))
    | 15 => runB 6 (b__law_shown (mir n))
    | 16 => runB 3 (b__law_joined (mir n))
    | 17 => runB 3 (b__law_kinds (mir n))
    | 18 => runB 7 (b_law (mir n))
    | _ => fun _ => .no
theorem mir_run_end (n : Nat) (ds : List PyData) : mir (n + 1) 0 ds = runB 1 (b_run_end (mir n)) ds := rfl
theorem mir_word_end (n : Nat) (ds : List PyData) : mir (n + 1) 1 ds = runB 2 (b_word_end (mir n)) ds := rfl
theorem mir_words (n : Nat) (ds : List PyData) : mir (n + 1) 2 ds = runB 3 (b_words (mir n)) ds := rfl
theorem mir_is_name (n : Nat) (ds : List PyData) : mir (n + 1) 3 ds = runB 0 (b_is_name (mir n)) ds := rfl
theorem mir_parted (n : Nat) (ds : List PyData) : mir (n + 1) 4 ds = runB 2 (b_parted (mir n)) ds := rfl
theorem mir_row_by (n : Nat) (ds : List PyData) : mir (n + 1) 5 ds = runB 2 (b_row_by (mir n)) ds := rfl
theorem mir_kind_by (n : Nat) (ds : List PyData) : mir (n + 1) 6 ds = runB 1 (b_kind_by (mir n)) ds := rfl
theorem mir_look_over (n : Nat) (ds : List PyData) : mir (n + 1) 7 ds = runB 7 (b_look_over (mir n)) ds := rfl
theorem mir_read_wood (n : Nat) (ds : List PyData) : mir (n + 1) 8 ds = runB 4 (b_read_wood (mir n)) ds := rfl
theorem mir_show_row (n : Nat) (ds : List PyData) : mir (n + 1) 9 ds = runB 0 (b_show_row (mir n)) ds := rfl
theorem mir_show_wood (n : Nat) (ds : List PyData) : mir (n + 1) 10 ds = runB 4 (b_show_wood (mir n)) ds := rfl
theorem mir__law_cell_at (n : Nat) (ds : List PyData) : mir (n + 1) 11 ds = runB 0 (b__law_cell_at (mir n)) ds := rfl
theorem mir__law_names (n : Nat) (ds : List PyData) : mir (n + 1) 12 ds = runB 8 (b__law_names (mir n)) ds := rfl
theorem mir__law_wood (n : Nat) (ds : List PyData) : mir (n + 1) 13 ds = runB 13 (b__law_wood (mir n)) ds := rfl
theorem mir__law_parts (n : Nat) (ds : List PyData) : mir (n + 1) 14 ds = runB 4 (b__law_parts (mir n)) ds := rfl
theorem mir__law_shown (n : Nat) (ds : List PyData) : mir (n + 1) 15 ds = runB 6 (b__law_shown (mir n)) ds := rfl
theorem mir__law_joined (n : Nat) (ds : List PyData) : mir (n + 1) 16 ds = runB 3 (b__law_joined (mir n)) ds := rfl
theorem mir__law_kinds (n : Nat) (ds : List PyData) : mir (n + 1) 17 ds = runB 3 (b__law_kinds (mir n)) ds := rfl
theorem mir_law (n : Nat) (ds : List PyData) : mir (n + 1) 18 ds = runB 7 (b_law (mir n)) ds := rfl
theorem run_run_end (m : Nat → List PyData → R Ow) (ds : List PyData) : runB 1 (b_run_end m) ds = finR (((sSeq (sSet 3 (eM (eVar 1) Ow.d))
    (sSeq (whileN (tAndE (eB (eBin gLt (eVar 3) (eM (eCa gLen (aCons (eVar 0) aNil)) viewD)) asB) (eB (eBin gIn (eBin gIx (eVar 0) (eVar 3)) (eVar 2)) asB))
    (sAug gAddA 3 (eC (.int 1))) 1000000)
    (sRet (eM (eVar 3) Ow.d))))) (envOf 1 ds)) := runB_fin _ _ _
theorem run_word_end (m : Nat → List PyData → R Ow) (ds : List PyData) : runB 2 (b_word_end m) ds = finR (((sSeq (sIf (eB (eBin gIn (eBin gIx (eVar 0) (eVar 1)) (eC (.str "();:=|*"))) asB)
    (sRet (eBinO gAdd (eVar 1) (eC (.int 1))))
    sSkip)
    (sSeq (sSet 2 (eM (eM (eB (aCons (eVar 0) (aCons (eVar 1) (aCons (eC (.str "abcdefghijklmnopqrstuvwxyz")) aNil))) (m 0)) viewD) Ow.d))
    (sSeq (sIf (eB (eBin gGt (eVar 2) (eVar 1)) asB)
    (sSeq (sIf (eB (eBin gGt (eBin gSub (eVar 2) (eVar 1)) (eC (.int 8))) asB)
    (sRaise "NoText")
    sSkip)
    (sRet (eM (eVar 2) Ow.d)))
    sSkip)
    (sSeq (sSet 3 (eM (eM (eBinO gAdd (eVar 1) (eB (eCa gInt (aCons (eBin gEq (eBin gIx (eVar 0) (eVar 1)) (eC (.str "-"))) aNil)) shD)) viewD) Ow.d))
    (sSeq (sSet 2 (eM (eM (eB (aCons (eVar 0) (aCons (eVar 3) (aCons (eC (.str "0123456789")) aNil))) (m 0)) viewD) Ow.d))
    (sSeq (sIf (tOrE (eB (eBin gEq (eVar 2) (eVar 3)) asB) (eB (eBin gGt (eBin gSub (eVar 2) (eVar 3)) (eC (.int 60))) asB))
    (sRaise "NoText")
    sSkip)
    (sSeq (sIf (tAndE (eB (eBin gEq (eBin gIx (eVar 0) (eVar 3)) (eC (.str "0"))) asB) (tOrE (eB (eBin gGt (eBin gSub (eVar 2) (eVar 3)) (eC (.int 1))) asB) (eB (eBin gGt (eVar 3) (eVar 1)) asB)))
    (sRaise "NoText")
    sSkip)
    (sRet (eM (eVar 2) Ow.d)))))))))) (envOf 2 ds)) := runB_fin _ _ _
theorem run_words (m : Nat → List PyData → R Ow) (ds : List PyData) : runB 3 (b_words m) ds = finR (((sSeq (sIf (tNotE (eB (eB (eVar 0) (gIsi "str")) asB))
    (sRaise "NoText")
    sSkip)
    (sSeq (sSet 1 (eLst aNil))
    (sSeq (sSet 2 (eM (eC (.int 0)) Ow.d))
    (sSeq (whileN (eB (eBin gLt (eVar 2) (eM (eCa gLen (aCons (eVar 0) aNil)) viewD)) asB)
    (sSeq (sIf (eB (eBin gEq (eBin gIx (eVar 0) (eVar 2)) (eC (.str " "))) asB)
    (sSeq (sAug gAddA 2 (eC (.int 1)))
    sCont)
    sSkip)
    (sSeq (sSet 3 (eM (eM (eB (aCons (eVar 0) (aCons (eVar 2) aNil)) (m 1)) viewD) Ow.d))
    (sSeq (sApp 1 (eSl (eVar 0) (eB (eVar 2) asI) (eB (eVar 3) asI)))
    (sSet 2 (eM (eVar 3) Ow.d))))) 1000000)
    (sRetV 1)))))) (envOf 3 ds)) := runB_fin _ _ _
theorem run_is_name (m : Nat → List PyData → R Ow) (ds : List PyData) : runB 0 (b_is_name m) ds = finR (((sRet (eM (eBin gIn (eBin gIx (eVar 0) (eC (.int 0))) (eC (.str "abcdefghijklmnopqrstuvwxyz"))) Ow.d))) (envOf 0 ds)) := runB_fin _ _ _
theorem run_parted (m : Nat → List PyData → R Ow) (ds : List PyData) : runB 2 (b_parted m) ds = finR (((sSeq (sSet 2 (eLstO (oCons (eLst aNil) oNil)))
    (sSeq (sFor (eB (eVar 0) itD) (gtName 3)
    (sIf (eB (eBin gEq (eVar 3) (eVar 1)) asB)
    (sApp 2 (eLst aNil))
    (sPApp (pIx (pVar 2) (eB (eC (.int 1)) gNeg)) (eM (eVar 3) Ow.d))))
    (sRetV 2)))) (envOf 2 ds)) := runB_fin _ _ _
theorem run_row_by (m : Nat → List PyData → R Ow) (ds : List PyData) : runB 2 (b_row_by m) ds = finR (((sSeq (sIf (tOrE (eB (eBin gEq (eVar 0) (eM (eLst aNil) viewD)) asB) (tNotE (eB (eM (eB (aCons (eBin gIx (eVar 0) (eC (.int 0))) aNil) (m 3)) viewD) asB)))
    (sRaise "NoText")
    sSkip)
    (sSeq (sIf (eB (eBin gEq (eM (eCa gLen (aCons (eVar 0) aNil)) viewD) (eC (.int 1))) asB)
    (sRet (eM (eTup (aCons (eBin gIx (eVar 0) (eC (.int 0))) (aCons (eTup aNil) aNil))) Ow.d))
    sSkip)
    (sSeq (sSet 1 (eM (eM (eSl (eVar 0) (eB (eC (.int 2)) asI) (eB (eB (eC (.int 1)) gNeg) asI)) viewD) Ow.d))
    (sSeq (sIf (tOrE (eB (eBin gNe (eBin gIx (eVar 0) (eC (.int 1))) (eC (.str "("))) asB) (tOrE (eB (eBin gNe (eBin gIx (eVar 0) (eB (eC (.int 1)) gNeg)) (eC (.str ")"))) asB) (tOrE (eB (eBin gEq (eVar 1) (eM (eLst aNil) viewD)) asB) (eB (eBin gGt (eM (eCa gLen (aCons (eVar 1) aNil)) viewD) (eC (.int 4))) asB))))
    (sRaise "NoText")
    sSkip)
    (sSeq (sFor (eB (eVar 1) itD) (gtName 2)
    (sIf (tNotE (eB (eM (eB (aCons (eVar 2) aNil) (m 3)) viewD) asB))
    (sRaise "NoText")
    sSkip))
    (sRet (eM (eTup (aCons (eBin gIx (eVar 0) (eC (.int 0))) (aCons (eM (eCa gTuple (aCons (eVar 1) aNil)) viewD) aNil))) Ow.d)))))))) (envOf 2 ds)) := runB_fin _ _ _
theorem run_kind_by (m : Nat → List PyData → R Ow) (ds : List PyData) : runB 1 (b_kind_by m) ds = finR (((sSeq (sIf (tOrE (eB (eBin gLt (eM (eCa gLen (aCons (eVar 0) aNil)) viewD) (eC (.int 3))) asB) (tOrE (tNotE (eB (eM (eB (aCons (eBin gIx (eVar 0) (eC (.int 0))) aNil) (m 3)) viewD) asB)) (eB (eBin gNe (eBin gIx (eVar 0) (eC (.int 1))) (eC (.str "="))) asB)))
    (sRaise "NoText")
    sSkip)
    (sRet (eM (eTup (aCons (eBin gIx (eVar 0) (eC (.int 0))) (aCons (eM (eLc (eB (eM (eB (aCons (eM (eSl (eVar 0) (eB (eC (.int 2)) asI) oNone) viewD) (aCons (eC (.str "|")) aNil)) (m 4)) viewD) itD) (gtName 1) cYes (eB (aCons (eVar 1) aNil) (m 5)) (List.map (·.2) ([("row", 1)] : List (Str × Nat)))) viewD) aNil))) Ow.d)))) (envOf 1 ds)) := runB_fin _ _ _
theorem run_look_over (m : Nat → List PyData → R Ow) (ds : List PyData) : runB 7 (b_look_over m) ds = finR (((sSeq (sSet 1 (eM (eM (eLc (eB (eVar 0) itD) (gtTup 2 (gtCons (gtName 2) (gtCons (gtName 3) gtNil))) cYes (eM (eVar 2) Ow.d) (List.map (·.2) ([("kind", 2), ("rows", 3)] : List (Str × Nat)))) viewD) Ow.d))
    (sSeq (sIf (eB (eBin gLt (eB (eVar 1) gLenSet) (eM (eCa gLen (aCons (eVar 1) aNil)) viewD)) asB)
    (sRaise "NoWood")
    sSkip)
    (sFor (eB (eVar 0) itD) (gtTup 2 (gtCons (gtName 2) (gtCons (gtName 3) gtNil)))
    (sSeq (sSet 4 (eM (eM (eLc (eB (eVar 3) itD) (gtTup 2 (gtCons (gtName 5) (gtCons (gtName 6) gtNil))) cYes (eM (eVar 5) Ow.d) (List.map (·.2) ([("name", 5), ("branches", 6)] : List (Str × Nat)))) viewD) Ow.d))
    (sSeq (sIf (eB (eBin gLt (eB (eVar 4) gLenSet) (eM (eCa gLen (aCons (eVar 4) aNil)) viewD)) asB)
    (sRaise "NoWood")
    sSkip)
    (sSeq (sIf (eB (eBin gNotIn (eTup aNil) (eM (eLc (eB (eVar 3) itD) (gtTup 2 (gtCons (gtName 5) (gtCons (gtName 6) gtNil))) cYes (eM (eVar 6) Ow.d) (List.map (·.2) ([("name", 5), ("branches", 6)] : List (Str × Nat)))) viewD)) asB)
    (sRaise "NoWood")
    sSkip)
    (sFor (eB (eVar 3) itD) (gtTup 2 (gtCons (gtName 5) (gtCons (gtName 6) gtNil)))
    (sFor (eB (eVar 6) itD) (gtName 7)
    (sIf (eB (eBin gNotIn (eVar 7) (eVar 1)) asB)
    (sRaise "NoWood")
    sSkip)))))))))) (envOf 7 ds)) := runB_fin _ _ _
theorem run_read_wood (m : Nat → List PyData → R Ow) (ds : List PyData) : runB 4 (b_read_wood m) ds = finR (((sSeq (sSet 1 (eM (eM (eLc (eB (eM (eB (aCons (eM (eB (aCons (eVar 0) aNil) (m 2)) viewD) (aCons (eC (.str ";")) aNil)) (m 4)) viewD) itD) (gtName 2) cYes (eB (aCons (eVar 2) aNil) (m 6)) (List.map (·.2) ([("part", 2)] : List (Str × Nat)))) viewD) Ow.d))
    (sSeq (sIf (tOrE (eB (eBin gGt (eM (eCa gLen (aCons (eVar 1) aNil)) viewD) (eC (.int 6))) asB) (eB (eBin gGt (eM (eCa gSum (aCons (eB (eLc (eB (eVar 1) itD) (gtTup 2 (gtCons (gtName 3) (gtCons (gtName 4) gtNil))) cYes (eCa gLen (aCons (eVar 4) aNil)) (List.map (·.2) ([("kind", 3), ("rows", 4)] : List (Str × Nat)))) shD) aNil)) viewD) (eC (.int 16))) asB))
    (sRaise "NoText")
    sSkip)
    (sSeq (sDrop (eM (eB (aCons (eVar 1) aNil) (m 7)) viewD))
    (sRet (eLc (eB (eVar 1) itD) (gtTup 2 (gtCons (gtName 3) (gtCons (gtName 4) gtNil))) cYes (eTupO (oCons (eM (eVar 3) Ow.d) (oCons (eCa gSorted (aCons (eVar 4) aNil)) oNil))) (List.map (·.2) ([("kind", 3), ("rows", 4)] : List (Str × Nat))))))))) (envOf 4 ds)) := runB_fin _ _ _
theorem run_show_row (m : Nat → List PyData → R Ow) (ds : List PyData) : runB 0 (b_show_row m) ds = finR (((sSeq (sIf (eB (eBin gEq (eBin gIx (eVar 0) (eC (.int 1))) (eTup aNil)) asB)
    (sRet (eM (eBin gIx (eVar 0) (eC (.int 0))) Ow.d))
    sSkip)
    (sRet (eBinO gAdd (eB (eBinO gAdd (eB (eBinO gAdd (eBin gIx (eVar 0) (eC (.int 0))) (eC (.str "("))) shD) (eJoin (eC (.str " ")) (eBin gIx (eVar 0) (eC (.int 1))))) shD) (eC (.str ")")))))) (envOf 0 ds)) := runB_fin _ _ _
theorem run_show_wood (m : Nat → List PyData → R Ow) (ds : List PyData) : runB 4 (b_show_wood m) ds = finR (((sSeq (sSet 1 (eLst aNil))
    (sSeq (sFor (eB (eVar 0) itD) (gtTup 2 (gtCons (gtName 2) (gtCons (gtName 3) gtNil)))
    (sApp 1 (eBinO gAdd (eB (eBinO gAdd (eVar 2) (eC (.str " = "))) shD) (eJoin (eC (.str " | ")) (eB (eLc (eB (eVar 3) itD) (gtName 4) cYes (eB (aCons (eVar 4) aNil) (m 9)) (List.map (·.2) ([("row", 4)] : List (Str × Nat)))) shD)))))
    (sRet (eM (eJoin (eC (.str "; ")) (eB (eVarO 1) shD)) Ow.d))))) (envOf 4 ds)) := runB_fin _ _ _
theorem run__law_cell_at (m : Nat → List PyData → R Ow) (ds : List PyData) : runB 0 (b__law_cell_at m) ds = finR (((sSeq (sIf (eB (eBin gLt (eVar 1) (eM (eCa gLen (aCons (eVar 0) aNil)) viewD)) asB)
    (sRet (eM (eBin gIx (eVar 0) (eVar 1)) Ow.d))
    sSkip)
    (sRet (eM (eC (.int 0)) Ow.d)))) (envOf 0 ds)) := runB_fin _ _ _
theorem run__law_names (m : Nat → List PyData → R Ow) (ds : List PyData) : runB 8 (b__law_names m) ds = finR (((sSeq (sSet 3 (eM (eC (.str "abcdefghijklmnopqrstuvwxyz")) Ow.d))
    (sSeq (sSet 4 (eM (eBin gMod (eVar 0) (eBin gPow (eC (.int 10)) (eC (.int 20)))) Ow.d))
    (sSeq (sSet 5 (eM (eC (.str "")) Ow.d))
    (sSeq (sFor (eB (aCons (eM (eBinO gAdd (eC (.int 1)) (eBin gMod (eVar 4) (eC (.int 8)))) viewD) aNil) rg1) (gtName 6)
    (sSet 5 (eM (eM (eBinO gAdd (eVar 5) (eBin gIx (eVar 3) (eBin gMod (eM (eBinO gAdd (eBin gDiv (eVar 4) (eM (eBinO gAdd (eVar 6) (eC (.int 1))) viewD)) (eBin gMul (eBin gMul (eC (.int 3)) (eVar 6)) (eVar 6))) viewD) (eC (.int 26))))) viewD) Ow.d)))
    (sSeq (sSet 7 (eM (eBin gMod (eVar 1) (eM (eCa gLen (aCons (eVar 5) aNil)) viewD)) Ow.d))
    (sSeq (sSet 8 (eM (eTxIndex (eVar 3) (eBin gIx (eVar 5) (eVar 7))) Ow.d))
    (sSeq (sSet 9 (eLst aNil))
    (sSeq (sFor (eB (aCons (eVar 2) aNil) rg1) (gtName 6)
    (sSeq (sSet 10 (eM (eM (eBinO gAdd (eB (eBinO gAdd (eB (eSl (eVar 5) oNone (eB (eVar 7) asI)) shD) (eBin gIx (eVar 3) (eBin gMod (eM (eBinO gAdd (eVar 8) (eVar 6)) viewD) (eC (.int 26))))) shD) (eB (eSl (eVar 5) (eB (eM (eBinO gAdd (eVar 7) (eC (.int 1))) viewD) asI) oNone) shD)) viewD) Ow.d))
    (sSeq (sIf (tAndE (eB (eBin gEq (eBin gMod (eVar 4) (eC (.int 3))) (eC (.int 1))) asB) (tAndE (eB (eBin gLt (eVar 6) (eC (.int 8))) asB) (eB (eBin gEq (eM (eCa gLen (aCons (eVar 5) aNil)) viewD) (eC (.int 8))) asB)))
    (sSet 10 (eM (eM (eSl (eVar 5) oNone (eB (eBin gSub (eC (.int 8)) (eVar 6)) asI)) viewD) Ow.d))
    sSkip)
    (sApp 9 (eM (eVar 10) Ow.d)))))
    (sRetV 9)))))))))) (envOf 8 ds)) := runB_fin _ _ _
theorem run__law_wood (m : Nat → List PyData → R Ow) (ds : List PyData) : runB 13 (b__law_wood m) ds = finR (((sSeq (sSet 1 (eM (eM (eBinO gAdd (eC (.int 1)) (eBin gMod (eM (eB (aCons (eVar 0) (aCons (eC (.int 0)) aNil)) (m 11)) viewD) (eC (.int 6)))) viewD) Ow.d))
    (sSeq (sSet 2 (eM (eM (eSl (eB (eB (aCons (eM (eB (aCons (eVar 0) (aCons (eC (.int 1)) aNil)) (m 11)) viewD) (aCons (eM (eB (aCons (eVar 0) (aCons (eC (.int 2)) aNil)) (m 11)) viewD) (aCons (eC (.int 6)) aNil))) (m 12)) shD) oNone (eB (eVar 1) asI)) viewD) Ow.d))
    (sSeq (sSet 3 (eM (eM (eB (aCons (eM (eB (aCons (eVar 0) (aCons (eC (.int 3)) aNil)) (m 11)) viewD) (aCons (eM (eB (aCons (eVar 0) (aCons (eC (.int 4)) aNil)) (m 11)) viewD) (aCons (eC (.int 16)) aNil))) (m 12)) viewD) Ow.d))
    (sSeq (sSet 4 (eM (eBin gMod (eM (eB (aCons (eVar 0) (aCons (eC (.int 5)) aNil)) (m 11)) viewD) (eBin gPow (eC (.int 10)) (eC (.int 9)))) Ow.d))
    (sSeq (sSet 5 (eLc (eB (aCons (eVar 1) aNil) rg1) (gtName 6) cYes (eTupO (oCons (eM (eBin gIx (eVar 2) (eVar 6)) Ow.d) (oCons (eLst (aCons (eTup (aCons (eBin gIx (eVar 3) (eBin gMod (eBin gDiv (eVar 4) (eM (eBinO gAdd (eVar 6) (eC (.int 1))) viewD)) (eC (.int 16)))) (aCons (eTup aNil) aNil))) aNil)) oNil))) (List.map (·.2) ([("_law_k", 6)] : List (Str × Nat)))))
    (sSeq (sFor (eB (aCons (eC (.int 6)) (aCons (eM (eCa gMin2 (aCons (eB (eCa gLen (aCons (eVar 0) aNil)) shD) (aCons (eBin gSub (eC (.int 22)) (eVar 1)) aNil))) viewD) aNil)) rg2) (gtName 6)
    (sSeq (sSet 7 (eM (eBin gMod (eBin gIx (eVar 0) (eVar 6)) (eBin gPow (eC (.int 10)) (eC (.int 20)))) Ow.d))
    (sBor 5 8 (hIx (hIx (hVar 5) (eBin gMod (eVar 7) (eVar 1))) (eC (.int 1)))
    (sSeq (sThaw 8 [] [0, 1, 2, 3, 4, 5, 6, 7, 12, 13] (sSet 9 (eLc (eB (eVar 3) itD) (gtName 10) (eB (eBin gNotIn (eVar 10) (eM (eLc (eB (eVar 8) itD) (gtName 11) cYes (eM (eBin gIx (eVar 11) (eC (.int 0))) Ow.d) (List.map (·.2) ([("_law_row", 11)] : List (Str × Nat)))) viewD)) asB) (eM (eVar 10) Ow.d) (List.map (·.2) ([("_law_name", 10)] : List (Str × Nat))))))
    (sSeq (sSet 12 (eM (eM (eCa gTuple (aCons (eB (eLc (eB (aCons (eBin gMod (eBin gDiv (eVar 7) (eC (.int 6))) (eC (.int 5))) aNil) rg1) (gtName 13) cYes (eM (eBin gIx (eVar 2) (eBin gMod (eBin gDiv (eVar 7) (eM (eBinO gAdd (eC (.int 7)) (eBin gMul (eC (.int 3)) (eVar 13))) viewD)) (eVar 1))) Ow.d) (List.map (·.2) ([("_law_j", 13)] : List (Str × Nat)))) shD) aNil)) viewD) Ow.d))
    (sInsS 8 (eBin gMod (eBin gDiv (eVar 7) (eC (.int 30))) (eM (eBinO gAdd (eB (eCa gLen (aCons (eB (eVarO 8) shD) aNil)) shD) (eC (.int 1))) viewD)) (eM (eTup (aCons (eBin gIx (eB (eVarO 9) shD) (eBin gMod (eBin gDiv (eVar 7) (eC (.int 90))) (eM (eCa gLen (aCons (eB (eVarO 9) shD) aNil)) viewD))) (aCons (eVar 12) aNil))) Ow.d)))))))
    (sRetV 5)))))))) (envOf 13 ds)) := runB_fin _ _ _
theorem run__law_parts (m : Nat → List PyData → R Ow) (ds : List PyData) : runB 4 (b__law_parts m) ds = finR (((sSeq (sSet 1 (eM (eM (eLst aNil) viewD) Ow.d))
    (sSeq (sFor (eB (eVar 0) itD) (gtTup 2 (gtCons (gtName 2) (gtCons (gtName 3) gtNil)))
    (sSeq (sSet 1 (eM (eM (eBinO gAdd (eVar 1) (eB (eLst (aCons (eC (.str ";")) (aCons (eVar 2) (aCons (eC (.str "=")) aNil)))) shD)) viewD) Ow.d))
    (sFor (eB (aCons (eM (eCa gLen (aCons (eVar 3) aNil)) viewD) aNil) rg1) (gtName 4)
    (sSeq (sSet 1 (eM (eM (eBinO gAdd (eB (eBinO gAdd (eVar 1) (eB (eRep (eLst (aCons (eC (.str "|")) aNil)) (eM (eCa gInt (aCons (eBin gGt (eVar 4) (eC (.int 0))) aNil)) viewD)) shD)) shD) (eB (eLst (aCons (eBin gIx (eBin gIx (eVar 3) (eVar 4)) (eC (.int 0))) aNil)) shD)) viewD) Ow.d))
    (sIf (eB (eBin gNe (eBin gIx (eBin gIx (eVar 3) (eVar 4)) (eC (.int 1))) (eTup aNil)) asB)
    (sSet 1 (eM (eM (eBinO gAdd (eB (eBinO gAdd (eB (eBinO gAdd (eVar 1) (eB (eLst (aCons (eC (.str "(")) aNil)) shD)) shD) (eB (eCa gList (aCons (eBin gIx (eBin gIx (eVar 3) (eVar 4)) (eC (.int 1))) aNil)) shD)) shD) (eB (eLst (aCons (eC (.str ")")) aNil)) shD)) viewD) Ow.d))
    sSkip)))))
    (sRet (eSl (eVar 1) (eB (eC (.int 1)) asI) oNone))))) (envOf 4 ds)) := runB_fin _ _ _
theorem run__law_shown (m : Nat → List PyData → R Ow) (ds : List PyData) : runB 6 (b__law_shown m) ds = finR (((sSeq (sSet 1 (eLst aNil))
    (sSeq (sFor (eB (eVar 0) itD) (gtTup 2 (gtCons (gtName 2) (gtCons (gtName 3) gtNil)))
    (sSeq (sSet 4 (eLst aNil))
    (sSeq (sFor (eB (eVar 3) itD) (gtTup 2 (gtCons (gtName 5) (gtCons (gtName 6) gtNil)))
    (sIf (eB (eBin gEq (eVar 6) (eTup aNil)) asB)
    (sApp 4 (eM (eVar 5) Ow.d))
    (sApp 4 (eBinO gAdd (eB (eBinO gAdd (eB (eBinO gAdd (eVar 5) (eC (.str "("))) shD) (eJoin (eC (.str " ")) (eVar 6))) shD) (eC (.str ")"))))))
    (sApp 1 (eBinO gAdd (eB (eBinO gAdd (eVar 2) (eC (.str " = "))) shD) (eJoin (eC (.str " | ")) (eB (eVarO 4) shD)))))))
    (sRet (eM (eJoin (eC (.str "; ")) (eB (eVarO 1) shD)) Ow.d))))) (envOf 6 ds)) := runB_fin _ _ _
theorem run__law_joined (m : Nat → List PyData → R Ow) (ds : List PyData) : runB 3 (b__law_joined m) ds = finR (((sSeq (sSet 2 (eM (eC (.str "")) Ow.d))
    (sSeq (sFor (eB (aCons (eM (eCa gLen (aCons (eVar 0) aNil)) viewD) aNil) rg1) (gtName 3)
    (sSeq (sSet 4 (eM (eM (eSl (eC (.str "   ")) oNone (eB (eVar 1) asI)) viewD) Ow.d))
    (sSeq (sIf (tAndE (eB (eBin gGt (eVar 3) (eC (.int 0))) asB) (tAndE (eB (eBin gEq (eVar 1) (eC (.int 0))) asB) (eB (eBin gGt (eM (eCa gLen (aCons (eB (eBinO gAdd (eBin gIx (eVar 0) (eVar 3)) (eBin gIx (eVar 0) (eBin gSub (eVar 3) (eC (.int 1))))) shD) aNil)) viewD) (eC (.int 1))) asB)))
    (sIf (tAndE (eB (eBin gSubNotIn (eBin gIx (eVar 0) (eVar 3)) (eC (.str "();=|"))) asB) (eB (eBin gSubNotIn (eBin gIx (eVar 0) (eBin gSub (eVar 3) (eC (.int 1)))) (eC (.str "();=|"))) asB))
    (sSet 4 (eM (eC (.str " ")) Ow.d))
    sSkip)
    sSkip)
    (sSet 2 (eM (eM (eBinO gAdd (eB (eBinO gAdd (eVar 2) (eVar 4)) shD) (eBin gIx (eVar 0) (eVar 3))) viewD) Ow.d)))))
    (sRet (eM (eVar 2) Ow.d))))) (envOf 3 ds)) := runB_fin _ _ _
theorem run__law_kinds (m : Nat → List PyData → R Ow) (ds : List PyData) : runB 3 (b__law_kinds m) ds = finR (((sSeq (sIf (tOrE (tNotE (eB (eB (eVar 0) (gIsi "list")) asB)) (eB (eBin gNe (eVar 0) (eVar 1)) asB))
    (sRet (eM (eC (.bool false)) Ow.d))
    sSkip)
    (sSeq (sFor (eB (eVar 0) itD) (gtTup 2 (gtCons (gtName 2) (gtCons (gtName 3) gtNil)))
    (sSeq (sIf (tNotE (eB (eB (eVar 3) (gIsi "list")) asB))
    (sRet (eM (eC (.bool false)) Ow.d))
    sSkip)
    (sFor (eB (eVar 3) itD) (gtName 4)
    (sIf (tOrE (tNotE (eB (eB (eVar 4) (gIsi "tuple")) asB)) (tNotE (eB (eB (eBin gIx (eVar 4) (eC (.int 1))) (gIsi "tuple")) asB)))
    (sRet (eM (eC (.bool false)) Ow.d))
    sSkip))))
    (sRet (eM (eC (.bool true)) Ow.d))))) (envOf 3 ds)) := runB_fin _ _ _
theorem run_law (m : Nat → List PyData → R Ow) (ds : List PyData) : runB 7 (b_law m) ds = finR (((sSeq (sSet 1 (eM (eM (eB (aCons (eVar 0) aNil) (m 13)) viewD) Ow.d))
    (sSeq (sSet 2 (eM (eM (eLc (eB (eVar 1) itD) (gtTup 2 (gtCons (gtName 3) (gtCons (gtName 4) gtNil))) cYes (eM (eTup (aCons (eVar 3) (aCons (eM (eCa gSorted (aCons (eVar 4) aNil)) viewD) aNil))) Ow.d) (List.map (·.2) ([("_law_kind", 3), ("_law_rows", 4)] : List (Str × Nat)))) viewD) Ow.d))
    (sSeq (sSet 5 (eM (eM (eB (aCons (eVar 1) aNil) (m 14)) viewD) Ow.d))
    (sSeq (sSet 6 (eB (aCons (eM (eB (aCons (eVar 5) (aCons (eM (eBinO gAdd (eC (.int 1)) (eBin gMod (eBin gDiv (eM (eB (aCons (eVar 0) (aCons (eC (.int 0)) aNil)) (m 11)) viewD) (eC (.int 6))) (eC (.int 3)))) viewD) aNil)) (m 16)) viewD) aNil) (m 8)))
    (sSeq (sThaw 6 [] [0, 1, 2, 3, 4, 5, 7] (sIf (tOrE (tNotE (eB (eM (eB (aCons (eVar 6) (aCons (eVar 2) aNil)) (m 17)) viewD) asB)) (eB (eBin gNe (eM (eB (aCons (eVar 6) aNil) (m 10)) viewD) (eM (eB (aCons (eVar 2) aNil) (m 15)) viewD)) asB))
    (sRet (eM (eC (.bool false)) Ow.d))
    sSkip))
    (sSeq (sPApp (pIx (pIx (pVar 6) (eC (.int 0))) (eC (.int 1))) (eM (eTup (aCons (eC (.str "z")) (aCons (eTup aNil) aNil))) Ow.d))
    (sSeq (sApp 6 (eM (eTup (aCons (eC (.str "z")) (aCons (eM (eLst aNil) viewD) aNil))) Ow.d))
    (sSeq (sIf (tNotE (eB (eM (eB (aCons (eM (eB (aCons (eM (eB (aCons (eVar 5) (aCons (eC (.int 0)) aNil)) (m 16)) viewD) aNil) (m 8)) viewD) (aCons (eVar 2) aNil)) (m 17)) viewD) asB))
    (sRet (eM (eC (.bool false)) Ow.d))
    sSkip)
    (sSeq (sSet 7 (eM (eM (eB (aCons (eM (eB (aCons (eVar 2) aNil) (m 15)) viewD) aNil) (m 8)) viewD) Ow.d))
    (sRet (eM (eAnd (eM (eB (aCons (eVar 7) (aCons (eVar 2) aNil)) (m 17)) viewD) (eB (eM (eB (aCons (eVar 7) aNil) (m 10)) viewD) (gIsi "str"))) Ow.d)))))))))))) (envOf 7 ds)) := runB_fin _ _ _
abbrev N_run_end : List Str := ["text", "start", "signs", "end"]
theorem sc_run_end : FnScope N_run_end ["text", "start", "signs"] (defScope s_run_end) := ⟨rfl, rfl, rfl, by decide +kernel, rfl, by decide +kernel, by decide +kernel⟩
abbrev N_word_end : List Str := ["text", "start", "end", "first"]
theorem sc_word_end : FnScope N_word_end ["text", "start"] (defScope s_word_end) := ⟨rfl, rfl, rfl, by decide +kernel, rfl, by decide +kernel, by decide +kernel⟩
abbrev N_words : List Str := ["text", "found", "here", "end"]
theorem sc_words : FnScope N_words ["text"] (defScope s_words) := ⟨rfl, rfl, rfl, by decide +kernel, rfl, by decide +kernel, by decide +kernel⟩
abbrev N_is_name : List Str := ["word"]
theorem sc_is_name : FnScope N_is_name ["word"] (defScope s_is_name) := ⟨rfl, rfl, rfl, by decide +kernel, rfl, by decide +kernel, by decide +kernel⟩
abbrev N_parted : List Str := ["row", "sign", "parts", "word"]
theorem sc_parted : FnScope N_parted ["row", "sign"] (defScope s_parted) := ⟨rfl, rfl, rfl, by decide +kernel, rfl, by decide +kernel, by decide +kernel⟩
abbrev N_row_by : List Str := ["part", "kinds", "kind"]
theorem sc_row_by : FnScope N_row_by ["part"] (defScope s_row_by) := ⟨rfl, rfl, rfl, by decide +kernel, rfl, by decide +kernel, by decide +kernel⟩
abbrev N_kind_by : List Str := ["part", "row"]
theorem sc_kind_by : FnScope N_kind_by ["part"] (defScope s_kind_by) := ⟨rfl, rfl, rfl, by decide +kernel, rfl, by decide +kernel, by decide +kernel⟩
abbrev N_look_over : List Str := ["wood", "kinds", "kind", "rows", "names", "name", "branches", "wanted"]
theorem sc_look_over : FnScope N_look_over ["wood"] (defScope s_look_over) := ⟨rfl, rfl, rfl, by decide +kernel, rfl, by decide +kernel, by decide +kernel⟩
abbrev N_read_wood : List Str := ["text", "wood", "part", "kind", "rows"]
theorem sc_read_wood : FnScope N_read_wood ["text"] (defScope s_read_wood) := ⟨rfl, rfl, rfl, by decide +kernel, rfl, by decide +kernel, by decide +kernel⟩
abbrev N_show_row : List Str := ["row"]
theorem sc_show_row : FnScope N_show_row ["row"] (defScope s_show_row) := ⟨rfl, rfl, rfl, by decide +kernel, rfl, by decide +kernel, by decide +kernel⟩
abbrev N_show_wood : List Str := ["wood", "parts", "kind", "rows", "row"]
theorem sc_show_wood : FnScope N_show_wood ["wood"] (defScope s_show_wood) := ⟨rfl, rfl, rfl, by decide +kernel, rfl, by decide +kernel, by decide +kernel⟩
abbrev N__law_cell_at : List Str := ["_law_script", "_law_k"]
theorem sc__law_cell_at : FnScope N__law_cell_at ["_law_script", "_law_k"] (defScope s__law_cell_at) := ⟨rfl, rfl, rfl, by decide +kernel, rfl, by decide +kernel, by decide +kernel⟩
abbrev N__law_names : List Str := ["_law_cell", "_law_where", "_law_lots", "_law_letters", "_law_number", "_law_base", "_law_k", "_law_there", "_law_first", "_law_names_here", "_law_name"]
theorem sc__law_names : FnScope N__law_names ["_law_cell", "_law_where", "_law_lots"] (defScope s__law_names) := ⟨rfl, rfl, rfl, by decide +kernel, rfl, by decide +kernel, by decide +kernel⟩
abbrev N__law_wood : List Str := ["_law_script", "_law_lots", "_law_kinds_here", "_law_names_here", "_law_start", "_law_wood_here", "_law_k", "_law_number", "_law_own", "_law_free", "_law_name", "_law_row", "_law_branches", "_law_j"]
theorem sc__law_wood : FnScope N__law_wood ["_law_script"] (defScope s__law_wood) := ⟨rfl, rfl, rfl, by decide +kernel, rfl, by decide +kernel, by decide +kernel⟩
abbrev N__law_parts : List Str := ["_law_wood_here", "_law_row", "_law_kind", "_law_rows", "_law_k"]
theorem sc__law_parts : FnScope N__law_parts ["_law_wood_here"] (defScope s__law_parts) := ⟨rfl, rfl, rfl, by decide +kernel, rfl, by decide +kernel, by decide +kernel⟩
abbrev N__law_shown : List Str := ["_law_wood_here", "_law_parts_here", "_law_kind", "_law_rows", "_law_texts", "_law_name", "_law_branches"]
theorem sc__law_shown : FnScope N__law_shown ["_law_wood_here"] (defScope s__law_shown) := ⟨rfl, rfl, rfl, by decide +kernel, rfl, by decide +kernel, by decide +kernel⟩
abbrev N__law_joined : List Str := ["_law_row", "_law_blanks", "_law_text", "_law_k", "_law_gap"]
theorem sc__law_joined : FnScope N__law_joined ["_law_row", "_law_blanks"] (defScope s__law_joined) := ⟨rfl, rfl, rfl, by decide +kernel, rfl, by decide +kernel, by decide +kernel⟩
abbrev N__law_kinds : List Str := ["_law_found", "_law_due", "_law_kind", "_law_rows", "_law_row"]
theorem sc__law_kinds : FnScope N__law_kinds ["_law_found", "_law_due"] (defScope s__law_kinds) := ⟨rfl, rfl, rfl, by decide +kernel, rfl, by decide +kernel, by decide +kernel⟩
abbrev N_law : List Str := ["_law_script", "_law_wood_here", "_law_due", "_law_kind", "_law_rows", "_law_row", "_law_found", "_law_again"]
theorem sc_law : FnScope N_law ["_law_script"] (defScope s_law) := ⟨rfl, rfl, rfl, by decide +kernel, rfl, by decide +kernel, by decide +kernel⟩
structure Txt (K : PySem.W.Frag) (mg : Str → Option Value) (f : Nat → Addr) (fd : Nat → FuncData) (cl : Nat → Addr) : Prop where
  F_run_end : Fun K "run_end" "run_end" s_run_end (f 0) (fd 0)
  B_run_end : Binds K (fd 0) ["text", "start", "signs"] []
  M_run_end : mg "run_end" = some (.ref (f 0))
  F_word_end : Fun K "word_end" "word_end" s_word_end (f 1) (fd 1)
  B_word_end : Binds K (fd 1) ["text", "start"] []
  M_word_end : mg "word_end" = some (.ref (f 1))
  F_words : Fun K "words" "words" s_words (f 2) (fd 2)
  B_words : Binds K (fd 2) ["text"] []
  M_words : mg "words" = some (.ref (f 2))
  F_is_name : Fun K "is_name" "is_name" s_is_name (f 3) (fd 3)
  B_is_name : Binds K (fd 3) ["word"] []
  M_is_name : mg "is_name" = some (.ref (f 3))
  F_parted : Fun K "parted" "parted" s_parted (f 4) (fd 4)
  B_parted : Binds K (fd 4) ["row", "sign"] []
  M_parted : mg "parted" = some (.ref (f 4))
  F_row_by : Fun K "row_by" "row_by" s_row_by (f 5) (fd 5)
  B_row_by : Binds K (fd 5) ["part"] []
  M_row_by : mg "row_by" = some (.ref (f 5))
  F_kind_by : Fun K "kind_by" "kind_by" s_kind_by (f 6) (fd 6)
  B_kind_by : Binds K (fd 6) ["part"] []
  M_kind_by : mg "kind_by" = some (.ref (f 6))
  F_look_over : Fun K "look_over" "look_over" s_look_over (f 7) (fd 7)
  B_look_over : Binds K (fd 7) ["wood"] []
  M_look_over : mg "look_over" = some (.ref (f 7))
  F_read_wood : Fun K "read_wood" "read_wood" s_read_wood (f 8) (fd 8)
  B_read_wood : Binds K (fd 8) ["text"] []
  M_read_wood : mg "read_wood" = some (.ref (f 8))
  F_show_row : Fun K "show_row" "show_row" s_show_row (f 9) (fd 9)
  B_show_row : Binds K (fd 9) ["row"] []
  M_show_row : mg "show_row" = some (.ref (f 9))
  F_show_wood : Fun K "show_wood" "show_wood" s_show_wood (f 10) (fd 10)
  B_show_wood : Binds K (fd 10) ["wood"] []
  M_show_wood : mg "show_wood" = some (.ref (f 10))
  F__law_cell_at : Fun K "_law_cell_at" "_law_cell_at" s__law_cell_at (f 11) (fd 11)
  B__law_cell_at : Binds K (fd 11) ["_law_script", "_law_k"] []
  M__law_cell_at : mg "_law_cell_at" = some (.ref (f 11))
  F__law_names : Fun K "_law_names" "_law_names" s__law_names (f 12) (fd 12)
  B__law_names : Binds K (fd 12) ["_law_cell", "_law_where", "_law_lots"] []
  M__law_names : mg "_law_names" = some (.ref (f 12))
  F__law_wood : Fun K "_law_wood" "_law_wood" s__law_wood (f 13) (fd 13)
  B__law_wood : Binds K (fd 13) ["_law_script"] []
  M__law_wood : mg "_law_wood" = some (.ref (f 13))
  F__law_parts : Fun K "_law_parts" "_law_parts" s__law_parts (f 14) (fd 14)
  B__law_parts : Binds K (fd 14) ["_law_wood_here"] []
  M__law_parts : mg "_law_parts" = some (.ref (f 14))
  F__law_shown : Fun K "_law_shown" "_law_shown" s__law_shown (f 15) (fd 15)
  B__law_shown : Binds K (fd 15) ["_law_wood_here"] []
  M__law_shown : mg "_law_shown" = some (.ref (f 15))
  F__law_joined : Fun K "_law_joined" "_law_joined" s__law_joined (f 16) (fd 16)
  B__law_joined : Binds K (fd 16) ["_law_row", "_law_blanks"] []
  M__law_joined : mg "_law_joined" = some (.ref (f 16))
  F__law_kinds : Fun K "_law_kinds" "_law_kinds" s__law_kinds (f 17) (fd 17)
  B__law_kinds : Binds K (fd 17) ["_law_found", "_law_due"] []
  M__law_kinds : mg "_law_kinds" = some (.ref (f 17))
  F_law : Fun K "law" "law" s_law (f 18) (fd 18)
  B_law : Binds K (fd 18) ["_law_script"] []
  M_law : mg "law" = some (.ref (f 18))
  z_int : mg "int" = none
  z_isinstance : mg "isinstance" = none
  z_len : mg "len" = none
  z_list : mg "list" = none
  z_min : mg "min" = none
  z_range : mg "range" = none
  z_set : mg "set" = none
  z_sorted : mg "sorted" = none
  z_str : mg "str" = none
  z_sum : mg "sum" = none
  z_tuple : mg "tuple" = none
  k_FIGURES : ∃ u, mg "FIGURES" = some u ∧ RelV (.str "0123456789") u
  k_LETTERS : ∃ u, mg "LETTERS" = some u ∧ RelV (.str "abcdefghijklmnopqrstuvwxyz") u
  k_SIGNS : ∃ u, mg "SIGNS" = some u ∧ RelV (.str "();:=|*") u
  cx_NoText : ExcT K mg "NoText" (cl 0)
  cx_NoWood : ExcT K mg "NoWood" (cl 1)
structure Fns (P : Program) (w : World) (K : PySem.W.Frag) (mg : Str → Option Value) (base : Heap) (f : Nat → Addr) (fd : Nat → FuncData) (n : Nat) : Prop where
  g_run_end : FnOk P w K mg base (L2.CX P w) n (f 0) (fd 0) ["text", "start", "signs"] (spM ⟨K, w⟩ mg 3 (mir n 0))
  g_word_end : FnOk P w K mg base (L2.CX P w) n (f 1) (fd 1) ["text", "start"] (spM ⟨K, w⟩ mg 2 (mir n 1))
  g_words : FnOk P w K mg base (L2.CX P w) n (f 2) (fd 2) ["text"] (spM ⟨K, w⟩ mg 1 (mir n 2))
  g_is_name : FnOk P w K mg base (L2.CX P w) n (f 3) (fd 3) ["word"] (spM ⟨K, w⟩ mg 1 (mir n 3))
  g_parted : FnOk P w K mg base (L2.CX P w) n (f 4) (fd 4) ["row", "sign"] (spM ⟨K, w⟩ mg 2 (mir n 4))
  g_row_by : FnOk P w K mg base (L2.CX P w) n (f 5) (fd 5) ["part"] (spM ⟨K, w⟩ mg 1 (mir n 5))
  g_kind_by : FnOk P w K mg base (L2.CX P w) n (f 6) (fd 6) ["part"] (spM ⟨K, w⟩ mg 1 (mir n 6))
  g_look_over : FnOk P w K mg base (L2.CX P w) n (f 7) (fd 7) ["wood"] (spM ⟨K, w⟩ mg 1 (mir n 7))
  g_read_wood : FnOk P w K mg base (L2.CX P w) n (f 8) (fd 8) ["text"] (spM ⟨K, w⟩ mg 1 (mir n 8))
  g_show_row : FnOk P w K mg base (L2.CX P w) n (f 9) (fd 9) ["row"] (spM ⟨K, w⟩ mg 1 (mir n 9))
  g_show_wood : FnOk P w K mg base (L2.CX P w) n (f 10) (fd 10) ["wood"] (spM ⟨K, w⟩ mg 1 (mir n 10))
  g__law_cell_at : FnOk P w K mg base (L2.CX P w) n (f 11) (fd 11) ["_law_script", "_law_k"] (spM ⟨K, w⟩ mg 2 (mir n 11))
  g__law_names : FnOk P w K mg base (L2.CX P w) n (f 12) (fd 12) ["_law_cell", "_law_where", "_law_lots"] (spM ⟨K, w⟩ mg 3 (mir n 12))
  g__law_wood : FnOk P w K mg base (L2.CX P w) n (f 13) (fd 13) ["_law_script"] (spM ⟨K, w⟩ mg 1 (mir n 13))
  g__law_parts : FnOk P w K mg base (L2.CX P w) n (f 14) (fd 14) ["_law_wood_here"] (spM ⟨K, w⟩ mg 1 (mir n 14))
  g__law_shown : FnOk P w K mg base (L2.CX P w) n (f 15) (fd 15) ["_law_wood_here"] (spM ⟨K, w⟩ mg 1 (mir n 15))
  g__law_joined : FnOk P w K mg base (L2.CX P w) n (f 16) (fd 16) ["_law_row", "_law_blanks"] (spM ⟨K, w⟩ mg 2 (mir n 16))
  g__law_kinds : FnOk P w K mg base (L2.CX P w) n (f 17) (fd 17) ["_law_found", "_law_due"] (spM ⟨K, w⟩ mg 2 (mir n 17))
  g_law : FnOk P w K mg base (L2.CX P w) n (f 18) (fd 18) ["_law_script"] (spM ⟨K, w⟩ mg 1 (mir n 18))
section
variable {P : Program} {w : World} {K : PySem.W.Frag} {mg : Str → Option Value} {base : Heap} {f : Nat → Addr} {fd : Nat → FuncData} {cl : Nat → Addr} {n : Nat}
theorem ok_run_end (T : Txt K mg f fd cl) (G : Fns P w K mg base f fd n) : FnOk P w K mg base (L2.CX P w) (n + 1) (f 0) (fd 0) ["text", "start", "signs"] (spM ⟨K, w⟩ mg 3 (mir (n + 1) 0)) :=
  mk_fn (l := 1) (fb := b_run_end (mir n)) T.F_run_end sc_run_end rfl (fun _ => rfl) fun cdv A outer s H E hr =>
    (dss_cons (ds_set 3 sc_run_end.nd (de_df (df_var 1)))
    (dss_cons (ds_while 1000000 (passes_of rfl) (dt_dw (dw_and (dt_lt (dv_df (df_var 3)) (dv_de (de_len rfl T.z_len (dal_cons (dl_df (df_var 0)) dal_nil)))) (dw_and1 (dt_in (room_eq hr) (dv_df (df_ix (dl_df (df_var 0)) (dv_df (df_var 3)))) (dv_df (df_var 2))))))
    (dss_one (ds_aug 3 iop_addA opS_addA sc_run_end.nd (dv_df df_int))))
    (dss_one (ds_ret (de_df (df_var 3))))))
theorem ok_word_end (T : Txt K mg f fd cl) (G : Fns P w K mg base f fd n) : FnOk P w K mg base (L2.CX P w) (n + 1) (f 1) (fd 1) ["text", "start"] (spM ⟨K, w⟩ mg 2 (mir (n + 1) 1)) :=
  mk_fn (l := 2) (fb := b_word_end (mir n)) T.F_word_end sc_word_end rfl (fun _ => rfl) fun cdv A outer s H E hr =>
    (dss_cons (ds_if (dt_in (room_eq hr) (dv_df (df_ix (dl_df (df_var 0)) (dv_df (df_var 1)))) (dv_df (df_gstr rfl T.k_SIGNS.choose_spec.1 T.k_SIGNS.choose_spec.2)))
    (dss_one (ds_ret (de_add (dl_df (df_var 1)) (dl_df df_int))))
    dss_nil)
    (dss_cons (ds_set 2 sc_word_end.nd (de_df (df_de (de_call G.g_run_end (takes_of rfl rfl rfl rfl) hr rfl T.M_run_end T.F_run_end.kp T.B_run_end (da_cons (df_var 0) (da_cons (df_var 1) (da_cons (df_gstr rfl T.k_LETTERS.choose_spec.1 T.k_LETTERS.choose_spec.2) da_nil))) (aCons_len (aCons_len (aCons_len (fun _ _ h => aNil_len h))))))))
    (dss_cons (ds_if (dt_gt (dv_df (df_var 2)) (dv_df (df_var 1)))
    (dss_cons (ds_if (dt_gt (dv_df (df_sub (dv_df (df_var 2)) (dv_df (df_var 1)))) (dv_df df_int))
    (dss_one (ds_raise rfl (takes_of rfl rfl rfl rfl) T.cx_NoText rfl))
    dss_nil)
    (dss_one (ds_ret (de_df (df_var 2)))))
    dss_nil)
    (dss_cons (ds_set 3 sc_word_end.nd (de_df (df_de (de_add (dl_df (df_var 1)) (dl_de (de_int rfl T.z_int (dal_cons (dl_df (df_eq (room_eq hr) (dv_df (df_ix (dl_df (df_var 0)) (dv_df (df_var 1)))) (dv_df df_str))) dal_nil)))))))
    (dss_cons (ds_set 2 sc_word_end.nd (de_df (df_de (de_call G.g_run_end (takes_of rfl rfl rfl rfl) hr rfl T.M_run_end T.F_run_end.kp T.B_run_end (da_cons (df_var 0) (da_cons (df_var 3) (da_cons (df_gstr rfl T.k_FIGURES.choose_spec.1 T.k_FIGURES.choose_spec.2) da_nil))) (aCons_len (aCons_len (aCons_len (fun _ _ h => aNil_len h))))))))
    (dss_cons (ds_if (dt_dw (dw_or (dt_eq (room_eq hr) (dv_df (df_var 2)) (dv_df (df_var 3))) (dw_or1 (dt_gt (dv_df (df_sub (dv_df (df_var 2)) (dv_df (df_var 3)))) (dv_df df_int)))))
    (dss_one (ds_raise rfl (takes_of rfl rfl rfl rfl) T.cx_NoText rfl))
    dss_nil)
    (dss_cons (ds_if (dt_dw (dw_and (dt_eq (room_eq hr) (dv_df (df_ix (dl_df (df_var 0)) (dv_df (df_var 3)))) (dv_df df_str)) (dw_and1 (dt_dw (dw_or (dt_gt (dv_df (df_sub (dv_df (df_var 2)) (dv_df (df_var 3)))) (dv_df df_int)) (dw_or1 (dt_gt (dv_df (df_var 3)) (dv_df (df_var 1)))))))))
    (dss_one (ds_raise rfl (takes_of rfl rfl rfl rfl) T.cx_NoText rfl))
    dss_nil)
    (dss_one (ds_ret (de_df (df_var 2)))))))))))
theorem ok_words (T : Txt K mg f fd cl) (G : Fns P w K mg base f fd n) : FnOk P w K mg base (L2.CX P w) (n + 1) (f 2) (fd 2) ["text"] (spM ⟨K, w⟩ mg 1 (mir (n + 1) 2)) :=
  mk_fn (l := 3) (fb := b_words (mir n)) T.F_words sc_words rfl (fun _ => rfl) fun cdv A outer s H E hr =>
    (dss_cons (ds_if (dt_not (dt_val (dv_df (df_isi (dv_df (df_var 0)) rfl T.z_isinstance rfl T.z_str rfl))))
    (dss_one (ds_raise rfl (takes_of rfl rfl rfl rfl) T.cx_NoText rfl))
    dss_nil)
    (dss_cons (ds_set 1 sc_words.nd (de_lst da_nil))
    (dss_cons (ds_set 2 sc_words.nd (de_df df_int))
    (dss_cons (ds_while 1000000 (passes_of rfl) (dt_lt (dv_df (df_var 2)) (dv_de (de_len rfl T.z_len (dal_cons (dl_df (df_var 0)) dal_nil))))
    (dss_cons (ds_if (dt_eq (room_eq hr) (dv_df (df_ix (dl_df (df_var 0)) (dv_df (df_var 2)))) (dv_df df_str))
    (dss_cons (ds_aug 2 iop_addA opS_addA sc_words.nd (dv_df df_int))
    (dss_one ds_cont))
    dss_nil)
    (dss_cons (ds_set 3 sc_words.nd (de_df (df_de (de_call G.g_word_end (takes_of rfl rfl rfl rfl) hr rfl T.M_word_end T.F_word_end.kp T.B_word_end (da_cons (df_var 0) (da_cons (df_var 2) da_nil)) (aCons_len (aCons_len (fun _ _ h => aNil_len h)))))))
    (dss_cons (ds_app 1 (de_slice (dl_df (df_var 0)) (do_some (dv_df (df_var 2))) (do_some (dv_df (df_var 3)))))
    (dss_one (ds_set 2 sc_words.nd (de_df (df_var 3))))))))
    (dss_one (ds_retV 1))))))
theorem ok_is_name (T : Txt K mg f fd cl) (G : Fns P w K mg base f fd n) : FnOk P w K mg base (L2.CX P w) (n + 1) (f 3) (fd 3) ["word"] (spM ⟨K, w⟩ mg 1 (mir (n + 1) 3)) :=
  mk_fn (l := 0) (fb := b_is_name (mir n)) T.F_is_name sc_is_name rfl (fun _ => rfl) fun cdv A outer s H E hr =>
    (dss_one (ds_ret (de_df (df_in (room_eq hr) (dv_df (df_ix (dl_df (df_var 0)) (dv_df df_int))) (dv_df (df_gstr rfl T.k_LETTERS.choose_spec.1 T.k_LETTERS.choose_spec.2))))))
theorem ok_parted (T : Txt K mg f fd cl) (G : Fns P w K mg base f fd n) : FnOk P w K mg base (L2.CX P w) (n + 1) (f 4) (fd 4) ["row", "sign"] (spM ⟨K, w⟩ mg 2 (mir (n + 1) 4)) :=
  mk_fn (l := 2) (fb := b_parted (mir n)) T.F_parted sc_parted rfl (fun _ => rfl) fun cdv A outer s H E hr =>
    (dss_cons (ds_set 2 sc_parted.nd (de_lstO (dao_cons (de_lst da_nil) dao_nil)))
    (dss_cons (ds_for (ix := [3]) (passes_of rfl) rfl (di_seq (df_var 0)) (dg_name 3 sc_parted.nd)
    (dss_one (ds_if (dt_eq (room_eq hr) (dv_df (df_var 3)) (dv_df (df_var 1)))
    (dss_one (ds_app 2 (de_lst da_nil)))
    (dss_one (ds_papp (dpt_ix (dpt_var 2) (dv_df (df_neg (dv_df df_int)))) (de_df (df_var 3)))))))
    (dss_one (ds_retV 2))))
theorem ok_row_by (T : Txt K mg f fd cl) (G : Fns P w K mg base f fd n) : FnOk P w K mg base (L2.CX P w) (n + 1) (f 5) (fd 5) ["part"] (spM ⟨K, w⟩ mg 1 (mir (n + 1) 5)) :=
  mk_fn (l := 2) (fb := b_row_by (mir n)) T.F_row_by sc_row_by rfl (fun _ => rfl) fun cdv A outer s H E hr =>
    (dss_cons (ds_if (dt_dw (dw_or (dt_eq (room_eq hr) (dv_df (df_var 0)) (dv_de (de_lst da_nil))) (dw_or1 (dt_not (dt_val (dv_de (de_call G.g_is_name (takes_of rfl rfl rfl rfl) hr rfl T.M_is_name T.F_is_name.kp T.B_is_name (da_cons (df_ix (dl_df (df_var 0)) (dv_df df_int)) da_nil) (aCons_len (fun _ _ h => aNil_len h)))))))))
    (dss_one (ds_raise rfl (takes_of rfl rfl rfl rfl) T.cx_NoText rfl))
    dss_nil)
    (dss_cons (ds_if (dt_eq (room_eq hr) (dv_de (de_len rfl T.z_len (dal_cons (dl_df (df_var 0)) dal_nil))) (dv_df df_int))
    (dss_one (ds_ret (de_df (df_tup (da_cons (df_ix (dl_df (df_var 0)) (dv_df df_int)) (da_cons (df_tup da_nil) da_nil))))))
    dss_nil)
    (dss_cons (ds_set 1 sc_row_by.nd (de_df (df_de (de_slice (dl_df (df_var 0)) (do_some (dv_df df_int)) (do_some (dv_df (df_neg (dv_df df_int))))))))
    (dss_cons (ds_if (dt_dw (dw_or (dt_ne (room_eq hr) (dv_df (df_ix (dl_df (df_var 0)) (dv_df df_int))) (dv_df df_str)) (dw_or (dt_ne (room_eq hr) (dv_df (df_ix (dl_df (df_var 0)) (dv_df (df_neg (dv_df df_int))))) (dv_df df_str)) (dw_or (dt_eq (room_eq hr) (dv_df (df_var 1)) (dv_de (de_lst da_nil))) (dw_or1 (dt_gt (dv_de (de_len rfl T.z_len (dal_cons (dl_df (df_var 1)) dal_nil))) (dv_df df_int)))))))
    (dss_one (ds_raise rfl (takes_of rfl rfl rfl rfl) T.cx_NoText rfl))
    dss_nil)
    (dss_cons (ds_for (ix := [2]) (passes_of rfl) rfl (di_seq (df_var 1)) (dg_name 2 sc_row_by.nd)
    (dss_one (ds_if (dt_not (dt_val (dv_de (de_call G.g_is_name (takes_of rfl rfl rfl rfl) hr rfl T.M_is_name T.F_is_name.kp T.B_is_name (da_cons (df_var 2) da_nil) (aCons_len (fun _ _ h => aNil_len h))))))
    (dss_one (ds_raise rfl (takes_of rfl rfl rfl rfl) T.cx_NoText rfl))
    dss_nil)))
    (dss_one (ds_ret (de_df (df_tup (da_cons (df_ix (dl_df (df_var 0)) (dv_df df_int)) (da_cons (df_de (de_tuple rfl T.z_tuple (dal_cons (dl_df (df_var 1)) dal_nil))) da_nil)))))))))))
theorem ok_kind_by (T : Txt K mg f fd cl) (G : Fns P w K mg base f fd n) : FnOk P w K mg base (L2.CX P w) (n + 1) (f 6) (fd 6) ["part"] (spM ⟨K, w⟩ mg 1 (mir (n + 1) 6)) :=
  mk_fn (l := 1) (fb := b_kind_by (mir n)) T.F_kind_by sc_kind_by rfl (fun _ => rfl) fun cdv A outer s H E hr =>
    (dss_cons (ds_if (dt_dw (dw_or (dt_lt (dv_de (de_len rfl T.z_len (dal_cons (dl_df (df_var 0)) dal_nil))) (dv_df df_int)) (dw_or (dt_not (dt_val (dv_de (de_call G.g_is_name (takes_of rfl rfl rfl rfl) hr rfl T.M_is_name T.F_is_name.kp T.B_is_name (da_cons (df_ix (dl_df (df_var 0)) (dv_df df_int)) da_nil) (aCons_len (fun _ _ h => aNil_len h)))))) (dw_or1 (dt_ne (room_eq hr) (dv_df (df_ix (dl_df (df_var 0)) (dv_df df_int))) (dv_df df_str))))))
    (dss_one (ds_raise rfl (takes_of rfl rfl rfl rfl) T.cx_NoText rfl))
    dss_nil)
    (dss_one (ds_ret (de_df (df_tup (da_cons (df_ix (dl_df (df_var 0)) (dv_df df_int)) (da_cons (df_de (de_lc (own := [("row", 1)]) (ix := [1]) rfl sc_kind_by.nd (di_seq (df_de (de_call G.g_parted (takes_of rfl rfl rfl rfl) hr rfl T.M_parted T.F_parted.kp T.B_parted (da_cons (df_de (de_slice (dl_df (df_var 0)) (do_some (dv_df df_int)) do_none)) (da_cons df_str da_nil)) (aCons_len (aCons_len (fun _ _ h => aNil_len h)))))) (blkOk_by (N := N_kind_by) (sc := defScope s_kind_by) (by decide +kernel)) (fun _ _ _ _ _ => (dg_name 1 sc_kind_by.nd)) (fun _ _ _ _ _ => dts_nil) (fun _ _ _ _ _ => (de_call G.g_row_by takes0 hr rfl T.M_row_by T.F_row_by.kp T.B_row_by (da_cons (df_var 1) da_nil) (aCons_len (fun _ _ h => aNil_len h)))))) da_nil)))))))
theorem ok_look_over (T : Txt K mg f fd cl) (G : Fns P w K mg base f fd n) : FnOk P w K mg base (L2.CX P w) (n + 1) (f 7) (fd 7) ["wood"] (spM ⟨K, w⟩ mg 1 (mir (n + 1) 7)) :=
  mk_fn (l := 7) (fb := b_look_over (mir n)) T.F_look_over sc_look_over rfl (fun _ => rfl) fun cdv A outer s H E hr =>
    (dss_cons (ds_setLcF 1 (own := [("kind", 2), ("rows", 3)]) (ix := [2, 3]) rfl sc_look_over.nd (di_seq (df_var 0)) (blkOk_by (N := N_look_over) (sc := defScope s_look_over) (by decide +kernel)) (fun _ _ _ _ _ => (dg_tup (n := 2) rfl (dgs_cons (dg_name 2 sc_look_over.nd) (dgs_cons (dg_name 3 sc_look_over.nd) dgs_nil)))) (fun _ _ _ _ _ => dts_nil) (fun _ _ _ _ _ => (de_df (df_var 2))))
    (dss_cons (ds_if (dt_lt (dv_df (df_lenSet rfl T.z_len rfl T.z_set (dl_df (df_var 1)))) (dv_de (de_len rfl T.z_len (dal_cons (dl_df (df_var 1)) dal_nil))))
    (dss_one (ds_raise rfl (takes_of rfl rfl rfl rfl) T.cx_NoWood rfl))
    dss_nil)
    (dss_one (ds_for (ix := [2, 3]) (passes_of rfl) rfl (di_seq (df_var 0)) (dg_tup (n := 2) rfl (dgs_cons (dg_name 2 sc_look_over.nd) (dgs_cons (dg_name 3 sc_look_over.nd) dgs_nil)))
    (dss_cons (ds_setLcF 4 (own := [("name", 5), ("branches", 6)]) (ix := [5, 6]) rfl sc_look_over.nd (di_seq (df_var 3)) (blkOk_by (N := N_look_over) (sc := defScope s_look_over) (by decide +kernel)) (fun _ _ _ _ _ => (dg_tup (n := 2) rfl (dgs_cons (dg_name 5 sc_look_over.nd) (dgs_cons (dg_name 6 sc_look_over.nd) dgs_nil)))) (fun _ _ _ _ _ => dts_nil) (fun _ _ _ _ _ => (de_df (df_var 5))))
    (dss_cons (ds_if (dt_lt (dv_df (df_lenSet rfl T.z_len rfl T.z_set (dl_df (df_var 4)))) (dv_de (de_len rfl T.z_len (dal_cons (dl_df (df_var 4)) dal_nil))))
    (dss_one (ds_raise rfl (takes_of rfl rfl rfl rfl) T.cx_NoWood rfl))
    dss_nil)
    (dss_cons (ds_if (dt_notIn (room_eq hr) (dv_df (df_tup da_nil)) (dv_de (de_lc (own := [("name", 5), ("branches", 6)]) (ix := [5, 6]) rfl sc_look_over.nd (di_seq (df_var 3)) (blkOk_by (N := N_look_over) (sc := defScope s_look_over) (by decide +kernel)) (fun _ _ _ _ _ => (dg_tup (n := 2) rfl (dgs_cons (dg_name 5 sc_look_over.nd) (dgs_cons (dg_name 6 sc_look_over.nd) dgs_nil)))) (fun _ _ _ _ _ => dts_nil) (fun _ _ _ _ _ => (de_df (df_var 6))))))
    (dss_one (ds_raise rfl (takes_of rfl rfl rfl rfl) T.cx_NoWood rfl))
    dss_nil)
    (dss_one (ds_for (ix := [5, 6]) (passes_of rfl) rfl (di_seq (df_var 3)) (dg_tup (n := 2) rfl (dgs_cons (dg_name 5 sc_look_over.nd) (dgs_cons (dg_name 6 sc_look_over.nd) dgs_nil)))
    (dss_one (ds_for (ix := [7]) (passes_of rfl) rfl (di_seq (df_var 6)) (dg_name 7 sc_look_over.nd)
    (dss_one (ds_if (dt_notIn (room_eq hr) (dv_df (df_var 7)) (dv_df (df_var 1)))
    (dss_one (ds_raise rfl (takes_of rfl rfl rfl rfl) T.cx_NoWood rfl))
    dss_nil)))))))))))))
theorem ok_read_wood (T : Txt K mg f fd cl) (G : Fns P w K mg base f fd n) : FnOk P w K mg base (L2.CX P w) (n + 1) (f 8) (fd 8) ["text"] (spM ⟨K, w⟩ mg 1 (mir (n + 1) 8)) :=
  mk_fn (l := 4) (fb := b_read_wood (mir n)) T.F_read_wood sc_read_wood rfl (fun _ => rfl) fun cdv A outer s H E hr =>
    (dss_cons (ds_setLcF 1 (own := [("part", 2)]) (ix := [2]) rfl sc_read_wood.nd (di_seq (df_de (de_call G.g_parted (takes_of rfl rfl rfl rfl) hr rfl T.M_parted T.F_parted.kp T.B_parted (da_cons (df_de (de_call G.g_words (takes_of rfl rfl rfl rfl) hr rfl T.M_words T.F_words.kp T.B_words (da_cons (df_var 0) da_nil) (aCons_len (fun _ _ h => aNil_len h)))) (da_cons df_str da_nil)) (aCons_len (aCons_len (fun _ _ h => aNil_len h)))))) (blkOk_by (N := N_read_wood) (sc := defScope s_read_wood) (by decide +kernel)) (fun _ _ _ _ _ => (dg_name 2 sc_read_wood.nd)) (fun _ _ _ _ _ => dts_nil) (fun _ _ _ _ _ => (de_call G.g_kind_by takes0 hr rfl T.M_kind_by T.F_kind_by.kp T.B_kind_by (da_cons (df_var 2) da_nil) (aCons_len (fun _ _ h => aNil_len h)))))
    (dss_cons (ds_if (dt_dw (dw_or (dt_gt (dv_de (de_len rfl T.z_len (dal_cons (dl_df (df_var 1)) dal_nil))) (dv_df df_int)) (dw_or1 (dt_gt (dv_de (de_sum rfl rfl T.z_sum (dal_cons (dl_de (de_lc (own := [("kind", 3), ("rows", 4)]) (ix := [3, 4]) rfl sc_read_wood.nd (di_seq (df_var 1)) (blkOk_by (N := N_read_wood) (sc := defScope s_read_wood) (by decide +kernel)) (fun _ _ _ _ _ => (dg_tup (n := 2) rfl (dgs_cons (dg_name 3 sc_read_wood.nd) (dgs_cons (dg_name 4 sc_read_wood.nd) dgs_nil)))) (fun _ _ _ _ _ => dts_nil) (fun _ _ _ _ _ => (de_len rfl T.z_len (dal_cons (dl_df (df_var 4)) dal_nil))))) dal_nil))) (dv_df df_int)))))
    (dss_one (ds_raise rfl (takes_of rfl rfl rfl rfl) T.cx_NoText rfl))
    dss_nil)
    (dss_cons (ds_expr (df_de (de_call G.g_look_over (takes_of rfl rfl rfl rfl) hr rfl T.M_look_over T.F_look_over.kp T.B_look_over (da_cons (df_var 1) da_nil) (aCons_len (fun _ _ h => aNil_len h)))))
    (dss_one (ds_ret (de_lc (own := [("kind", 3), ("rows", 4)]) (ix := [3, 4]) rfl sc_read_wood.nd (di_seq (df_var 1)) (blkOk_by (N := N_read_wood) (sc := defScope s_read_wood) (by decide +kernel)) (fun _ _ _ _ _ => (dg_tup (n := 2) rfl (dgs_cons (dg_name 3 sc_read_wood.nd) (dgs_cons (dg_name 4 sc_read_wood.nd) dgs_nil)))) (fun _ _ _ _ _ => dts_nil) (fun _ _ _ _ _ => (de_tupO (dao_cons (de_df (df_var 3)) (dao_cons (de_sorted (room_eq hr) rfl T.z_sorted (dal_cons (dl_df (df_var 4)) dal_nil)) dao_nil))))))))))
theorem ok_show_row (T : Txt K mg f fd cl) (G : Fns P w K mg base f fd n) : FnOk P w K mg base (L2.CX P w) (n + 1) (f 9) (fd 9) ["row"] (spM ⟨K, w⟩ mg 1 (mir (n + 1) 9)) :=
  mk_fn (l := 0) (fb := b_show_row (mir n)) T.F_show_row sc_show_row rfl (fun _ => rfl) fun cdv A outer s H E hr =>
    (dss_cons (ds_if (dt_eq (room_eq hr) (dv_df (df_ix (dl_df (df_var 0)) (dv_df df_int))) (dv_df (df_tup da_nil)))
    (dss_one (ds_ret (de_df (df_ix (dl_df (df_var 0)) (dv_df df_int)))))
    dss_nil)
    (dss_one (ds_ret (de_add (dl_de (de_add (dl_de (de_add (dl_df (df_ix (dl_df (df_var 0)) (dv_df df_int))) (dl_df df_str))) (dl_df (df_join (dv_df df_str) (dl_df (df_ix (dl_df (df_var 0)) (dv_df df_int))))))) (dl_df df_str)))))
theorem ok_show_wood (T : Txt K mg f fd cl) (G : Fns P w K mg base f fd n) : FnOk P w K mg base (L2.CX P w) (n + 1) (f 10) (fd 10) ["wood"] (spM ⟨K, w⟩ mg 1 (mir (n + 1) 10)) :=
  mk_fn (l := 4) (fb := b_show_wood (mir n)) T.F_show_wood sc_show_wood rfl (fun _ => rfl) fun cdv A outer s H E hr =>
    (dss_cons (ds_set 1 sc_show_wood.nd (de_lst da_nil))
    (dss_cons (ds_for (ix := [2, 3]) (passes_of rfl) rfl (di_seq (df_var 0)) (dg_tup (n := 2) rfl (dgs_cons (dg_name 2 sc_show_wood.nd) (dgs_cons (dg_name 3 sc_show_wood.nd) dgs_nil)))
    (dss_one (ds_app 1 (de_add (dl_de (de_add (dl_df (df_var 2)) (dl_df df_str))) (dl_df (df_join (dv_df df_str) (dl_de (de_lc (own := [("row", 4)]) (ix := [4]) rfl sc_show_wood.nd (di_seq (df_var 3)) (blkOk_by (N := N_show_wood) (sc := defScope s_show_wood) (by decide +kernel)) (fun _ _ _ _ _ => (dg_name 4 sc_show_wood.nd)) (fun _ _ _ _ _ => dts_nil) (fun _ _ _ _ _ => (de_call G.g_show_row takes0 hr rfl T.M_show_row T.F_show_row.kp T.B_show_row (da_cons (df_var 4) da_nil) (aCons_len (fun _ _ h => aNil_len h))))))))))))
    (dss_one (ds_ret (de_df (df_join (dv_df df_str) (dl_dp (dp_var 1))))))))
theorem ok__law_cell_at (T : Txt K mg f fd cl) (G : Fns P w K mg base f fd n) : FnOk P w K mg base (L2.CX P w) (n + 1) (f 11) (fd 11) ["_law_script", "_law_k"] (spM ⟨K, w⟩ mg 2 (mir (n + 1) 11)) :=
  mk_fn (l := 0) (fb := b__law_cell_at (mir n)) T.F__law_cell_at sc__law_cell_at rfl (fun _ => rfl) fun cdv A outer s H E hr =>
    (dss_cons (ds_if (dt_lt (dv_df (df_var 1)) (dv_de (de_len rfl T.z_len (dal_cons (dl_df (df_var 0)) dal_nil))))
    (dss_one (ds_ret (de_df (df_ix (dl_df (df_var 0)) (dv_df (df_var 1))))))
    dss_nil)
    (dss_one (ds_ret (de_df df_int))))
theorem ok__law_names (T : Txt K mg f fd cl) (G : Fns P w K mg base f fd n) : FnOk P w K mg base (L2.CX P w) (n + 1) (f 12) (fd 12) ["_law_cell", "_law_where", "_law_lots"] (spM ⟨K, w⟩ mg 3 (mir (n + 1) 12)) :=
  mk_fn (l := 8) (fb := b__law_names (mir n)) T.F__law_names sc__law_names rfl (fun _ => rfl) fun cdv A outer s H E hr =>
    (dss_cons (ds_set 3 sc__law_names.nd (de_df df_str))
    (dss_cons (ds_set 4 sc__law_names.nd (de_df (df_mod (dv_df (df_var 0)) (dv_df (df_pow (dv_df df_int) (dv_df df_int))))))
    (dss_cons (ds_set 5 sc__law_names.nd (de_df df_str))
    (dss_cons (ds_for (ix := [6]) (passes_of rfl) rfl (di_range1 rfl T.z_range (da_cons (df_de (de_add (dl_df df_int) (dl_df (df_mod (dv_df (df_var 4)) (dv_df df_int))))) da_nil)) (dg_name 6 sc__law_names.nd)
    (dss_one (ds_set 5 sc__law_names.nd (de_df (df_de (de_add (dl_df (df_var 5)) (dl_df (df_ix (dl_df (df_var 3)) (dv_df (df_mod (dv_de (de_add (dl_df (df_div (dv_df (df_var 4)) (dv_de (de_add (dl_df (df_var 6)) (dl_df df_int))))) (dl_df (df_mul (dv_df (df_mul (dv_df df_int) (dv_df (df_var 6)))) (dv_df (df_var 6)))))) (dv_df df_int)))))))))))
    (dss_cons (ds_set 7 sc__law_names.nd (de_df (df_mod (dv_df (df_var 1)) (dv_de (de_len rfl T.z_len (dal_cons (dl_df (df_var 5)) dal_nil))))))
    (dss_cons (ds_set 8 sc__law_names.nd (de_df (df_txIndex (dv_df (df_var 3)) (dv_df (df_ix (dl_df (df_var 5)) (dv_df (df_var 7)))))))
    (dss_cons (ds_set 9 sc__law_names.nd (de_lst da_nil))
    (dss_cons (ds_for (ix := [6]) (passes_of rfl) rfl (di_range1 rfl T.z_range (da_cons (df_var 2) da_nil)) (dg_name 6 sc__law_names.nd)
    (dss_cons (ds_set 10 sc__law_names.nd (de_df (df_de (de_add (dl_de (de_add (dl_de (de_slice (dl_df (df_var 5)) do_none (do_some (dv_df (df_var 7))))) (dl_df (df_ix (dl_df (df_var 3)) (dv_df (df_mod (dv_de (de_add (dl_df (df_var 8)) (dl_df (df_var 6)))) (dv_df df_int))))))) (dl_de (de_slice (dl_df (df_var 5)) (do_some (dv_de (de_add (dl_df (df_var 7)) (dl_df df_int)))) do_none))))))
    (dss_cons (ds_if (dt_dw (dw_and (dt_eq (room_eq hr) (dv_df (df_mod (dv_df (df_var 4)) (dv_df df_int))) (dv_df df_int)) (dw_and (dt_lt (dv_df (df_var 6)) (dv_df df_int)) (dw_and1 (dt_eq (room_eq hr) (dv_de (de_len rfl T.z_len (dal_cons (dl_df (df_var 5)) dal_nil))) (dv_df df_int))))))
    (dss_one (ds_set 10 sc__law_names.nd (de_df (df_de (de_slice (dl_df (df_var 5)) do_none (do_some (dv_df (df_sub (dv_df df_int) (dv_df (df_var 6))))))))))
    dss_nil)
    (dss_one (ds_app 9 (de_df (df_var 10)))))))
    (dss_one (ds_retV 9))))))))))
theorem ok__law_wood (T : Txt K mg f fd cl) (G : Fns P w K mg base f fd n) : FnOk P w K mg base (L2.CX P w) (n + 1) (f 13) (fd 13) ["_law_script"] (spM ⟨K, w⟩ mg 1 (mir (n + 1) 13)) :=
  mk_fn (l := 13) (fb := b__law_wood (mir n)) T.F__law_wood sc__law_wood rfl (fun _ => rfl) fun cdv A outer s H E hr =>
    (dss_cons (ds_set 1 sc__law_wood.nd (de_df (df_de (de_add (dl_df df_int) (dl_df (df_mod (dv_de (de_call G.g__law_cell_at (takes_of rfl rfl rfl rfl) hr rfl T.M__law_cell_at T.F__law_cell_at.kp T.B__law_cell_at (da_cons (df_var 0) (da_cons df_int da_nil)) (aCons_len (aCons_len (fun _ _ h => aNil_len h))))) (dv_df df_int)))))))
    (dss_cons (ds_set 2 sc__law_wood.nd (de_df (df_de (de_slice (dl_de (de_call G.g__law_names (takes_of rfl rfl rfl rfl) hr rfl T.M__law_names T.F__law_names.kp T.B__law_names (da_cons (df_de (de_call G.g__law_cell_at (takes_of rfl rfl rfl rfl) hr rfl T.M__law_cell_at T.F__law_cell_at.kp T.B__law_cell_at (da_cons (df_var 0) (da_cons df_int da_nil)) (aCons_len (aCons_len (fun _ _ h => aNil_len h))))) (da_cons (df_de (de_call G.g__law_cell_at (takes_of rfl rfl rfl rfl) hr rfl T.M__law_cell_at T.F__law_cell_at.kp T.B__law_cell_at (da_cons (df_var 0) (da_cons df_int da_nil)) (aCons_len (aCons_len (fun _ _ h => aNil_len h))))) (da_cons df_int da_nil))) (aCons_len (aCons_len (aCons_len (fun _ _ h => aNil_len h)))))) do_none (do_some (dv_df (df_var 1)))))))
    (dss_cons (ds_set 3 sc__law_wood.nd (de_df (df_de (de_call G.g__law_names (takes_of rfl rfl rfl rfl) hr rfl T.M__law_names T.F__law_names.kp T.B__law_names (da_cons (df_de (de_call G.g__law_cell_at (takes_of rfl rfl rfl rfl) hr rfl T.M__law_cell_at T.F__law_cell_at.kp T.B__law_cell_at (da_cons (df_var 0) (da_cons df_int da_nil)) (aCons_len (aCons_len (fun _ _ h => aNil_len h))))) (da_cons (df_de (de_call G.g__law_cell_at (takes_of rfl rfl rfl rfl) hr rfl T.M__law_cell_at T.F__law_cell_at.kp T.B__law_cell_at (da_cons (df_var 0) (da_cons df_int da_nil)) (aCons_len (aCons_len (fun _ _ h => aNil_len h))))) (da_cons df_int da_nil))) (aCons_len (aCons_len (aCons_len (fun _ _ h => aNil_len h))))))))
    (dss_cons (ds_set 4 sc__law_wood.nd (de_df (df_mod (dv_de (de_call G.g__law_cell_at (takes_of rfl rfl rfl rfl) hr rfl T.M__law_cell_at T.F__law_cell_at.kp T.B__law_cell_at (da_cons (df_var 0) (da_cons df_int da_nil)) (aCons_len (aCons_len (fun _ _ h => aNil_len h))))) (dv_df (df_pow (dv_df df_int) (dv_df df_int))))))
    (dss_cons (ds_setLc 5 (own := [("_law_k", 6)]) (ix := [6]) rfl sc__law_wood.nd (di_range1 rfl T.z_range (da_cons (df_var 1) da_nil)) (blkOk_by (N := N__law_wood) (sc := defScope s__law_wood) (by decide +kernel)) (fun _ _ _ _ _ => (dg_name 6 sc__law_wood.nd)) (fun _ _ _ _ _ => dts_nil) (fun _ _ _ _ _ => (de_tupO (dao_cons (de_df (df_ix (dl_df (df_var 2)) (dv_df (df_var 6)))) (dao_cons (de_lst (da_cons (df_tup (da_cons (df_ix (dl_df (df_var 3)) (dv_df (df_mod (dv_df (df_div (dv_df (df_var 4)) (dv_de (de_add (dl_df (df_var 6)) (dl_df df_int))))) (dv_df df_int)))) (da_cons (df_tup da_nil) da_nil))) da_nil)) dao_nil)))))
    (dss_cons (ds_for (ix := [6]) (passes_of rfl) rfl (di_range2 rfl T.z_range (da_cons df_int (da_cons (df_de (de_min2 rfl rfl T.z_min (dal_cons (dl_de (de_len rfl T.z_len (dal_cons (dl_df (df_var 0)) dal_nil))) (dal_cons (dl_df (df_sub (dv_df df_int) (dv_df (df_var 1)))) dal_nil)))) da_nil))) (dg_name 6 sc__law_wood.nd)
    (dss_cons (ds_set 7 sc__law_wood.nd (de_df (df_mod (dv_df (df_ix (dl_df (df_var 0)) (dv_df (df_var 6)))) (dv_df (df_pow (dv_df df_int) (dv_df df_int))))))
    (dss_bor 5 8 sc__law_wood.nd (dhp_ix (dhp_ix (dhp_var 5) (dv_df (df_mod (dv_df (df_var 7)) (dv_df (df_var 1))))) (dv_df df_int))
    (dss_cons (ds_thaw 8 [] [0, 1, 2, 3, 4, 5, 6, 7, 12, 13] (ds_setLc 9 (own := [("_law_name", 10)]) (ix := [10]) rfl sc__law_wood.nd (di_seq (df_var 3)) (blkOk_by (N := N__law_wood) (sc := defScope s__law_wood) (by decide +kernel)) (fun _ _ _ _ _ => (dg_name 10 sc__law_wood.nd)) (fun _ _ _ _ _ => (dts_one (dt_notIn (room_eq hr) (dv_df (df_var 10)) (dv_de (de_lc (own := [("_law_row", 11)]) (ix := [11]) rfl sc__law_wood.nd (di_seq (df_var 8)) (blkOk_by (by kernel_rfl)) (fun _ _ _ _ _ => (dg_name 11 sc__law_wood.nd)) (fun _ _ _ _ _ => dts_nil) (fun _ _ _ _ _ => (de_df (df_ix (dl_df (df_var 11)) (dv_df df_int))))))))) (fun _ _ _ _ _ => (de_df (df_var 10)))))
    (dss_cons (ds_set 12 sc__law_wood.nd (de_df (df_de (de_tuple rfl T.z_tuple (dal_cons (dl_de (de_lc (own := [("_law_j", 13)]) (ix := [13]) rfl sc__law_wood.nd (di_range1 rfl T.z_range (da_cons (df_mod (dv_df (df_div (dv_df (df_var 7)) (dv_df df_int))) (dv_df df_int)) da_nil)) (blkOk_by (N := N__law_wood) (sc := defScope s__law_wood) (by decide +kernel)) (fun _ _ _ _ _ => (dg_name 13 sc__law_wood.nd)) (fun _ _ _ _ _ => dts_nil) (fun _ _ _ _ _ => (de_df (df_ix (dl_df (df_var 2)) (dv_df (df_mod (dv_df (df_div (dv_df (df_var 7)) (dv_de (de_add (dl_df df_int) (dl_df (df_mul (dv_df df_int) (dv_df (df_var 13)))))))) (dv_df (df_var 1))))))))) dal_nil)))))
    (dss_one (ds_insS 8 (dv_df (df_mod (dv_df (df_div (dv_df (df_var 7)) (dv_df df_int))) (dv_de (de_add (dl_de (de_len rfl T.z_len (dal_cons (dl_dp (dp_var 8)) dal_nil))) (dl_df df_int))))) (de_df (df_tup (da_cons (df_ix (dl_dp (dp_var 9)) (dv_df (df_mod (dv_df (df_div (dv_df (df_var 7)) (dv_df df_int))) (dv_de (de_len rfl T.z_len (dal_cons (dl_dp (dp_var 9)) dal_nil)))))) (da_cons (df_var 12) da_nil)))))))))))
    (dss_one (ds_retV 5))))))))
theorem ok__law_parts (T : Txt K mg f fd cl) (G : Fns P w K mg base f fd n) : FnOk P w K mg base (L2.CX P w) (n + 1) (f 14) (fd 14) ["_law_wood_here"] (spM ⟨K, w⟩ mg 1 (mir (n + 1) 14)) :=
  mk_fn (l := 4) (fb := b__law_parts (mir n)) T.F__law_parts sc__law_parts rfl (fun _ => rfl) fun cdv A outer s H E hr =>
    (dss_cons (ds_set 1 sc__law_parts.nd (de_df (df_de (de_lst da_nil))))
    (dss_cons (ds_for (ix := [2, 3]) (passes_of rfl) rfl (di_seq (df_var 0)) (dg_tup (n := 2) rfl (dgs_cons (dg_name 2 sc__law_parts.nd) (dgs_cons (dg_name 3 sc__law_parts.nd) dgs_nil)))
    (dss_cons (ds_set 1 sc__law_parts.nd (de_df (df_de (de_add (dl_df (df_var 1)) (dl_de (de_lst (da_cons df_str (da_cons (df_var 2) (da_cons df_str da_nil)))))))))
    (dss_one (ds_for (ix := [4]) (passes_of rfl) rfl (di_range1 rfl T.z_range (da_cons (df_de (de_len rfl T.z_len (dal_cons (dl_df (df_var 3)) dal_nil))) da_nil)) (dg_name 4 sc__law_parts.nd)
    (dss_cons (ds_set 1 sc__law_parts.nd (de_df (df_de (de_add (dl_de (de_add (dl_df (df_var 1)) (dl_de (de_rep (de_lst (da_cons df_str da_nil)) (dv_de (de_int rfl T.z_int (dal_cons (dl_df (df_gt (dv_df (df_var 4)) (dv_df df_int))) dal_nil))))))) (dl_de (de_lst (da_cons (df_ix (dl_df (df_ix (dl_df (df_var 3)) (dv_df (df_var 4)))) (dv_df df_int)) da_nil)))))))
    (dss_one (ds_if (dt_ne (room_eq hr) (dv_df (df_ix (dl_df (df_ix (dl_df (df_var 3)) (dv_df (df_var 4)))) (dv_df df_int))) (dv_df (df_tup da_nil)))
    (dss_one (ds_set 1 sc__law_parts.nd (de_df (df_de (de_add (dl_de (de_add (dl_de (de_add (dl_df (df_var 1)) (dl_de (de_lst (da_cons df_str da_nil))))) (dl_de (de_list rfl T.z_list (dal_cons (dl_df (df_ix (dl_df (df_ix (dl_df (df_var 3)) (dv_df (df_var 4)))) (dv_df df_int))) dal_nil))))) (dl_de (de_lst (da_cons df_str da_nil))))))))
    dss_nil)))))))
    (dss_one (ds_ret (de_slice (dl_df (df_var 1)) (do_some (dv_df df_int)) do_none)))))
theorem ok__law_shown (T : Txt K mg f fd cl) (G : Fns P w K mg base f fd n) : FnOk P w K mg base (L2.CX P w) (n + 1) (f 15) (fd 15) ["_law_wood_here"] (spM ⟨K, w⟩ mg 1 (mir (n + 1) 15)) :=
  mk_fn (l := 6) (fb := b__law_shown (mir n)) T.F__law_shown sc__law_shown rfl (fun _ => rfl) fun cdv A outer s H E hr =>
    (dss_cons (ds_set 1 sc__law_shown.nd (de_lst da_nil))
    (dss_cons (ds_for (ix := [2, 3]) (passes_of rfl) rfl (di_seq (df_var 0)) (dg_tup (n := 2) rfl (dgs_cons (dg_name 2 sc__law_shown.nd) (dgs_cons (dg_name 3 sc__law_shown.nd) dgs_nil)))
    (dss_cons (ds_set 4 sc__law_shown.nd (de_lst da_nil))
    (dss_cons (ds_for (ix := [5, 6]) (passes_of rfl) rfl (di_seq (df_var 3)) (dg_tup (n := 2) rfl (dgs_cons (dg_name 5 sc__law_shown.nd) (dgs_cons (dg_name 6 sc__law_shown.nd) dgs_nil)))
    (dss_one (ds_if (dt_eq (room_eq hr) (dv_df (df_var 6)) (dv_df (df_tup da_nil)))
    (dss_one (ds_app 4 (de_df (df_var 5))))
    (dss_one (ds_app 4 (de_add (dl_de (de_add (dl_de (de_add (dl_df (df_var 5)) (dl_df df_str))) (dl_df (df_join (dv_df df_str) (dl_df (df_var 6)))))) (dl_df df_str)))))))
    (dss_one (ds_app 1 (de_add (dl_de (de_add (dl_df (df_var 2)) (dl_df df_str))) (dl_df (df_join (dv_df df_str) (dl_dp (dp_var 4))))))))))
    (dss_one (ds_ret (de_df (df_join (dv_df df_str) (dl_dp (dp_var 1))))))))
theorem ok__law_joined (T : Txt K mg f fd cl) (G : Fns P w K mg base f fd n) : FnOk P w K mg base (L2.CX P w) (n + 1) (f 16) (fd 16) ["_law_row", "_law_blanks"] (spM ⟨K, w⟩ mg 2 (mir (n + 1) 16)) :=
  mk_fn (l := 3) (fb := b__law_joined (mir n)) T.F__law_joined sc__law_joined rfl (fun _ => rfl) fun cdv A outer s H E hr =>
    (dss_cons (ds_set 2 sc__law_joined.nd (de_df df_str))
    (dss_cons (ds_for (ix := [3]) (passes_of rfl) rfl (di_range1 rfl T.z_range (da_cons (df_de (de_len rfl T.z_len (dal_cons (dl_df (df_var 0)) dal_nil))) da_nil)) (dg_name 3 sc__law_joined.nd)
    (dss_cons (ds_set 4 sc__law_joined.nd (de_df (df_de (de_slice (dl_df df_str) do_none (do_some (dv_df (df_var 1)))))))
    (dss_cons (ds_if (dt_dw (dw_and (dt_gt (dv_df (df_var 3)) (dv_df df_int)) (dw_and (dt_eq (room_eq hr) (dv_df (df_var 1)) (dv_df df_int)) (dw_and1 (dt_gt (dv_de (de_len rfl T.z_len (dal_cons (dl_de (de_add (dl_df (df_ix (dl_df (df_var 0)) (dv_df (df_var 3)))) (dl_df (df_ix (dl_df (df_var 0)) (dv_df (df_sub (dv_df (df_var 3)) (dv_df df_int))))))) dal_nil))) (dv_df df_int))))))
    (dss_one (ds_if (dt_dw (dw_and (dt_subNotIn (dv_df (df_ix (dl_df (df_var 0)) (dv_df (df_var 3)))) (dv_df df_str)) (dw_and1 (dt_subNotIn (dv_df (df_ix (dl_df (df_var 0)) (dv_df (df_sub (dv_df (df_var 3)) (dv_df df_int))))) (dv_df df_str)))))
    (dss_one (ds_set 4 sc__law_joined.nd (de_df df_str)))
    dss_nil))
    dss_nil)
    (dss_one (ds_set 2 sc__law_joined.nd (de_df (df_de (de_add (dl_de (de_add (dl_df (df_var 2)) (dl_df (df_var 4)))) (dl_df (df_ix (dl_df (df_var 0)) (dv_df (df_var 3))))))))))))
    (dss_one (ds_ret (de_df (df_var 2))))))
theorem ok__law_kinds (T : Txt K mg f fd cl) (G : Fns P w K mg base f fd n) : FnOk P w K mg base (L2.CX P w) (n + 1) (f 17) (fd 17) ["_law_found", "_law_due"] (spM ⟨K, w⟩ mg 2 (mir (n + 1) 17)) :=
  mk_fn (l := 3) (fb := b__law_kinds (mir n)) T.F__law_kinds sc__law_kinds rfl (fun _ => rfl) fun cdv A outer s H E hr =>
    (dss_cons (ds_if (dt_dw (dw_or (dt_not (dt_val (dv_df (df_isi (dv_df (df_var 0)) rfl T.z_isinstance rfl T.z_list rfl)))) (dw_or1 (dt_ne (room_eq hr) (dv_df (df_var 0)) (dv_df (df_var 1))))))
    (dss_one (ds_ret (de_df df_bl)))
    dss_nil)
    (dss_cons (ds_for (ix := [2, 3]) (passes_of rfl) rfl (di_seq (df_var 0)) (dg_tup (n := 2) rfl (dgs_cons (dg_name 2 sc__law_kinds.nd) (dgs_cons (dg_name 3 sc__law_kinds.nd) dgs_nil)))
    (dss_cons (ds_if (dt_not (dt_val (dv_df (df_isi (dv_df (df_var 3)) rfl T.z_isinstance rfl T.z_list rfl))))
    (dss_one (ds_ret (de_df df_bl)))
    dss_nil)
    (dss_one (ds_for (ix := [4]) (passes_of rfl) rfl (di_seq (df_var 3)) (dg_name 4 sc__law_kinds.nd)
    (dss_one (ds_if (dt_dw (dw_or (dt_not (dt_val (dv_df (df_isi (dv_df (df_var 4)) rfl T.z_isinstance rfl T.z_tuple rfl)))) (dw_or1 (dt_not (dt_val (dv_df (df_isi (dv_df (df_ix (dl_df (df_var 4)) (dv_df df_int))) rfl T.z_isinstance rfl T.z_tuple rfl)))))))
    (dss_one (ds_ret (de_df df_bl)))
    dss_nil))))))
    (dss_one (ds_ret (de_df df_bl)))))
theorem ok_law (T : Txt K mg f fd cl) (G : Fns P w K mg base f fd n) : FnOk P w K mg base (L2.CX P w) (n + 1) (f 18) (fd 18) ["_law_script"] (spM ⟨K, w⟩ mg 1 (mir (n + 1) 18)) :=
  mk_fn (l := 7) (fb := b_law (mir n)) T.F_law sc_law rfl (fun _ => rfl) fun cdv A outer s H E hr =>
    (dss_cons (ds_set 1 sc_law.nd (de_df (df_de (de_call G.g__law_wood (takes_of rfl rfl rfl rfl) hr rfl T.M__law_wood T.F__law_wood.kp T.B__law_wood (da_cons (df_var 0) da_nil) (aCons_len (fun _ _ h => aNil_len h))))))
    (dss_cons (ds_setLcF 2 (own := [("_law_kind", 3), ("_law_rows", 4)]) (ix := [3, 4]) rfl sc_law.nd (di_seq (df_var 1)) (blkOk_by (N := N_law) (sc := defScope s_law) (by decide +kernel)) (fun _ _ _ _ _ => (dg_tup (n := 2) rfl (dgs_cons (dg_name 3 sc_law.nd) (dgs_cons (dg_name 4 sc_law.nd) dgs_nil)))) (fun _ _ _ _ _ => dts_nil) (fun _ _ _ _ _ => (de_df (df_tup (da_cons (df_var 3) (da_cons (df_de (de_sorted (room_eq hr) rfl T.z_sorted (dal_cons (dl_df (df_var 4)) dal_nil))) da_nil))))))
    (dss_cons (ds_set 5 sc_law.nd (de_df (df_de (de_call G.g__law_parts (takes_of rfl rfl rfl rfl) hr rfl T.M__law_parts T.F__law_parts.kp T.B__law_parts (da_cons (df_var 1) da_nil) (aCons_len (fun _ _ h => aNil_len h))))))
    (dss_cons (ds_set 6 sc_law.nd (de_call G.g_read_wood (takes_of rfl rfl rfl rfl) hr rfl T.M_read_wood T.F_read_wood.kp T.B_read_wood (da_cons (df_de (de_call G.g__law_joined (takes_of rfl rfl rfl rfl) hr rfl T.M__law_joined T.F__law_joined.kp T.B__law_joined (da_cons (df_var 5) (da_cons (df_de (de_add (dl_df df_int) (dl_df (df_mod (dv_df (df_div (dv_de (de_call G.g__law_cell_at (takes_of rfl rfl rfl rfl) hr rfl T.M__law_cell_at T.F__law_cell_at.kp T.B__law_cell_at (da_cons (df_var 0) (da_cons df_int da_nil)) (aCons_len (aCons_len (fun _ _ h => aNil_len h))))) (dv_df df_int))) (dv_df df_int))))) da_nil)) (aCons_len (aCons_len (fun _ _ h => aNil_len h))))) da_nil) (aCons_len (fun _ _ h => aNil_len h))))
    (dss_cons (ds_thaw 6 [] [0, 1, 2, 3, 4, 5, 7] (ds_if (dt_dw (dw_or (dt_not (dt_val (dv_de (de_call G.g__law_kinds (takes_of rfl rfl rfl rfl) hr rfl T.M__law_kinds T.F__law_kinds.kp T.B__law_kinds (da_cons (df_var 6) (da_cons (df_var 2) da_nil)) (aCons_len (aCons_len (fun _ _ h => aNil_len h))))))) (dw_or1 (dt_ne (room_eq hr) (dv_de (de_call G.g_show_wood (takes_of rfl rfl rfl rfl) hr rfl T.M_show_wood T.F_show_wood.kp T.B_show_wood (da_cons (df_var 6) da_nil) (aCons_len (fun _ _ h => aNil_len h)))) (dv_de (de_call G.g__law_shown (takes_of rfl rfl rfl rfl) hr rfl T.M__law_shown T.F__law_shown.kp T.B__law_shown (da_cons (df_var 2) da_nil) (aCons_len (fun _ _ h => aNil_len h))))))))
    (dss_one (ds_ret (de_df df_bl)))
    dss_nil))
    (dss_cons (ds_papp (dpt_ix (dpt_ix (dpt_var 6) (dv_df df_int)) (dv_df df_int)) (de_df (df_tup (da_cons df_str (da_cons (df_tup da_nil) da_nil)))))
    (dss_cons (ds_app 6 (de_df (df_tup (da_cons df_str (da_cons (df_de (de_lst da_nil)) da_nil)))))
    (dss_cons (ds_if (dt_not (dt_val (dv_de (de_call G.g__law_kinds (takes_of rfl rfl rfl rfl) hr rfl T.M__law_kinds T.F__law_kinds.kp T.B__law_kinds (da_cons (df_de (de_call G.g_read_wood (takes_of rfl rfl rfl rfl) hr rfl T.M_read_wood T.F_read_wood.kp T.B_read_wood (da_cons (df_de (de_call G.g__law_joined (takes_of rfl rfl rfl rfl) hr rfl T.M__law_joined T.F__law_joined.kp T.B__law_joined (da_cons (df_var 5) (da_cons df_int da_nil)) (aCons_len (aCons_len (fun _ _ h => aNil_len h))))) da_nil) (aCons_len (fun _ _ h => aNil_len h)))) (da_cons (df_var 2) da_nil)) (aCons_len (aCons_len (fun _ _ h => aNil_len h)))))))
    (dss_one (ds_ret (de_df df_bl)))
    dss_nil)
    (dss_cons (ds_set 7 sc_law.nd (de_df (df_de (de_call G.g_read_wood (takes_of rfl rfl rfl rfl) hr rfl T.M_read_wood T.F_read_wood.kp T.B_read_wood (da_cons (df_de (de_call G.g__law_shown (takes_of rfl rfl rfl rfl) hr rfl T.M__law_shown T.F__law_shown.kp T.B__law_shown (da_cons (df_var 2) da_nil) (aCons_len (fun _ _ h => aNil_len h)))) da_nil) (aCons_len (fun _ _ h => aNil_len h))))))
    (dss_one (ds_ret (de_df (df_and (dv_de (de_call G.g__law_kinds (takes_of rfl rfl rfl rfl) hr rfl T.M__law_kinds T.F__law_kinds.kp T.B__law_kinds (da_cons (df_var 7) (da_cons (df_var 2) da_nil)) (aCons_len (aCons_len (fun _ _ h => aNil_len h))))) (df_one (df_isi (dv_de (de_call G.g_show_wood (takes_of rfl rfl rfl rfl) hr rfl T.M_show_wood T.F_show_wood.kp T.B_show_wood (da_cons (df_var 7) da_nil) (aCons_len (fun _ _ h => aNil_len h)))) rfl T.z_isinstance rfl T.z_str rfl)))))))))))))))
theorem fn_none {f : Addr} {fd : FuncData} {ps : List Str} {k i : Nat} : FnOk P w K mg base (L2.CX P w) 0 f fd ps (spM ⟨K, w⟩ mg k (mir 0 i)) := by
  have no : ∀ vs H Q E, ¬ spM ⟨K, w⟩ mg k (mir 0 i) vs H Q E := fun vs H Q E ⟨F, ds, _, _, _, h⟩ => h
  exact ⟨fun vs H Q E h => absurd h (no vs H Q E), fun A outer s H args us vs Q E _ _ _ _ h => absurd h (no vs H Q E)⟩
theorem all_fns (T : Txt K mg f fd cl) : ∀ n, Fns P w K mg base f fd n
  | 0 => ⟨fn_none, fn_none, fn_none, fn_none, fn_none, fn_none, fn_none, fn_none, fn_none, fn_none, fn_none, fn_none, fn_none, fn_none, fn_none, fn_none, fn_none, fn_none, fn_none⟩
  | n + 1 => by
    have G := all_fns T n
    exact ⟨ok_run_end T G, ok_word_end T G, ok_words T G, ok_is_name T G, ok_parted T G, ok_row_by T G, ok_kind_by T G, ok_look_over T G, ok_read_wood T G, ok_show_row T G, ok_show_wood T G, ok__law_cell_at T G, ok__law_names T G, ok__law_wood T G, ok__law_parts T G, ok__law_shown T G, ok__law_joined T G, ok__law_kinds T G, ok_law T G⟩
end
def pick {α : Type} (z : α) : List α → Nat → α
  | [], _ => z
  | x :: _, 0 => x
  | _ :: xs, n + 1 => pick z xs n
theorem all_mk (L : Nat) {l : PySem.W.OpenLaw} {w : World} {K : PySem.W.Frag} {h : Heap} {mg : Str → Option Value} {fa : Addr} (X : K.In h) (G : h.Ns PySem.mainGlobals mg) (hfa : mg "law" = some (.ref fa))
    {od0 an0 : Option Addr} {sl0 : Array (Option Value)} {oc0 kV0 dc0 pm0 cd0 ct0 : Value} {f0 : Addr}
    (a0 : PySem.W.nsIn K PySem.mainGlobals "run_end" = some (some (.ref f0))) (l0 : K.lookup f0 = some ⟨oc0, od0, .func (PySem.W.fnOf "run_end" "run_end" (defArgs s_run_end) (defBody s_run_end) (defScope s_run_end) .none kV0 dc0 pm0 an0 cd0 ct0), sl0⟩) (c0 : PySem.W.codeIn K cd0 "run_end" = true) (k0 : PySem.W.keepIn K (.ref f0) = true)
    {od1 an1 : Option Addr} {sl1 : Array (Option Value)} {oc1 kV1 dc1 pm1 cd1 ct1 : Value} {f1 : Addr}
    (a1 : PySem.W.nsIn K PySem.mainGlobals "word_end" = some (some (.ref f1))) (l1 : K.lookup f1 = some ⟨oc1, od1, .func (PySem.W.fnOf "word_end" "word_end" (defArgs s_word_end) (defBody s_word_end) (defScope s_word_end) .none kV1 dc1 pm1 an1 cd1 ct1), sl1⟩) (c1 : PySem.W.codeIn K cd1 "word_end" = true) (k1 : PySem.W.keepIn K (.ref f1) = true)
    {od2 an2 : Option Addr} {sl2 : Array (Option Value)} {oc2 kV2 dc2 pm2 cd2 ct2 : Value} {f2 : Addr}
    (a2 : PySem.W.nsIn K PySem.mainGlobals "words" = some (some (.ref f2))) (l2 : K.lookup f2 = some ⟨oc2, od2, .func (PySem.W.fnOf "words" "words" (defArgs s_words) (defBody s_words) (defScope s_words) .none kV2 dc2 pm2 an2 cd2 ct2), sl2⟩) (c2 : PySem.W.codeIn K cd2 "words" = true) (k2 : PySem.W.keepIn K (.ref f2) = true)
    {od3 an3 : Option Addr} {sl3 : Array (Option Value)} {oc3 kV3 dc3 pm3 cd3 ct3 : Value} {f3 : Addr}
    (a3 : PySem.W.nsIn K PySem.mainGlobals "is_name" = some (some (.ref f3))) (l3 : K.lookup f3 = some ⟨oc3, od3, .func (PySem.W.fnOf "is_name" "is_name" (defArgs s_is_name) (defBody s_is_name) (defScope s_is_name) .none kV3 dc3 pm3 an3 cd3 ct3), sl3⟩) (c3 : PySem.W.codeIn K cd3 "is_name" = true) (k3 : PySem.W.keepIn K (.ref f3) = true)
    {od4 an4 : Option Addr} {sl4 : Array (Option Value)} {oc4 kV4 dc4 pm4 cd4 ct4 : Value} {f4 : Addr}
    (a4 : PySem.W.nsIn K PySem.mainGlobals "parted" = some (some (.ref f4))) (l4 : K.lookup f4 = some ⟨oc4, od4, .func (PySem.W.fnOf "parted" "parted" (defArgs s_parted) (defBody s_parted) (defScope s_parted) .none kV4 dc4 pm4 an4 cd4 ct4), sl4⟩) (c4 : PySem.W.codeIn K cd4 "parted" = true) (k4 : PySem.W.keepIn K (.ref f4) = true)
    {od5 an5 : Option Addr} {sl5 : Array (Option Value)} {oc5 kV5 dc5 pm5 cd5 ct5 : Value} {f5 : Addr}
    (a5 : PySem.W.nsIn K PySem.mainGlobals "row_by" = some (some (.ref f5))) (l5 : K.lookup f5 = some ⟨oc5, od5, .func (PySem.W.fnOf "row_by" "row_by" (defArgs s_row_by) (defBody s_row_by) (defScope s_row_by) .none kV5 dc5 pm5 an5 cd5 ct5), sl5⟩) (c5 : PySem.W.codeIn K cd5 "row_by" = true) (k5 : PySem.W.keepIn K (.ref f5) = true)
    {od6 an6 : Option Addr} {sl6 : Array (Option Value)} {oc6 kV6 dc6 pm6 cd6 ct6 : Value} {f6 : Addr}
    (a6 : PySem.W.nsIn K PySem.mainGlobals "kind_by" = some (some (.ref f6))) (l6 : K.lookup f6 = some ⟨oc6, od6, .func (PySem.W.fnOf "kind_by" "kind_by" (defArgs s_kind_by) (defBody s_kind_by) (defScope s_kind_by) .none kV6 dc6 pm6 an6 cd6 ct6), sl6⟩) (c6 : PySem.W.codeIn K cd6 "kind_by" = true) (k6 : PySem.W.keepIn K (.ref f6) = true)
    {od7 an7 : Option Addr} {sl7 : Array (Option Value)} {oc7 kV7 dc7 pm7 cd7 ct7 : Value} {f7 : Addr}
    (a7 : PySem.W.nsIn K PySem.mainGlobals "look_over" = some (some (.ref f7))) (l7 : K.lookup f7 = some ⟨oc7, od7, .func (PySem.W.fnOf "look_over" "look_over" (defArgs s_look_over) (defBody s_look_over) (defScope s_look_over) .none kV7 dc7 pm7 an7 cd7 ct7), sl7⟩) (c7 : PySem.W.codeIn K cd7 "look_over" = true) (k7 : PySem.W.keepIn K (.ref f7) = true)
    {od8 an8 : Option Addr} {sl8 : Array (Option Value)} {oc8 kV8 dc8 pm8 cd8 ct8 : Value} {f8 : Addr}
    (a8 : PySem.W.nsIn K PySem.mainGlobals "read_wood" = some (some (.ref f8))) (l8 : K.lookup f8 = some ⟨oc8, od8, .func (PySem.W.fnOf "read_wood" "read_wood" (defArgs s_read_wood) (defBody s_read_wood) (defScope s_read_wood) .none kV8 dc8 pm8 an8 cd8 ct8), sl8⟩) (c8 : PySem.W.codeIn K cd8 "read_wood" = true) (k8 : PySem.W.keepIn K (.ref f8) = true)
    {od9 an9 : Option Addr} {sl9 : Array (Option Value)} {oc9 kV9 dc9 pm9 cd9 ct9 : Value} {f9 : Addr}
    (a9 : PySem.W.nsIn K PySem.mainGlobals "show_row" = some (some (.ref f9))) (l9 : K.lookup f9 = some ⟨oc9, od9, .func (PySem.W.fnOf "show_row" "show_row" (defArgs s_show_row) (defBody s_show_row) (defScope s_show_row) .none kV9 dc9 pm9 an9 cd9 ct9), sl9⟩) (c9 : PySem.W.codeIn K cd9 "show_row" = true) (k9 : PySem.W.keepIn K (.ref f9) = true)
    {od10 an10 : Option Addr} {sl10 : Array (Option Value)} {oc10 kV10 dc10 pm10 cd10 ct10 : Value} {f10 : Addr}
    (a10 : PySem.W.nsIn K PySem.mainGlobals "show_wood" = some (some (.ref f10))) (l10 : K.lookup f10 = some ⟨oc10, od10, .func (PySem.W.fnOf "show_wood" "show_wood" (defArgs s_show_wood) (defBody s_show_wood) (defScope s_show_wood) .none kV10 dc10 pm10 an10 cd10 ct10), sl10⟩) (c10 : PySem.W.codeIn K cd10 "show_wood" = true) (k10 : PySem.W.keepIn K (.ref f10) = true)
    {od11 an11 : Option Addr} {sl11 : Array (Option Value)} {oc11 kV11 dc11 pm11 cd11 ct11 : Value} {f11 : Addr}
    (a11 : PySem.W.nsIn K PySem.mainGlobals "_law_cell_at" = some (some (.ref f11))) (l11 : K.lookup f11 = some ⟨oc11, od11, .func (PySem.W.fnOf "_law_cell_at" "_law_cell_at" (defArgs s__law_cell_at) (defBody s__law_cell_at) (defScope s__law_cell_at) .none kV11 dc11 pm11 an11 cd11 ct11), sl11⟩) (c11 : PySem.W.codeIn K cd11 "_law_cell_at" = true) (k11 : PySem.W.keepIn K (.ref f11) = true)
    {od12 an12 : Option Addr} {sl12 : Array (Option Value)} {oc12 kV12 dc12 pm12 cd12 ct12 : Value} {f12 : Addr}
    (a12 : PySem.W.nsIn K PySem.mainGlobals "_law_names" = some (some (.ref f12))) (l12 : K.lookup f12 = some ⟨oc12, od12, .func (PySem.W.fnOf "_law_names" "_law_names" (defArgs s__law_names) (defBody s__law_names) (defScope s__law_names) .none kV12 dc12 pm12 an12 cd12 ct12), sl12⟩) (c12 : PySem.W.codeIn K cd12 "_law_names" = true) (k12 : PySem.W.keepIn K (.ref f12) = true)
    {od13 an13 : Option Addr} {sl13 : Array (Option Value)} {oc13 kV13 dc13 pm13 cd13 ct13 : Value} {f13 : Addr}
    (a13 : PySem.W.nsIn K PySem.mainGlobals "_law_wood" = some (some (.ref f13))) (l13 : K.lookup f13 = some ⟨oc13, od13, .func (PySem.W.fnOf "_law_wood" "_law_wood" (defArgs s__law_wood) (defBody s__law_wood) (defScope s__law_wood) .none kV13 dc13 pm13 an13 cd13 ct13), sl13⟩) (c13 : PySem.W.codeIn K cd13 "_law_wood" = true) (k13 : PySem.W.keepIn K (.ref f13) = true)
    {od14 an14 : Option Addr} {sl14 : Array (Option Value)} {oc14 kV14 dc14 pm14 cd14 ct14 : Value} {f14 : Addr}
    (a14 : PySem.W.nsIn K PySem.mainGlobals "_law_parts" = some (some (.ref f14))) (l14 : K.lookup f14 = some ⟨oc14, od14, .func (PySem.W.fnOf "_law_parts" "_law_parts" (defArgs s__law_parts) (defBody s__law_parts) (defScope s__law_parts) .none kV14 dc14 pm14 an14 cd14 ct14), sl14⟩) (c14 : PySem.W.codeIn K cd14 "_law_parts" = true) (k14 : PySem.W.keepIn K (.ref f14) = true)
    {od15 an15 : Option Addr} {sl15 : Array (Option Value)} {oc15 kV15 dc15 pm15 cd15 ct15 : Value} {f15 : Addr}
    (a15 : PySem.W.nsIn K PySem.mainGlobals "_law_shown" = some (some (.ref f15))) (l15 : K.lookup f15 = some ⟨oc15, od15, .func (PySem.W.fnOf "_law_shown" "_law_shown" (defArgs s__law_shown) (defBody s__law_shown) (defScope s__law_shown) .none kV15 dc15 pm15 an15 cd15 ct15), sl15⟩) (c15 : PySem.W.codeIn K cd15 "_law_shown" = true) (k15 : PySem.W.keepIn K (.ref f15) = true)
    {od16 an16 : Option Addr} {sl16 : Array (Option Value)} {oc16 kV16 dc16 pm16 cd16 ct16 : Value} {f16 : Addr}
    (a16 : PySem.W.nsIn K PySem.mainGlobals "_law_joined" = some (some (.ref f16))) (l16 : K.lookup f16 = some ⟨oc16, od16, .func (PySem.W.fnOf "_law_joined" "_law_joined" (defArgs s__law_joined) (defBody s__law_joined) (defScope s__law_joined) .none kV16 dc16 pm16 an16 cd16 ct16), sl16⟩) (c16 : PySem.W.codeIn K cd16 "_law_joined" = true) (k16 : PySem.W.keepIn K (.ref f16) = true)
    {od17 an17 : Option Addr} {sl17 : Array (Option Value)} {oc17 kV17 dc17 pm17 cd17 ct17 : Value} {f17 : Addr}
    (a17 : PySem.W.nsIn K PySem.mainGlobals "_law_kinds" = some (some (.ref f17))) (l17 : K.lookup f17 = some ⟨oc17, od17, .func (PySem.W.fnOf "_law_kinds" "_law_kinds" (defArgs s__law_kinds) (defBody s__law_kinds) (defScope s__law_kinds) .none kV17 dc17 pm17 an17 cd17 ct17), sl17⟩) (c17 : PySem.W.codeIn K cd17 "_law_kinds" = true) (k17 : PySem.W.keepIn K (.ref f17) = true)
    {od18 an18 : Option Addr} {sl18 : Array (Option Value)} {oc18 kV18 dc18 pm18 cd18 ct18 : Value} {f18 : Addr}
    (a18 : PySem.W.nsIn K PySem.mainGlobals "law" = some (some (.ref f18))) (l18 : K.lookup f18 = some ⟨oc18, od18, .func (PySem.W.fnOf "law" "law" (defArgs s_law) (defBody s_law) (defScope s_law) .none kV18 dc18 pm18 an18 cd18 ct18), sl18⟩) (c18 : PySem.W.codeIn K cd18 "law" = true) (k18 : PySem.W.keepIn K (.ref f18) = true)
    (z_int : PySem.W.nsIn K PySem.mainGlobals "int" = some none)
    (z_isinstance : PySem.W.nsIn K PySem.mainGlobals "isinstance" = some none)
    (z_len : PySem.W.nsIn K PySem.mainGlobals "len" = some none)
    (z_list : PySem.W.nsIn K PySem.mainGlobals "list" = some none)
    (z_min : PySem.W.nsIn K PySem.mainGlobals "min" = some none)
    (z_range : PySem.W.nsIn K PySem.mainGlobals "range" = some none)
    (z_set : PySem.W.nsIn K PySem.mainGlobals "set" = some none)
    (z_sorted : PySem.W.nsIn K PySem.mainGlobals "sorted" = some none)
    (z_str : PySem.W.nsIn K PySem.mainGlobals "str" = some none)
    (z_sum : PySem.W.nsIn K PySem.mainGlobals "sum" = some none)
    (z_tuple : PySem.W.nsIn K PySem.mainGlobals "tuple" = some none)
    {C_NoText : Addr} (e_NoText : PySem.W.nsIn K PySem.mainGlobals "NoText" = some (some (.ref C_NoText)))
    {C_NoWood : Addr} (e_NoWood : PySem.W.nsIn K PySem.mainGlobals "NoWood" = some (some (.ref C_NoWood)))
    (xb_NoText : PySem.W.subIn K (.ref C_NoText) (.type "BaseException") = some true)
    (xt_NoText : PySem.W.typeIn K (.ref C_NoText) = some (.type "type"))
    (xd_NoText : PySem.W.hasDictIn K C_NoText = true)
    (xs_NoText : PySem.W.subIn K (.ref C_NoText) (.ref C_NoText) = some true)
    (xb_NoWood : PySem.W.subIn K (.ref C_NoWood) (.type "BaseException") = some true)
    (xt_NoWood : PySem.W.typeIn K (.ref C_NoWood) = some (.type "type"))
    (xd_NoWood : PySem.W.hasDictIn K C_NoWood = true)
    (xs_NoWood : PySem.W.subIn K (.ref C_NoWood) (.ref C_NoWood) = some true)
    (xe_NoText : PySem.W.excIn K C_NoText [.type "ValueError", .type "Exception", .type "BaseException", .type "object"] "ValueError.__new__" = true)
    (xk_NoText : PySem.W.keepIn K (.ref C_NoText) = true)
    (xe_NoWood : PySem.W.excIn K C_NoWood [.type "ValueError", .type "Exception", .type "BaseException", .type "object"] "ValueError.__new__" = true)
    (xk_NoWood : PySem.W.keepIn K (.ref C_NoWood) = true)
    {u_FIGURES : Value} (g_FIGURES : PySem.W.nsIn K PySem.mainGlobals "FIGURES" = some (some u_FIGURES)) (r_FIGURES : RelV (.str "0123456789") u_FIGURES)
    {u_LETTERS : Value} (g_LETTERS : PySem.W.nsIn K PySem.mainGlobals "LETTERS" = some (some u_LETTERS)) (r_LETTERS : RelV (.str "abcdefghijklmnopqrstuvwxyz") u_LETTERS)
    {u_SIGNS : Value} (g_SIGNS : PySem.W.nsIn K PySem.mainGlobals "SIGNS" = some (some u_SIGNS)) (r_SIGNS : RelV (.str "();:=|*") u_SIGNS) :
    ∃ fd : FuncData, (∀ (s : Shared) (v : Value), BindsTo s fd ⟨[v], []⟩ [("_law_script", v)]) ∧ ∀ base : Heap, K.In base → base.Ns PySem.mainGlobals mg → FnOk l.prog w K mg base (L2.CX l.prog w) L fa fd ["_law_script"] (spM ⟨K, w⟩ mg 1 (mir L 18)) := by
  have e := hfa.symm.trans (PySem.W.mg_of X G a18)
  cases e
  have F0 := fun_mk (st := s_run_end) l0 c0 k0
  have F1 := fun_mk (st := s_word_end) l1 c1 k1
  have F2 := fun_mk (st := s_words) l2 c2 k2
  have F3 := fun_mk (st := s_is_name) l3 c3 k3
  have F4 := fun_mk (st := s_parted) l4 c4 k4
  have F5 := fun_mk (st := s_row_by) l5 c5 k5
  have F6 := fun_mk (st := s_kind_by) l6 c6 k6
  have F7 := fun_mk (st := s_look_over) l7 c7 k7
  have F8 := fun_mk (st := s_read_wood) l8 c8 k8
  have F9 := fun_mk (st := s_show_row) l9 c9 k9
  have F10 := fun_mk (st := s_show_wood) l10 c10 k10
  have F11 := fun_mk (st := s__law_cell_at) l11 c11 k11
  have F12 := fun_mk (st := s__law_names) l12 c12 k12
  have F13 := fun_mk (st := s__law_wood) l13 c13 k13
  have F14 := fun_mk (st := s__law_parts) l14 c14 k14
  have F15 := fun_mk (st := s__law_shown) l15 c15 k15
  have F16 := fun_mk (st := s__law_joined) l16 c16 k16
  have F17 := fun_mk (st := s__law_kinds) l17 c17 k17
  have F18 := fun_mk (st := s_law) l18 c18 k18
  have T : Txt K mg (pick 0 [f0, f1, f2, f3, f4, f5, f6, f7, f8, f9, f10, f11, f12, f13, f14, f15, f16, f17, fa]) (pick (PySem.W.fnOf "law" "law" (defArgs s_law) (defBody s_law) (defScope s_law) .none kV18 dc18 pm18 an18 cd18 ct18) [PySem.W.fnOf "run_end" "run_end" (defArgs s_run_end) (defBody s_run_end) (defScope s_run_end) .none kV0 dc0 pm0 an0 cd0 ct0, PySem.W.fnOf "word_end" "word_end" (defArgs s_word_end) (defBody s_word_end) (defScope s_word_end) .none kV1 dc1 pm1 an1 cd1 ct1, PySem.W.fnOf "words" "words" (defArgs s_words) (defBody s_words) (defScope s_words) .none kV2 dc2 pm2 an2 cd2 ct2, PySem.W.fnOf "is_name" "is_name" (defArgs s_is_name) (defBody s_is_name) (defScope s_is_name) .none kV3 dc3 pm3 an3 cd3 ct3, PySem.W.fnOf "parted" "parted" (defArgs s_parted) (defBody s_parted) (defScope s_parted) .none kV4 dc4 pm4 an4 cd4 ct4, PySem.W.fnOf "row_by" "row_by" (defArgs s_row_by) (defBody s_row_by) (defScope s_row_by) .none kV5 dc5 pm5 an5 cd5 ct5, PySem.W.fnOf "kind_by" "kind_by" (defArgs s_kind_by) (defBody s_kind_by) (defScope s_kind_by) .none kV6 dc6 pm6 an6 cd6 ct6, PySem.W.fnOf "look_over" "look_over" (defArgs s_look_over) (defBody s_look_over) (defScope s_look_over) .none kV7 dc7 pm7 an7 cd7 ct7, PySem.W.fnOf "read_wood" "read_wood" (defArgs s_read_wood) (defBody s_read_wood) (defScope s_read_wood) .none kV8 dc8 pm8 an8 cd8 ct8, PySem.W.fnOf "show_row" "show_row" (defArgs s_show_row) (defBody s_show_row) (defScope s_show_row) .none kV9 dc9 pm9 an9 cd9 ct9, PySem.W.fnOf "show_wood" "show_wood" (defArgs s_show_wood) (defBody s_show_wood) (defScope s_show_wood) .none kV10 dc10 pm10 an10 cd10 ct10, PySem.W.fnOf "_law_cell_at" "_law_cell_at" (defArgs s__law_cell_at) (defBody s__law_cell_at) (defScope s__law_cell_at) .none kV11 dc11 pm11 an11 cd11 ct11, PySem.W.fnOf "_law_names" "_law_names" (defArgs s__law_names) (defBody s__law_names) (defScope s__law_names) .none kV12 dc12 pm12 an12 cd12 ct12, PySem.W.fnOf "_law_wood" "_law_wood" (defArgs s__law_wood) (defBody s__law_wood) (defScope s__law_wood) .none kV13 dc13 pm13 an13 cd13 ct13, PySem.W.fnOf "_law_parts" "_law_parts" (defArgs s__law_parts) (defBody s__law_parts) (defScope s__law_parts) .none kV14 dc14 pm14 an14 cd14 ct14, PySem.W.fnOf "_law_shown" "_law_shown" (defArgs s__law_shown) (defBody s__law_shown) (defScope s__law_shown) .none kV15 dc15 pm15 an15 cd15 ct15, PySem.W.fnOf "_law_joined" "_law_joined" (defArgs s__law_joined) (defBody s__law_joined) (defScope s__law_joined) .none kV16 dc16 pm16 an16 cd16 ct16, PySem.W.fnOf "_law_kinds" "_law_kinds" (defArgs s__law_kinds) (defBody s__law_kinds) (defScope s__law_kinds) .none kV17 dc17 pm17 an17 cd17 ct17, PySem.W.fnOf "law" "law" (defArgs s_law) (defBody s_law) (defScope s_law) .none kV18 dc18 pm18 an18 cd18 ct18]) (pick 0 [C_NoText, C_NoWood]) := {
    F_run_end := F0,
    B_run_end := F0.binds (ps := ["text", "start", "signs"]) fun _ _ _ _ _ _ us hl => match us, hl with | [_, _, _], _ => rfl,
    M_run_end := PySem.W.mg_of X G a0,
    F_word_end := F1,
    B_word_end := F1.binds (ps := ["text", "start"]) fun _ _ _ _ _ _ us hl => match us, hl with | [_, _], _ => rfl,
    M_word_end := PySem.W.mg_of X G a1,
    F_words := F2,
    B_words := F2.binds (ps := ["text"]) fun _ _ _ _ _ _ us hl => match us, hl with | [_], _ => rfl,
    M_words := PySem.W.mg_of X G a2,
    F_is_name := F3,
    B_is_name := F3.binds (ps := ["word"]) fun _ _ _ _ _ _ us hl => match us, hl with | [_], _ => rfl,
    M_is_name := PySem.W.mg_of X G a3,
    F_parted := F4,
    B_parted := F4.binds (ps := ["row", "sign"]) fun _ _ _ _ _ _ us hl => match us, hl with | [_, _], _ => rfl,
    M_parted := PySem.W.mg_of X G a4,
    F_row_by := F5,
    B_row_by := F5.binds (ps := ["part"]) fun _ _ _ _ _ _ us hl => match us, hl with | [_], _ => rfl,
    M_row_by := PySem.W.mg_of X G a5,
    F_kind_by := F6,
    B_kind_by := F6.binds (ps := ["part"]) fun _ _ _ _ _ _ us hl => match us, hl with | [_], _ => rfl,
    M_kind_by := PySem.W.mg_of X G a6,
    F_look_over := F7,
    B_look_over := F7.binds (ps := ["wood"]) fun _ _ _ _ _ _ us hl => match us, hl with | [_], _ => rfl,
    M_look_over := PySem.W.mg_of X G a7,
    F_read_wood := F8,
    B_read_wood := F8.binds (ps := ["text"]) fun _ _ _ _ _ _ us hl => match us, hl with | [_], _ => rfl,
    M_read_wood := PySem.W.mg_of X G a8,
    F_show_row := F9,
    B_show_row := F9.binds (ps := ["row"]) fun _ _ _ _ _ _ us hl => match us, hl with | [_], _ => rfl,
    M_show_row := PySem.W.mg_of X G a9,
    F_show_wood := F10,
    B_show_wood := F10.binds (ps := ["wood"]) fun _ _ _ _ _ _ us hl => match us, hl with | [_], _ => rfl,
    M_show_wood := PySem.W.mg_of X G a10,
    F__law_cell_at := F11,
    B__law_cell_at := F11.binds (ps := ["_law_script", "_law_k"]) fun _ _ _ _ _ _ us hl => match us, hl with | [_, _], _ => rfl,
    M__law_cell_at := PySem.W.mg_of X G a11,
    F__law_names := F12,
    B__law_names := F12.binds (ps := ["_law_cell", "_law_where", "_law_lots"]) fun _ _ _ _ _ _ us hl => match us, hl with | [_, _, _], _ => rfl,
    M__law_names := PySem.W.mg_of X G a12,
    F__law_wood := F13,
    B__law_wood := F13.binds (ps := ["_law_script"]) fun _ _ _ _ _ _ us hl => match us, hl with | [_], _ => rfl,
    M__law_wood := PySem.W.mg_of X G a13,
    F__law_parts := F14,
    B__law_parts := F14.binds (ps := ["_law_wood_here"]) fun _ _ _ _ _ _ us hl => match us, hl with | [_], _ => rfl,
    M__law_parts := PySem.W.mg_of X G a14,
    F__law_shown := F15,
    B__law_shown := F15.binds (ps := ["_law_wood_here"]) fun _ _ _ _ _ _ us hl => match us, hl with | [_], _ => rfl,
    M__law_shown := PySem.W.mg_of X G a15,
    F__law_joined := F16,
    B__law_joined := F16.binds (ps := ["_law_row", "_law_blanks"]) fun _ _ _ _ _ _ us hl => match us, hl with | [_, _], _ => rfl,
    M__law_joined := PySem.W.mg_of X G a16,
    F__law_kinds := F17,
    B__law_kinds := F17.binds (ps := ["_law_found", "_law_due"]) fun _ _ _ _ _ _ us hl => match us, hl with | [_, _], _ => rfl,
    M__law_kinds := PySem.W.mg_of X G a17,
    F_law := F18,
    B_law := F18.binds (ps := ["_law_script"]) fun _ _ _ _ _ _ us hl => match us, hl with | [_], _ => rfl,
    M_law := PySem.W.mg_of X G a18,
    z_int := PySem.W.mg_none_of X G z_int,
    z_isinstance := PySem.W.mg_none_of X G z_isinstance,
    z_len := PySem.W.mg_none_of X G z_len,
    z_list := PySem.W.mg_none_of X G z_list,
    z_min := PySem.W.mg_none_of X G z_min,
    z_range := PySem.W.mg_none_of X G z_range,
    z_set := PySem.W.mg_none_of X G z_set,
    z_sorted := PySem.W.mg_none_of X G z_sorted,
    z_str := PySem.W.mg_none_of X G z_str,
    z_sum := PySem.W.mg_none_of X G z_sum,
    z_tuple := PySem.W.mg_none_of X G z_tuple,
    k_FIGURES := ⟨u_FIGURES, PySem.W.mg_of X G g_FIGURES, r_FIGURES⟩,
    k_LETTERS := ⟨u_LETTERS, PySem.W.mg_of X G g_LETTERS, r_LETTERS⟩,
    k_SIGNS := ⟨u_SIGNS, PySem.W.mg_of X G g_SIGNS, r_SIGNS⟩,
    cx_NoText := ⟨PySem.W.mg_of X G e_NoText, xe_NoText, xk_NoText, xb_NoText, xt_NoText⟩,
    cx_NoWood := ⟨PySem.W.mg_of X G e_NoWood, xe_NoWood, xk_NoWood, xb_NoWood, xt_NoWood⟩ }
  refine ⟨PySem.W.fnOf "law" "law" (defArgs s_law) (defBody s_law) (defScope s_law) .none kV18 dc18 pm18 an18 cd18 ct18, fun s v => .of_eq rfl, fun base _ _ => ?_⟩
  exact (all_fns (P := l.prog) (w := w) (base := base) T L).g_law
end G
set_option Elab.async false
set_option linter.all false
set_option maxRecDepth 100000
set_option maxHeartbeats 4000000
namespace G
open PySem PySem.Spec L2 Mir
theorem take_head {α : Type} {xs ys : List α} : (xs ++ ys)[xs.length]? = ys.head? := by
  rw [List.getElem?_append_right (Nat.le_refl _)]
  simp [List.head?_eq_getElem?]
/-- run_end goes on while the signs are of the wanted ones -/
theorem run_loop (z : Str) (l : List Nat) (hl : l.length ≤ 1000000) (s : Int) : ∀ (a pre rest : List Nat) (n : Nat), l = pre ++ a ++ rest → (∀ c ∈ a, inS c z = true) → (∀ c, rest.head? = some c → inS c z = false) → a.length < n →
    whileN (tAndE (eB (eBin gLt (eVar 3) (eM (eCa gLen (aCons (eVar 0) aNil)) viewD)) asB) (eB (eBin gIn (eBin gIx (eVar 0) (eVar 3)) (eVar 2)) asB)) (sAug gAddA 3 (eC (.int 1))) n
      [some (.d (.str (tx l))), some (.d (.int s)), some (.d (.str z)), some (.d (.int (pre.length : Nat)))] = .nx [some (.d (.str (tx l))), some (.d (.int s)), some (.d (.str z)), some (.d (.int ((pre.length + a.length : Nat) : Int)))]
  | a, pre, rest, 0, _, _, _, h => by omega
  | [], pre, rest, n + 1, e, ha, hr, h => by
    have gl := gLen_tx l (by omega)
    unfold whileN
    cases rest with
    | nil =>
      have : l.length = pre.length := by rw [e]; simp
      simp [gl, this]
    | cons c rest =>
      have hc : l[pre.length]? = some c := by rw [e, List.append_nil, take_head]; rfl
      have hlt : pre.length < l.length := (List.getElem?_eq_some_iff.mp hc).1
      have ix := gIx_tx hc (by omega)
      have no := hr c rfl
      simp [gl, hlt, ix, gIn_tx, no]
  | c :: a, pre, rest, n + 1, e, ha, hr, h => by
    have gl := gLen_tx l (by omega)
    have hc : l[pre.length]? = some c := by rw [e, List.append_assoc, take_head]; rfl
    have hlt : pre.length < l.length := (List.getElem?_eq_some_iff.mp hc).1
    have ix := gIx_tx hc (by omega)
    have yes := ha c List.mem_cons_self
    have ih := run_loop z l hl s a (pre ++ [c]) rest n (by rw [e]; simp) (fun d hd => ha d (List.mem_cons_of_mem _ hd)) hr (by simp at h; omega)
    have e1 : (pre ++ [c]).length + a.length = pre.length + (c :: a).length := by simp; omega
    rw [e1] at ih
    have e2 : ((pre ++ [c]).length : Int) = (pre.length : Int) + 1 := by simp
    rw [e2] at ih
    unfold whileN
    simp [gl, hlt, ix, gIn_tx, yes] at ih ⊢
    exact ih
theorem run_end_ok (n : Nat) (z : Str) (l pre a rest : List Nat) (e : l = pre ++ a ++ rest) (hl : l.length ≤ 900000) (ha : ∀ c ∈ a, inS c z = true) (hr : ∀ c, rest.head? = some c → inS c z = false) :
    mir (n + 1) 0 [.str (tx l), .int (pre.length : Nat), .str z] = .ok (.d (.int ((pre.length + a.length : Nat) : Int))) := by
  rw [mir_run_end, run_run_end]
  have := run_loop z l (by omega) (pre.length : Nat) a pre rest 1000000 e ha hr (by have := congrArg List.length e; simp at this; omega)
  generalize (1000000 : Nat) = big at *
  simp [this]
/-- a word -/
def Wd (w : List Nat) : Prop := (∃ c, c ∈ sigs ∧ w = [c]) ∨ (w ≠ [] ∧ (∀ c ∈ w, isL c = true) ∧ w.length ≤ 8) ∨ (∃ c r, w = c :: r ∧ (∀ x ∈ w, isF x = true) ∧ w.length ≤ 60 ∧ (c = 48 → r = [])) ∨
  ∃ c r, w = 45 :: c :: r ∧ (∀ x ∈ c :: r, isF x = true) ∧ (c :: r).length ≤ 60 ∧ c ≠ 48
/-- what may follow it -/
def Fol (w rest : List Nat) : Prop := ∀ p x c, w = p ++ [x] → rest.head? = some c → (isL x = true → isL c = false) ∧ (isF x = true → isF c = false)
theorem wd_ne {w : List Nat} (h : Wd w) : w ≠ [] := by
  rcases h with ⟨c, _, rfl⟩ | ⟨h, _⟩ | ⟨c, r, rfl, _⟩ | ⟨c, r, rfl, _⟩ <;> simp_all
theorem isL_sig {c : Nat} (h : isL c = true) : c ∉ sigs ∧ isF c = false ∧ c ≠ 45 ∧ c ≠ 32 := by
  unfold isL at h
  simp only [Bool.and_eq_true, decide_eq_true_eq] at h
  refine ⟨fun z => ?_, ?_, by omega, by omega⟩
  · simp [sigs] at z; omega
  · unfold isF
    have : ¬ c ≤ 57 := by omega
    simp [this]
theorem isF_sig {c : Nat} (h : isF c = true) : c ∉ sigs ∧ isL c = false ∧ c ≠ 45 ∧ c ≠ 32 := by
  unfold isF at h
  simp only [Bool.and_eq_true, decide_eq_true_eq] at h
  refine ⟨fun z => ?_, ?_, by omega, by omega⟩
  · simp [sigs] at z; omega
  · unfold isL
    have : ¬ 97 ≤ c := by omega
    simp [this]
theorem gInt_bool (b : Bool) : gInt [.bool b] = some (.d (.int (if b then 1 else 0))) := rfl
theorem word_end_ok (n : Nat) (l pre w rest : List Nat) (hL : l = pre ++ w ++ rest) (hw : Wd w) (hf : Fol w rest) (hl : l.length ≤ 900000) :
    mir (n + 2) 1 [.str (tx l), .int (pre.length : Nat)] = .ok (.d (.int ((pre.length + w.length : Nat) : Int))) := by
  have hne := wd_ne hw
  obtain ⟨c0, w0, hw0⟩ : ∃ c0 w0, w = c0 :: w0 := by
    cases w with
    | nil => exact absurd rfl hne
    | cons c r => exact ⟨c, r, rfl⟩
  have hc : l[pre.length]? = some c0 := by rw [hL, List.append_assoc, take_head, hw0]; rfl
  have ix := gIx_tx hc (by omega)
  rw [mir_word_end, run_word_end]
  obtain ⟨p, x, hx⟩ : ∃ p x, w = p ++ [x] := by
    rcases List.eq_nil_or_concat w with e | ⟨p, x, e⟩
    · exact absurd e hne
    · exact ⟨p, x, by rw [e, List.concat_eq_append]⟩
  have xin : x ∈ w := by rw [hx]; simp
  have noL : isL c0 = false → mir (n + 1) 0 [.str (tx l), .int (pre.length : Nat), .str abc] = .ok (.d (.int ((pre.length : Nat) : Int))) := fun h => by
    have := run_end_ok n abc l pre [] (w ++ rest) (by rw [hL]; simp) hl (fun c h => by cases h) (fun c hc => by
      rw [hw0] at hc
      cases hc
      rw [inS_abc, h])
    simpa using this
  rcases hw with ⟨c, hs, rfl⟩ | ⟨_, hall, h8⟩ | ⟨c, r, rfl, hall, h60, h0⟩ | ⟨c, r, rfl, hall, h60, h0⟩
  · cases hw0
    have : inS c0 (Str.ofString "();:=|*") = true := by rw [inS_sigs]; exact decide_eq_true hs
    simp [ix, gIn_tx, this]
  · have hL0 := hall c0 (by rw [hw0]; exact List.mem_cons_self)
    have re := run_end_ok n abc l pre w rest hL hl (fun c hc => by rw [inS_abc]; exact hall c hc) (fun c hc => by
      rw [inS_abc, (hf p x c hx hc).1 (hall x xin)])
    have ns : inS c0 (Str.ofString "();:=|*") = false := by rw [inS_sigs]; exact decide_eq_false (isL_sig hL0).1
    have w1 : 0 < w.length := List.length_pos_iff.mpr hne
    have a1 : (pre.length : Int) < (pre.length : Int) + (w.length : Int) := by omega
    have a2 : ¬ (8 : Int) < (pre.length : Int) + (w.length : Int) - (pre.length : Int) := by omega
    simp only [Int.natCast_add] at re ⊢
    simp [ix, gIn_tx, ns, re, w1, a1, a2]
  · have hF0 := hall c List.mem_cons_self
    obtain ⟨q1, _⟩ := List.cons.inj hw0
    subst q1
    have re := run_end_ok n figs l pre (c :: r) rest hL hl (fun c hc => by rw [inS_figs]; exact hall c hc) (fun y hy => by
      rw [inS_figs, (hf p x y hx hy).2 (hall x xin)])
    have ns : inS c (Str.ofString "();:=|*") = false := by rw [inS_sigs]; exact decide_eq_false (isF_sig hF0).1
    have rl := noL (isF_sig hF0).2.1
    have nm : ¬ c = 45 := (isF_sig hF0).2.2.1
    obtain ⟨W, hW⟩ : ∃ W, W = (c :: r).length := ⟨_, rfl⟩
    have hW1 : 1 ≤ W := by rw [hW]; simp
    have h48 : c = 48 → W = 1 := fun h => by rw [hW, h0 h]; rfl
    rw [← hW] at re h60 ⊢
    have a1 : ¬ (60 : Int) < (pre.length : Int) + (W : Int) - (pre.length : Int) := by omega
    have a2 : ¬ (pre.length : Int) + (W : Int) = (pre.length : Int) := by omega
    simp only [Int.natCast_add] at re ⊢
    by_cases h : c = 48
    · have := h48 h
      subst this
      subst h
      have a3 : ¬ (1 : Int) < (pre.length : Int) + 1 - (pre.length : Int) := by omega
      simp only [Int.natCast_one] at re a1 a2 ⊢
      simp [ix, gIn_tx, ns, rl, minus_is, nought_is, gEq_tx, nm, gInt_bool, re, a1, a2, a3]
    · simp [ix, gIn_tx, ns, rl, minus_is, nought_is, gEq_tx, nm, gInt_bool, re, a1, a2, h]
  · obtain ⟨q1, _⟩ := List.cons.inj hw0
    subst q1
    have hF0 := hall c List.mem_cons_self
    have hc1 : l[pre.length + 1]? = some c := by
      rw [hL]
      have : (pre ++ [45]).length = pre.length + 1 := by simp
      rw [← this, show pre ++ 45 :: c :: r ++ rest = (pre ++ [45]) ++ (c :: r ++ rest) by simp, take_head]
      rfl
    have ix1 := gIx_tx hc1 (by omega)
    have xr : ∃ p', c :: r = p' ++ [x] := by
      cases p with
      | nil => simp at hx
      | cons q p =>
        rw [List.cons_append] at hx
        exact ⟨p, (List.cons.inj hx).2⟩
    obtain ⟨p', hx'⟩ := xr
    have xin' : x ∈ c :: r := by rw [hx']; simp
    have re := run_end_ok n figs l (pre ++ [45]) (c :: r) rest (by rw [hL]; simp) hl (fun c hc => by rw [inS_figs]; exact hall c hc) (fun y hy => by
      rw [inS_figs, (hf p x y hx hy).2 (hall x xin')])
    have ns : inS 45 (Str.ofString "();:=|*") = false := by rw [inS_sigs]; decide
    have rl := noL (by decide)
    obtain ⟨W, hW⟩ : ∃ W, W = (c :: r).length := ⟨_, rfl⟩
    have hW1 : 1 ≤ W := by rw [hW]; simp
    have hW2 : (45 :: c :: r).length = W + 1 := by rw [hW]; rfl
    rw [← hW] at re h60
    rw [hW2]
    have e2 : ((pre ++ [45]).length : Int) = (pre.length : Int) + 1 := by simp
    have e3 : (((pre ++ [45]).length + W : Nat) : Int) = (pre.length : Int) + 1 + (W : Int) := by simp
    rw [e2, e3] at re
    have a1 : ¬ (60 : Int) < (pre.length : Int) + 1 + (W : Int) - ((pre.length : Int) + 1) := by omega
    have a2 : ¬ (pre.length : Int) + 1 + (W : Int) = (pre.length : Int) + 1 := by omega
    have e4 : ((pre.length + (W + 1) : Nat) : Int) = (pre.length : Int) + 1 + (W : Int) := by omega
    have ix1' : gIx (.str (tx l)) (.int ((pre.length : Int) + 1)) = some (.str (tx [c])) := ix1
    rw [e4]
    simp [ix, gIn_tx, ns, rl, minus_is, nought_is, gEq_tx, gInt_bool, re, a1, a2, ix1', h0]
def build : List (Nat × List Nat) → Nat → List Nat
  | [], t => List.replicate t 32
  | (b, w) :: r, t => List.replicate b 32 ++ (w ++ build r t)
def Good : List (Nat × List Nat) → Nat → Prop
  | [], _ => True
  | (_, w) :: r, t => Wd w ∧ Fol w (build r t) ∧ Good r t
abbrev wc : Ev → R Bool := (eB (eBin gLt (eVar 2) (eM (eCa gLen (aCons (eVar 0) aNil)) viewD)) asB)
abbrev wb (m : Nat → List PyData → R Ow) : Ev → SR := (sSeq (sIf (eB (eBin gEq (eBin gIx (eVar 0) (eVar 2)) (eC (.str " "))) asB)
    (sSeq (sAug gAddA 2 (eC (.int 1)))
    sCont)
    sSkip)
    (sSeq (sSet 3 (eM (eM (eB (aCons (eVar 0) (aCons (eVar 2) aNil)) (m 1)) viewD) Ow.d))
    (sSeq (sApp 1 (eSl (eVar 0) (eB (eVar 2) asI) (eB (eVar 3) asI)))
    (sSet 2 (eM (eVar 3) Ow.d)))))
theorem w_end (m : Nat → List PyData → R Ow) (l : List Nat) (hl : l.length ≤ 900000) (fs : List Ow) (x : Option Ow) (n : Nat) :
    whileN wc (wb m) (n + 1) [some (.d (.str (tx l))), some (.l fs), some (.d (.int (l.length : Nat))), x] = .nx [some (.d (.str (tx l))), some (.l fs), some (.d (.int (l.length : Nat))), x] := by
  have gl := gLen_tx l (by omega)
  unfold whileN
  simp [gl]
theorem w_blank (m : Nat → List PyData → R Ow) (l : List Nat) (hl : l.length ≤ 900000) (fs : List Ow) (x : Option Ow) (n h : Nat) (hc : l[h]? = some 32) :
    whileN wc (wb m) (n + 1) [some (.d (.str (tx l))), some (.l fs), some (.d (.int (h : Nat))), x] = whileN wc (wb m) n [some (.d (.str (tx l))), some (.l fs), some (.d (.int ((h + 1 : Nat) : Int))), x] := by
  have gl := gLen_tx l (by omega)
  have hlt : h < l.length := (List.getElem?_eq_some_iff.mp hc).1
  have ix := gIx_tx hc (by omega)
  have c1 : wc [some (.d (.str (tx l))), some (.l fs), some (.d (.int (h : Nat))), x] = .ok true := by simp [gl, hlt]
  have c2 : wb m [some (.d (.str (tx l))), some (.l fs), some (.d (.int (h : Nat))), x] = .ct [some (.d (.str (tx l))), some (.l fs), some (.d (.int ((h + 1 : Nat) : Int))), x] := by
    simp [ix, sp_is, gEq_tx, sCont]
  rw [whileN, c1, R.st_ok, if_pos rfl, c2]
theorem w_word (n0 : Nat) (l pre w rest : List Nat) (e : l = pre ++ w ++ rest) (hw : Wd w) (hf : Fol w rest) (hl : l.length ≤ 900000) (fs : List Ow) (hfs : fs.length < 16777216) (x : Option Ow) (n : Nat) :
    whileN wc (wb (mir (n0 + 2))) (n + 1) [some (.d (.str (tx l))), some (.l fs), some (.d (.int (pre.length : Nat))), x] =
    whileN wc (wb (mir (n0 + 2))) n [some (.d (.str (tx l))), some (.l (fs ++ [.d (.str (tx w))])), some (.d (.int ((pre.length + w.length : Nat) : Int))), some (.d (.int ((pre.length + w.length : Nat) : Int)))] := by
  have gl := gLen_tx l (by omega)
  have hne := wd_ne hw
  obtain ⟨c0, w0, hw0⟩ : ∃ c0 w0, w = c0 :: w0 := by
    cases w with
    | nil => exact absurd rfl hne
    | cons c r => exact ⟨c, r, rfl⟩
  have hc : l[pre.length]? = some c0 := by rw [e, List.append_assoc, take_head, hw0]; rfl
  have hlt : pre.length < l.length := (List.getElem?_eq_some_iff.mp hc).1
  have ix := gIx_tx hc (by omega)
  have n32 : ¬ c0 = 32 := by
    have hin : c0 ∈ w := by rw [hw0]; exact List.mem_cons_self
    rcases hw with ⟨c, hs, rfl⟩ | ⟨_, hall, _⟩ | ⟨c, r, rfl, hall, _⟩ | ⟨c, r, rfl, hall, _⟩
    · have : c0 = c := (List.cons.inj hw0).1.symm
      subst this
      intro z; subst z
      simp [sigs] at hs
    · exact (isL_sig (hall c0 hin)).2.2.2
    · exact (isF_sig (hall c0 hin)).2.2.2
    · have : c0 = 45 := (List.cons.inj hw0).1.symm
      omega
  have we := word_end_ok n0 l pre w rest e hw hf hl
  have hlen : pre.length + w.length ≤ l.length := by rw [e]; simp
  have sl := gSl_tx (l := l) hlen (Nat.le_add_right _ _) (by omega)
  have cut : (l.drop pre.length).take (pre.length + w.length - pre.length) = w := by
    subst e
    simp
  rw [cut] at sl
  have c1 : wc [some (.d (.str (tx l))), some (.l fs), some (.d (.int (pre.length : Nat))), x] = .ok true := by simp [gl, hlt]
  obtain ⟨E, hE⟩ : ∃ E : Nat, E = pre.length + w.length := ⟨_, rfl⟩
  rw [← hE] at we sl ⊢
  have c2 : wb (mir (n0 + 2)) [some (.d (.str (tx l))), some (.l fs), some (.d (.int (pre.length : Nat))), x] = .nx [some (.d (.str (tx l))), some (.l (fs ++ [.d (.str (tx w))])), some (.d (.int (E : Int))), some (.d (.int (E : Int)))] := by
    simp [ix, sp_is, gEq_tx, n32, we, sl, sizeLine_eq, hfs]
  rw [whileN, c1, R.st_ok, if_pos rfl, c2]
theorem w_blanks (m : Nat → List PyData → R Ow) (l : List Nat) (hl : l.length ≤ 900000) (fs : List Ow) (x : Option Ow) : ∀ (b n : Nat) (pre rest : List Nat), l = pre ++ (List.replicate b 32 ++ rest) →
    whileN wc (wb m) (n + b) [some (.d (.str (tx l))), some (.l fs), some (.d (.int (pre.length : Nat))), x] = whileN wc (wb m) n [some (.d (.str (tx l))), some (.l fs), some (.d (.int ((pre.length + b : Nat) : Int))), x]
  | 0, n, pre, rest, e => rfl
  | b + 1, n, pre, rest, e => by
    have hc : l[pre.length]? = some 32 := by rw [e, take_head, List.replicate_succ]; rfl
    rw [← Nat.add_assoc, w_blank m l hl fs x (n + b) pre.length hc]
    have ih := w_blanks m l hl fs x b n (pre ++ [32]) rest (by rw [e, List.replicate_succ]; simp)
    have e1 : (pre ++ [32]).length = pre.length + 1 := by simp
    rw [e1, Nat.add_assoc, Nat.add_comm 1 b] at ih
    exact ih
theorem w_all (n0 : Nat) (l : List Nat) (hl : l.length ≤ 900000) (t : Nat) : ∀ (segs : List (Nat × List Nat)) (pre : List Nat) (fs : List Ow) (x : Option Ow) (n : Nat), l = pre ++ build segs t → Good segs t → fs.length + segs.length ≤ 900000 → (build segs t).length < n →
    ∃ y, whileN wc (wb (mir (n0 + 2))) n [some (.d (.str (tx l))), some (.l fs), some (.d (.int (pre.length : Nat))), x] = .nx [some (.d (.str (tx l))), some (.l (fs ++ segs.map fun s => .d (.str (tx s.2)))), some (.d (.int (l.length : Nat))), y]
  | [], pre, fs, x, n, e, _, _, hn => by
    have hb : (build [] t).length = t := by simp [build]
    obtain ⟨k, rfl⟩ : ∃ k, n = k + 1 + t := ⟨n - 1 - t, by omega⟩
    have e' : l = pre ++ (List.replicate t 32 ++ []) := by rw [e]; simp [build]
    rw [w_blanks (mir (n0 + 2)) l hl fs x t (k + 1) pre [] e']
    have el : pre.length + t = l.length := by rw [e']; simp
    rw [el, w_end _ l hl]
    exact ⟨x, by simp⟩
  | (b, w) :: segs, pre, fs, x, n, e, hg, hfs, hn => by
    obtain ⟨g1, g2, g3⟩ := hg
    have w1 : 0 < w.length := List.length_pos_iff.mpr (wd_ne g1)
    have hb : (build ((b, w) :: segs) t).length = b + (w.length + (build segs t).length) := by simp [build]
    obtain ⟨k, rfl⟩ : ∃ k, n = k + 1 + b := ⟨n - 1 - b, by omega⟩
    have e' : l = pre ++ (List.replicate b 32 ++ (w ++ build segs t)) := e
    rw [w_blanks (mir (n0 + 2)) l hl fs x b (k + 1) pre _ e']
    have e2 : l = (pre ++ List.replicate b 32) ++ w ++ build segs t := by rw [e']; simp
    have e3 : (pre ++ List.replicate b 32).length = pre.length + b := by simp
    rw [← e3, w_word n0 l _ w _ e2 g1 g2 hl fs (by simp at hfs; omega)]
    obtain ⟨y, ih⟩ := w_all n0 l hl t segs ((pre ++ List.replicate b 32) ++ w) (fs ++ [.d (.str (tx w))]) (some (.d (.int (((pre ++ List.replicate b 32).length + w.length : Nat) : Int)))) k e2 g3 (by simp at hfs ⊢; omega) (by omega)
    have e4 : ((pre ++ List.replicate b 32) ++ w).length = (pre ++ List.replicate b 32).length + w.length := List.length_append
    rw [e4] at ih
    exact ⟨y, by rw [ih]; simp⟩
theorem words_ok (n0 : Nat) (segs : List (Nat × List Nat)) (t : Nat) (hg : Good segs t) (hs : segs.length ≤ 1000) (hl : (build segs t).length ≤ 900000) :
    mir (n0 + 3) 2 [.str (tx (build segs t))] = .ok (.l (segs.map fun s => .d (.str (tx s.2)))) := by
  rw [mir_words, run_words]
  obtain ⟨l, hL⟩ : ∃ l, l = build segs t := ⟨_, rfl⟩
  rw [← hL] at hl ⊢
  obtain ⟨y, h⟩ := w_all n0 l hl t segs [] [] none 1000000 hL hg (by simp; omega) (by rw [← hL]; omega)
  have isi : gIsi "str" (.str (tx l)) = .ok (.bool true) := rfl
  simp only [List.length_nil, List.nil_append] at h
  have h' : whileN wc (wb (mir (n0 + 2))) 1000000 [some (.d (.str (tx l))), some (.l []), some (.d (.int 0)), none] = .nx [some (.d (.str (tx l))), some (.l (segs.map fun s => .d (.str (tx s.2)))), some (.d (.int (l.length : Nat))), y] := h
  generalize (1000000 : Nat) = big at *
  unfold wc wb at h'
  simp [isi, sizeLine_eq, sRetV, h']
end G
set_option Elab.async false
set_option linter.all false
set_option maxRecDepth 100000
set_option maxHeartbeats 4000000
namespace G
open PySem PySem.Spec L2 Mir
theorem wd_nm {w : List Nat} (h : NmW w) : Wd w := .inr (.inl h)
def Sg (w : List Nat) : Prop := ∃ c, c ∈ [40, 41, 59, 61, 124] ∧ w = [c]
theorem sg_sigs {c : Nat} (h : c ∈ [40, 41, 59, 61, 124]) : c ∈ sigs ∧ isL c = false ∧ isF c = false := by
  have : ∀ c ∈ [40, 41, 59, 61, 124], c ∈ sigs ∧ isL c = false ∧ isF c = false := by decide
  exact this c h
theorem wd_sg {w : List Nat} (h : Sg w) : Wd w := by
  obtain ⟨c, hc, rfl⟩ := h
  exact .inl ⟨c, (sg_sigs hc).1, rfl⟩
theorem fol_sg {w l : List Nat} (h : Sg w) : Fol w l := fun p x c e _ => by
  obtain ⟨d, hd, rfl⟩ := h
  have e : [d] = p ++ [x] := e
  cases p with
  | cons a p => simp at e
  | nil =>
    simp at e
    subst e
    obtain ⟨_, a, b⟩ := sg_sigs hd
    exact ⟨fun h => (by rw [a] at h; cases h), fun h => (by rw [b] at h; cases h)⟩
def HdOk (r : List (Nat × List Nat)) : Prop := ∀ s, r.head? = some s → 1 ≤ s.1 ∨ Sg s.2
theorem fol_hd {w : List Nat} {r : List (Nat × List Nat)} (h : HdOk r) (t : Nat) : Fol w (build r t) := fun p x c _ hc => by
  have calm : isL c = false ∧ isF c = false := by
    have z : isL 32 = false ∧ isF 32 = false := by decide
    cases r with
    | nil =>
      rw [build] at hc
      cases t with
      | zero => cases hc
      | succ t => rw [List.replicate_succ] at hc; cases hc; exact z
    | cons s r =>
      obtain ⟨b, w'⟩ := s
      rw [build] at hc
      cases b with
      | succ b => rw [List.replicate_succ] at hc; cases hc; exact z
      | zero =>
        rcases h _ rfl with q | ⟨d, hd, e⟩
        · exact absurd q (by simp)
        · have e : w' = [d] := e
          subst e
          have hc : some d = some c := hc
          cases hc
          exact (sg_sigs hd).2
  exact ⟨fun _ => calm.1, fun _ => calm.2⟩
theorem good_idx : ∀ (segs : List (Nat × List Nat)) (t : Nat), (∀ s ∈ segs, NmW s.2 ∨ Sg s.2) → (∀ (i : Nat) s s', segs[i]? = some s → segs[i + 1]? = some s' → NmW s.2 → 1 ≤ s'.1 ∨ Sg s'.2) → Good segs t
  | [], _, _, _ => trivial
  | (b, w) :: r, t, h1, h2 => by
    have ih := good_idx r t (fun s hs => h1 s (List.mem_cons_of_mem _ hs)) fun i s s' hs hs' => h2 (i + 1) s s' hs hs'
    rcases h1 (b, w) List.mem_cons_self with h | h
    · refine ⟨wd_nm h, fol_hd (fun s hs => ?_) t, ih⟩
      have e : r[0]? = some s := by rw [← hs]; cases r <;> rfl
      exact h2 0 (b, w) s rfl e h
    · exact ⟨wd_sg h, fol_sg h, ih⟩
theorem build_snoc : ∀ (segs : List (Nat × List Nat)) (b : Nat) (w : List Nat), build (segs ++ [(b, w)]) 0 = build segs 0 ++ (List.replicate b 32 ++ w)
  | [], b, w => by simp [build]
  | (a, v) :: r, b, w => by rw [List.cons_append, build, build, build_snoc r b w]; simp
theorem build_len : ∀ (segs : List (Nat × List Nat)) (t : Nat), (∀ s ∈ segs, s.1 ≤ 3 ∧ s.2.length ≤ 61) → (build segs t).length ≤ 64 * segs.length + t
  | [], t, _ => by simp [build]
  | (b, w) :: r, t, h => by
    have ih := build_len r t fun s hs => h s (List.mem_cons_of_mem _ hs)
    have := h (b, w) List.mem_cons_self
    have h1 : b ≤ 3 := this.1
    have h2 : w.length ≤ 61 := this.2
    rw [build, List.length_append, List.length_append, List.length_replicate, List.length_cons]
    omega
def lwB (w : List Nat) : Bool := match w with
  | c :: _ => isL c
  | [] => false
def gapAt (b : Nat) (ws : List (List Nat)) (i : Nat) : Nat := if b = 0 then (if 0 < i ∧ lwB (ws.getD i []) = true ∧ lwB (ws.getD (i - 1) []) = true then 1 else 0) else b
def jS (b : Nat) (ws : List (List Nat)) (n : Nat) : List (Nat × List Nat) := (List.range n).map fun i => (gapAt b ws i, ws.getD i [])
theorem jS_succ (b : Nat) (ws : List (List Nat)) (n : Nat) : jS b ws (n + 1) = jS b ws n ++ [(gapAt b ws n, ws.getD n [])] := by
  unfold jS
  rw [List.range_succ, List.map_append]
  rfl
theorem jS_words (b : Nat) (ws : List (List Nat)) : (jS b ws ws.length).map (·.2) = ws := by
  unfold jS
  rw [List.map_map]
  apply List.ext_getElem?
  intro i
  rw [List.getElem?_map]
  by_cases h : i < ws.length
  · rw [List.getElem?_range h]
    simp [List.getD_eq_getElem?_getD, List.getElem?_eq_getElem h]
  · rw [List.getElem?_eq_none (by simp; omega), List.getElem?_eq_none (by omega)]
    rfl
theorem jS_at {b : Nat} {ws : List (List Nat)} {n i : Nat} {s : Nat × List Nat} (h : (jS b ws n)[i]? = some s) : i < n ∧ s = (gapAt b ws i, ws.getD i []) := by
  unfold jS at h
  rw [List.getElem?_map] at h
  obtain ⟨j, hj, e⟩ := Option.map_eq_some_iff.mp h
  have il : i < n := by
    have := (List.getElem?_eq_some_iff.mp hj).1
    simpa using this
  rw [List.getElem?_range il] at hj
  cases hj
  exact ⟨il, e.symm⟩
theorem lw_nm {w : List Nat} (h : NmW w) : lwB w = true := by
  cases w with
  | nil => exact absurd rfl h.1
  | cons c w => exact h.2.1 c List.mem_cons_self
theorem lw_sg {w : List Nat} (h : Sg w) : lwB w = false := by
  obtain ⟨c, hc, rfl⟩ := h
  exact (sg_sigs hc).2.1
theorem jS_good (b : Nat) {ws : List (List Nat)} (h : ∀ w ∈ ws, NmW w ∨ Sg w) : Good (jS b ws ws.length) 0 := by
  have mem : ∀ i, i < ws.length → NmW (ws.getD i []) ∨ Sg (ws.getD i []) := fun i hi => by
    rw [List.getD_eq_getElem?_getD, List.getElem?_eq_getElem hi]
    exact h _ (List.getElem_mem hi)
  refine good_idx _ 0 (fun s hs => ?_) fun i s s' hs hs' hn => ?_
  · obtain ⟨i, hi⟩ := List.getElem?_of_mem hs
    obtain ⟨il, rfl⟩ := jS_at hi
    exact mem i il
  · obtain ⟨il, rfl⟩ := jS_at hs
    obtain ⟨il', rfl⟩ := jS_at hs'
    rcases mem (i + 1) il' with h' | h'
    · left
      show 1 ≤ gapAt b ws (i + 1)
      unfold gapAt
      have hn : NmW (ws.getD i []) := hn
      split
      · rw [if_pos ⟨by omega, lw_nm h', by rw [Nat.add_sub_cancel]; exact lw_nm hn⟩]
        omega
      · omega
    · exact .inr h'
theorem jS_len (b : Nat) (hb : b ≤ 3) {ws : List (List Nat)} (h : ∀ w ∈ ws, NmW w ∨ Sg w) {n : Nat} (hn : n ≤ ws.length) : (build (jS b ws n) 0).length ≤ 64 * ws.length := by
  have := build_len (jS b ws n) 0 (fun s hs => by
    obtain ⟨i, hi⟩ := List.getElem?_of_mem hs
    obtain ⟨il, rfl⟩ := jS_at hi
    refine ⟨?_, ?_⟩
    · show gapAt b ws i ≤ 3
      unfold gapAt
      split
      · split <;> omega
      · omega
    · show (ws.getD i []).length ≤ 61
      rw [List.getD_eq_getElem?_getD, List.getElem?_eq_getElem (by omega)]
      rcases h _ (List.getElem_mem (show i < ws.length by omega)) with h | ⟨c, _, e⟩
      · have := h.2.2
        simp; omega
      · rw [Option.getD_some, e]; simp)
  have e : (jS b ws n).length = n := by unfold jS; simp
  omega
theorem bs_list : ("();=|" : Str).cps.toList = [40, 41, 59, 61, 124] := by decide +kernel
theorem sub_nm {w : List Nat} (h : NmW w) : subS (tx w) "();=|" = false := by
  unfold subS
  rw [Bool.eq_false_iff]
  intro e
  rw [PySem.StrLaws.found_iff] at e
  obtain ⟨i, _, e⟩ := e
  rw [PySem.StrLaws.subAt_eq, beq_iff_eq, bs_list] at e
  have e2 : (tx w).cps.toList = w := rfl
  rw [e2] at e
  cases w with
  | nil => exact absurd rfl h.1
  | cons c w =>
    have m : c ∈ ([40, 41, 59, 61, 124].drop i).take (tx (c :: w)).length := by rw [e]; exact List.mem_cons_self
    have m := List.mem_of_mem_drop (List.mem_of_mem_take m)
    have := h.2.1 c List.mem_cons_self
    rw [(sg_sigs m).2.1] at this
    cases this
theorem sub_sg {w : List Nat} (h : Sg w) : subS (tx w) "();=|" = true := by
  obtain ⟨c, hc, rfl⟩ := h
  have := PySem.StrLaws.found_one "();=|" c
  rw [bs_list, decide_eq_true hc] at this
  exact this
theorem sub_lw {w : List Nat} (h : NmW w ∨ Sg w) : subS (tx w) "();=|" = !lwB w := by
  rcases h with h | h
  · rw [sub_nm h, lw_nm h]; rfl
  · rw [sub_sg h, lw_sg h]; rfl
end G
set_option Elab.async false
set_option linter.all false
set_option maxRecDepth 100000
set_option maxHeartbeats 4000000
namespace G
open PySem PySem.Spec L2 Mir
theorem joinRows_len2 (rs : List WdR) (h : ∀ r ∈ rs, OkR r) : (joinWs [124] (rs.map rowWs)).length ≤ 8 * rs.length := by
  have a := joinWs_len [124] (rs.map rowWs)
  rw [List.map_map] at a
  have b := sum_le_mul ((fun p : List Wo => p.length + 1) ∘ rowWs) 8 rs fun r hr => by have := (rowWs_len (h r hr)).2; show (rowWs r).length + 1 ≤ 8; omega
  omega
theorem woodWs_len2 {w : List WdK} (h : ∀ k ∈ w, OkK k) : (woodWs w).length ≤ 3 * w.length + 8 * (w.map fun k => k.2.length).sum := by
  have a := joinWs_len [59] (w.map kindWs)
  rw [List.map_map] at a
  have b : ∀ l : List WdK, (∀ k ∈ l, OkK k) → (l.map ((fun p : List Wo => p.length + 1) ∘ kindWs)).sum ≤ 3 * l.length + 8 * (l.map fun k => k.2.length).sum := by
    intro l
    induction l with
    | nil => intro _; simp
    | cons k l ih =>
      intro hl
      have i := ih fun x hx => hl x (List.mem_cons_of_mem _ hx)
      have j := joinRows_len2 k.2 (hl k List.mem_cons_self).rows
      rw [List.map_cons, List.sum_cons, List.map_cons, List.sum_cons, List.length_cons]
      have e : ((fun p : List Wo => p.length + 1) ∘ kindWs) k = (joinWs [124] (k.2.map rowWs)).length + 3 := by
        show (kindWs k).length + 1 = _
        unfold kindWs
        simp
      rw [e]
      omega
  have c := b w h
  unfold woodWs
  omega
theorem wood_sg {w : List WdK} (h : ∀ k ∈ w, OkK k) : ∀ x ∈ woodWs w, NmW x ∨ Sg x := fun x hx => by
  rcases woodWs_mem h hx with h | h | h | h | h | h
  · exact .inl h
  all_goals exact .inr ⟨_, by decide, h⟩
noncomputable abbrev ljB : Ev → SR := (sSeq (sSet 4 (eM (eM (eSl (eC (.str "   ")) oNone (eB (eVar 1) asI)) viewD) Ow.d))
    (sSeq (sIf (tAndE (eB (eBin gGt (eVar 3) (eC (.int 0))) asB) (tAndE (eB (eBin gEq (eVar 1) (eC (.int 0))) asB) (eB (eBin gGt (eM (eCa gLen (aCons (eB (eBinO gAdd (eBin gIx (eVar 0) (eVar 3)) (eBin gIx (eVar 0) (eBin gSub (eVar 3) (eC (.int 1))))) shD) aNil)) viewD) (eC (.int 1))) asB)))
    (sIf (tAndE (eB (eBin gSubNotIn (eBin gIx (eVar 0) (eVar 3)) (eC (.str "();=|"))) asB) (eB (eBin gSubNotIn (eBin gIx (eVar 0) (eBin gSub (eVar 3) (eC (.int 1)))) (eC (.str "();=|"))) asB))
    (sSet 4 (eM (eC (.str " ")) Ow.d))
    sSkip)
    sSkip)
    (sSet 2 (eM (eM (eBinO gAdd (eB (eBinO gAdd (eVar 2) (eVar 4)) shD) (eBin gIx (eVar 0) (eVar 3))) viewD) Ow.d))))
theorem blanks3 {b : Nat} (h : b ≤ 3) : gSl (.str "   ") none (some (b : Int)) = some (.d (.str (tx (List.replicate b 32)))) := by
  have e : ("   " : Str) = tx [32, 32, 32] := by rw [tx_of ("   " : Str)]; congr 1
  rw [e, gSl_to (by simp)]
  rcases (by omega : b = 0 ∨ b = 1 ∨ b = 2 ∨ b = 3) with rfl | rfl | rfl | rfl <;> rfl
theorem ok_ne {w : List Nat} (h : NmW w ∨ Sg w) : 1 ≤ w.length ∧ w.length ≤ 8 := by
  rcases h with h | ⟨c, _, rfl⟩
  · have := h.1
    have := h.2.2
    refine ⟨?_, this⟩
    cases w with
    | nil => exact absurd rfl h.1
    | cons => simp
  · simp
theorem lj_step {ws : List (List Nat)} (h : ∀ w ∈ ws, NmW w ∨ Sg w) (hl : ws.length ≤ 1000) {b : Nat} (hb : b ≤ 3) {k : Nat} (hk : k < ws.length) (x4 : Option Ow) : ∃ y4, ljB [some (.d (rowWD ws)), some (.d (.int (b : Nat))), some (.d (.str (tx (build (jS b ws k) 0)))), some (.d (.int (k : Nat))), x4] = .nx [some (.d (rowWD ws)), some (.d (.int (b : Nat))), some (.d (.str (tx (build (jS b ws (k + 1)) 0)))), some (.d (.int (k : Nat))), y4] := by
  have bl := blanks3 hb
  have len := jS_len b hb h (n := k) (by omega)
  obtain ⟨w, hw⟩ : ∃ w, ws[k]? = some w := ⟨_, List.getElem?_eq_getElem hk⟩
  have ow := h w (List.mem_of_getElem? hw)
  have xw : gIx (rowWD ws) (.int (k : Nat)) = some (.str (tx w)) := ix_wl hw
  have gw : ws.getD k [] = w := by rw [List.getD_eq_getElem?_getD, hw]; rfl
  have l1 := ok_ne ow
  generalize hT : build (jS b ws k) 0 = T at *
  -- the gap that is chosen
  have mid : (sIf (tAndE (eB (eBin gGt (eVar 3) (eC (.int 0))) asB) (tAndE (eB (eBin gEq (eVar 1) (eC (.int 0))) asB) (eB (eBin gGt (eM (eCa gLen (aCons (eB (eBinO gAdd (eBin gIx (eVar 0) (eVar 3)) (eBin gIx (eVar 0) (eBin gSub (eVar 3) (eC (.int 1))))) shD) aNil)) viewD) (eC (.int 1))) asB)))
      (sIf (tAndE (eB (eBin gSubNotIn (eBin gIx (eVar 0) (eVar 3)) (eC (.str "();=|"))) asB) (eB (eBin gSubNotIn (eBin gIx (eVar 0) (eBin gSub (eVar 3) (eC (.int 1)))) (eC (.str "();=|"))) asB))
      (sSet 4 (eM (eC (.str " ")) Ow.d))
      sSkip)
      sSkip) [some (.d (rowWD ws)), some (.d (.int (b : Nat))), some (.d (.str (tx T))), some (.d (.int (k : Nat))), some (.d (.str (tx (List.replicate b 32))))] = .nx [some (.d (rowWD ws)), some (.d (.int (b : Nat))), some (.d (.str (tx T))), some (.d (.int (k : Nat))), some (.d (.str (tx (List.replicate (gapAt b ws k) 32))))] := by
    have gt : gGt (.int (k : Nat)) (.int 0) = some (.bool (decide (0 < k))) := by
      show some (PyData.bool (decide ((0 : Int) < ((k : Nat) : Int)))) = _
      congr 2
      exact decide_eq_decide.mpr (by omega)
    have eb : gEq (.int (b : Nat)) (.int 0) = some (.bool (decide (b = 0))) := by
      show some (PyData.bool (((b : Nat) : Int) == 0)) = _
      congr 2
      by_cases z : b = 0
      · subst z; rfl
      · rw [decide_eq_false z, beq_eq_false_iff_ne.mpr (by omega)]
    by_cases k0 : 0 < k
    · by_cases b0 : b = 0
      · obtain ⟨v, hv⟩ : ∃ v, ws[k - 1]? = some v := ⟨_, List.getElem?_eq_getElem (by omega)⟩
        have ov := h v (List.mem_of_getElem? hv)
        have xv : gIx (rowWD ws) (.int ((k : Nat) - 1)) = some (.str (tx v)) := by
          rw [show ((k : Nat) : Int) - 1 = ((k - 1 : Nat) : Int) by omega]
          exact ix_wl hv
        have gv : ws.getD (k - 1) [] = v := by rw [List.getD_eq_getElem?_getD, hv]; rfl
        have l2 := ok_ne ov
        have ad : gAdd (.str (tx w)) (.str (tx v)) = some (.d (.str (tx (w ++ v)))) := gAdd_tx (by omega)
        have ln : gLen [.str (tx (w ++ v))] = some (.d (.int ((w.length + v.length : Nat) : Int))) := by
          have := gLen_tx (w ++ v) (by rw [List.length_append]; omega)
          rw [this, List.length_append]
        have g1 : gGt (.int ((w.length + v.length : Nat) : Int)) (.int 1) = some (.bool true) := by
          show some (PyData.bool (decide ((1 : Int) < ((w.length + v.length : Nat) : Int)))) = _
          rw [decide_eq_true (by omega)]
        have s1 := sub_lw ow
        have s2 := sub_lw ov
        rw [decide_eq_true k0] at gt
        rw [decide_eq_true b0] at eb
        have gp : gapAt b ws k = if lwB w = true ∧ lwB v = true then 1 else 0 := by
          unfold gapAt
          rw [if_pos b0, gw, gv]
          by_cases c : lwB w = true ∧ lwB v = true
          · rw [if_pos ⟨k0, c⟩, if_pos c]
          · rw [if_neg (fun x => c x.2), if_neg c]
        have sp : (" " : Str) = tx [32] := spW_is
        have r0 : List.replicate b 32 = [] := by rw [b0]; rfl
        rw [gp, r0]
        generalize rowWD ws = RD at *
        generalize (((w.length + v.length : Nat) : Nat) : Int) = z at *
        generalize tx (w ++ v) = tv at *
        generalize tx T = tT at *
        cases cw : lwB w <;> cases cv : lwB v <;> rw [cw] at s1 <;> rw [cv] at s2 <;> simp [gt, eb, xw, xv, ad, ln, g1, s1, s2, sp]
      · have gp : gapAt b ws k = b := by unfold gapAt; rw [if_neg b0]
        rw [decide_eq_true k0] at gt
        rw [decide_eq_false b0] at eb
        rw [gp]
        generalize rowWD ws = RD at *
        generalize tx T = tT at *
        simp [gt, eb]
    · have gp : gapAt b ws k = b := by
        unfold gapAt
        split
        · rename_i z
          rw [if_neg (fun x => k0 x.1), z]
        · rfl
      rw [decide_eq_false k0] at gt
      rw [gp]
      generalize rowWD ws = RD at *
      generalize tx T = tT at *
      simp [gt]
  have g3 : gapAt b ws k ≤ 3 := by
    unfold gapAt
    split
    · split <;> omega
    · omega
  refine ⟨some (.d (.str (tx (List.replicate (gapAt b ws k) 32)))), ?_⟩
  rw [jS_succ, build_snoc, hT, gw]
  have a1 : gAdd (.str (tx T)) (.str (tx (List.replicate (gapAt b ws k) 32))) = some (.d (.str (tx (T ++ List.replicate (gapAt b ws k) 32)))) := gAdd_tx (by rw [List.length_replicate]; omega)
  have a2 : gAdd (.str (tx (T ++ List.replicate (gapAt b ws k) 32))) (.str (tx w)) = some (.d (.str (tx (T ++ (List.replicate (gapAt b ws k) 32 ++ w))))) := by
    rw [gAdd_tx (by rw [List.length_append, List.length_replicate]; omega), List.append_assoc]
  show sSeq _ _ _ = _
  rw [sqW (e1 := [some (.d (rowWD ws)), some (.d (.int (b : Nat))), some (.d (.str (tx T))), some (.d (.int (k : Nat))), some (.d (.str (tx (List.replicate b 32))))]) (by
    generalize rowWD ws = RD at *
    generalize tx T = tT at *
    simp [bl]), sqW mid]
  generalize rowWD ws = RD at *
  generalize tx (List.replicate (gapAt b ws k) 32) = tg at *
  generalize tx (T ++ List.replicate (gapAt b ws k) 32) = t2 at *
  generalize tx T = tT at *
  simp [a1, a2, xw]
theorem joined_ok (n : Nat) {ws : List (List Nat)} (h : ∀ w ∈ ws, NmW w ∨ Sg w) (hl : ws.length ≤ 1000) {b : Nat} (hb : b ≤ 3) : mir (n + 1) 16 [rowWD ws, .int (b : Nat)] = .ok (.d (.str (tx (build (jS b ws ws.length) 0)))) := by
  rw [mir__law_joined, run__law_joined]
  have he : envOf 3 [rowWD ws, .int (b : Nat)] = [some (.d (rowWD ws)), some (.d (.int (b : Nat))), none, none, none] := rfl
  rw [he]
  have e0 : ("" : Str) = tx [] := by rw [tx_of ("" : Str)]; congr 1
  refine fin_step (env1 := [some (.d (rowWD ws)), some (.d (.int (b : Nat))), some (.d (.str (tx (build (jS b ws 0) 0)))), none, none]) (by
    have : build (jS b ws 0) 0 = [] := rfl
    rw [this, ← e0]
    generalize rowWD ws = RD at *
    simp) ?_
  obtain ⟨env', lp, x3, x4, e'⟩ := forL_ind (g := gtName 3) (f := ljB) (rangeD 0 ws.length) (fun k env => ∃ x3 x4, env = [some (.d (rowWD ws)), some (.d (.int (b : Nat))), some (.d (.str (tx (build (jS b ws k) 0)))), x3, x4]) (by
    rintro k d _ hd ⟨x3, x4, rfl⟩
    have kl : k < ws.length := by
      have := (List.getElem?_eq_some_iff.1 hd).1
      rwa [rangeD_len] at this
    have ed : d = .int (k : Nat) := by
      have := hd
      rw [rangeD_map] at this
      simpa [kl] using this.symm
    subst ed
    obtain ⟨y4, st⟩ := lj_step h hl hb kl x4
    exact ⟨_, rfl, _, .inl st, _, _, rfl⟩) [some (.d (rowWD ws)), some (.d (.int (b : Nat))), some (.d (.str (tx (build (jS b ws 0) 0)))), none, none] ⟨none, none, rfl⟩
  have it : (eB (aCons (eM (eCa gLen (aCons (eVar 0) aNil)) viewD) aNil) rg1) [some (.d (rowWD ws)), some (.d (.int (b : Nat))), some (.d (.str (tx (build (jS b ws 0) 0)))), none, none] = .ok (rangeD 0 ws.length) := by
    have rg := rg1_nat ws.length (by omega)
    have ln := len_wl ws
    generalize rowWD ws = RD at *
    generalize rangeD 0 ws.length = RR at *
    simp [ln, rg]
  refine fin_step (by rw [sFor_eq, it, R.st_ok]; exact lp) ?_
  rw [rangeD_len] at e'
  subst e'
  rfl
theorem isName_ok (n : Nat) {w : List Nat} (h : NmW w) : mir (n + 1) 3 [.str (tx w)] = .ok (.d (.bool true)) := by
  cases w with
  | nil => exact absurd rfl h.1
  | cons c r =>
    have i2 : gIx (.str (tx (c :: r))) (.int 0) = some (.str (tx [c])) := gIx_tx (i := 0) rfl (by have := h.2.2; omega)
    have := gIn_tx c abc
    rw [inS_abc, h.2.1 c List.mem_cons_self] at this
    rw [mir_is_name, run_is_name]
    simp [i2, this]
theorem parted_ok (n : Nat) (ws : List (List Nat)) (s : List Nat) (h : ws.length ≤ 100000) : mir (n + 1) 4 [rowWD ws, .str (tx s)] = .ok (.l ((splitA s [] ws).map rowWO)) := by
  rw [mir_parted, run_parted]
  exact parted_fin ws s h
theorem rowBy_ok (n : Nat) {r : WdR} (h : OkR r) : mir (n + 2) 5 [rowWD (rowWs r)] = .ok (.d (encRw (toRw r))) := by
  rw [mir_row_by, run_row_by]
  exact rowBy_fin (fun w hw => isName_ok n hw) h
theorem kindBy_ok (n : Nat) {k : WdK} (h : OkK k) : mir (n + 3) 6 [rowWD (kindWs k)] = .ok (.d (encKd (toKd k))) := by
  rw [mir_kind_by, run_kind_by]
  exact kindBy_fin (fun w hw => isName_ok (n + 1) hw) (fun ws s h => parted_ok (n + 1) ws s h) (fun r hr => rowBy_ok n hr) h
theorem lookOver_ok (n : Nat) {w : List WdK} (h : OkWd w) : mir (n + 1) 7 [encWd (toWd w)] = .ok (.d .none) := by
  rw [mir_look_over, run_look_over]
  exact lookOver_fin h
/-- the wood of its laid words -/
theorem readWood_ok (n : Nat) {w : List WdK} (h : OkWd w) (h6 : w.length ≤ 6) (h16 : (w.map fun k => k.2.length).sum ≤ 16) {segs : List (Nat × List Nat)} (hg : Good segs 0) (hs : segs.map (·.2) = woodWs w) (hb : ∀ s ∈ segs, s.1 ≤ 3) : mir (n + 5) 8 [.str (tx (build segs 0))] = .ok (woodO (srtWd w)) := by
  have wl := woodWs_len2 h.ok
  have sl : segs.length = (woodWs w).length := by rw [← hs, List.length_map]
  have bl := build_len segs 0 fun s hs' => by
    refine ⟨hb s hs', ?_⟩
    have := ok_ne (wood_sg h.ok s.2 (by rw [← hs]; exact List.mem_map_of_mem hs'))
    omega
  have wd := words_ok (n + 1) segs 0 hg (by omega) (by omega)
  have e : (segs.map fun s => Ow.d (.str (tx s.2))) = (woodWs w).map fun w => .d (.str (tx w)) := by rw [← hs, List.map_map]; rfl
  rw [e] at wd
  rw [mir_read_wood, run_read_wood]
  exact readWood_fin h h6 h16 wd (fun ws s hl => parted_ok (n + 3) ws s hl) (fun k hk => kindBy_ok (n + 1) hk) (lookOver_ok (n + 3) h)
theorem showRow_ok (n : Nat) {r : WdR} (h : OkR r) : mir (n + 1) 9 [encRW r] = .ok (.d (.str (tx (rwT r)))) := by
  rw [mir_show_row, run_show_row]
  exact showRow_fin h
theorem showWood_ok (n : Nat) {w : List WdK} (h : OkWd w) : mir (n + 2) 10 [encWd (toWd w)] = .ok (.d (.str (tx (wdT w)))) := by
  rw [mir_show_wood, run_show_wood]
  exact showWood_fin (fun r hr => showRow_ok n hr) h
theorem lawParts_ok (n : Nat) {w : List WdK} (h : OkWd w) : mir (n + 1) 14 [encWd (toWd w)] = .ok (rowWO (woodWs w)) := by
  rw [mir__law_parts, run__law_parts]
  exact lawParts_fin h
theorem lawShown_ok (n : Nat) {w : List WdK} (h : OkWd w) : mir (n + 1) 15 [encWd (toWd w)] = .ok (.d (.str (tx (wdT w)))) := by
  rw [mir__law_shown, run__law_shown]
  exact lawShown_fin h
theorem lawKinds_ok (n : Nat) {w : List WdK} (h : OkWd w) : mir (n + 1) 17 [encWd (toWd w), encWd (toWd w)] = .ok (.d (.bool true)) := by
  rw [mir__law_kinds, run__law_kinds]
  exact lawKinds_fin h.ok
end G
set_option Elab.async false
set_option linter.all false
set_option maxRecDepth 100000
set_option maxHeartbeats 4000000
namespace G
open PySem PySem.Spec L2 Mir
abbrev Seg := Nat × List Nat
theorem build_appW : ∀ (a b : List Seg) (t : Nat), build (a ++ b) t = build a 0 ++ build b t
  | [], b, t => by simp [build]
  | (g, w) :: a, b, t => by rw [List.cons_append, build, build, build_appW a b t]; simp
theorem good_nm {b : Nat} {w : List Nat} {r : List Seg} {t : Nat} (h : NmW w) (hd : HdOk r) (g : Good r t) : Good ((b, w) :: r) t := ⟨wd_nm h, fol_hd hd t, g⟩
theorem good_sg {b : Nat} {w : List Nat} {r : List Seg} {t : Nat} (h : Sg w) (g : Good r t) : Good ((b, w) :: r) t := ⟨wd_sg h, fol_sg h, g⟩
theorem hd_gap {b : Nat} {w : List Nat} {r : List Seg} (h : 1 ≤ b) : HdOk ((b, w) :: r) := fun s hs => by
  cases hs
  exact .inl h
theorem hd_sg {b : Nat} {w : List Nat} {r : List Seg} (h : Sg w) : HdOk ((b, w) :: r) := fun s hs => by
  cases hs
  exact .inr h
theorem hd_nil : HdOk [] := fun s hs => by cases hs
def sgBr : List (List Nat) → List Seg
  | [] => []
  | b :: bs => (0, b) :: bs.map fun b => (1, b)
def sgRow (g : Nat) (r : WdR) : List Seg := (g, r.1) :: (if r.2 = [] then [] else (0, [40]) :: (sgBr r.2 ++ [(0, [41])]))
def joinSg (s : Seg) : List (List Seg) → List Seg
  | [] => []
  | p :: ps => p ++ (ps.map fun q => s :: q).flatten
def sgKind (g : Nat) (k : WdK) : List Seg := (g, k.1) :: (1, [61]) :: joinSg (1, [124]) (k.2.map (sgRow 1))
def sgWood : List WdK → List Seg
  | [] => []
  | k :: ks => sgKind 0 k ++ (ks.map fun k => (0, [59]) :: sgKind 1 k).flatten
theorem sgBr_w : ∀ bs, (sgBr bs).map (·.2) = bs
  | [] => rfl
  | b :: bs => by rw [sgBr, List.map_cons, List.map_map]; congr 1; exact List.map_id' bs
theorem sgRow_w (g : Nat) (r : WdR) : (sgRow g r).map (·.2) = rowWs r := by
  unfold sgRow rowWs
  rw [List.map_cons]
  split
  · rfl
  · rw [List.map_cons, List.map_append, sgBr_w]
    rfl
theorem joinSg_w (s : Seg) : ∀ ps : List (List Seg), (joinSg s ps).map (·.2) = joinWs s.2 (ps.map fun p => p.map (·.2))
  | [] => rfl
  | p :: ps => by
    rw [joinSg, List.map_append, List.map_flatten, List.map_map, List.map_cons, joinWs, List.map_map]
    rfl
theorem sgKind_w (g : Nat) (k : WdK) : (sgKind g k).map (·.2) = kindWs k := by
  unfold sgKind kindWs
  rw [List.map_cons, List.map_cons, joinSg_w, List.map_map]
  congr 3
  exact List.map_congr_left fun r _ => sgRow_w 1 r
theorem sgWood_w : ∀ w : List WdK, (sgWood w).map (·.2) = woodWs w
  | [] => rfl
  | k :: ks => by
    unfold woodWs
    rw [sgWood, List.map_append, sgKind_w, List.map_flatten, List.map_map, List.map_cons, joinWs, List.map_map]
    congr 2
    exact List.map_congr_left fun k _ => by show ((0, [59]) :: sgKind 1 k).map (·.2) = _; rw [List.map_cons, sgKind_w]; rfl
theorem build_ones (s : List Nat) : ∀ bs : List (List Nat), build (bs.map fun b => (1, b)) 0 = ((bs.map fun b => [32] ++ b).flatten)
  | [] => rfl
  | b :: bs => by rw [List.map_cons, build, build_ones s bs, List.map_cons, List.flatten_cons]; simp
theorem sgBr_t (bs : List (List Nat)) : build (sgBr bs) 0 = glue [32] bs := by
  cases bs with
  | nil => rfl
  | cons b bs => rw [sgBr, build, build_ones [], glue]; simp
theorem sgRow_t (g : Nat) (r : WdR) : build (sgRow g r) 0 = List.replicate g 32 ++ rwT r := by
  unfold sgRow rwT
  rw [build]
  split
  · simp [build]
  · rw [build, build_appW, sgBr_t]
    simp [build]
theorem sgRows_t : ∀ rs : List WdR, rs ≠ [] → build (joinSg (1, [124]) (rs.map (sgRow 1))) 0 = [32] ++ glue [32, 124, 32] (rs.map rwT)
  | [], h => absurd rfl h
  | r :: rs, _ => by
    have e : ∀ l : List WdR, build (((l.map (sgRow 1)).map fun q => ((1, [124]) : Seg) :: q).flatten) 0 = ((l.map rwT).map fun b => [32, 124, 32] ++ b).flatten := fun l => by
      induction l with
      | nil => rfl
      | cons x l ih =>
        rw [List.map_cons, List.map_cons, List.flatten_cons, build_appW, ih, build, sgRow_t, List.map_cons, List.map_cons, List.flatten_cons]
        simp
    rw [List.map_cons, joinSg, build_appW, e, sgRow_t, List.map_cons, glue]
    simp
theorem sgKind_t (g : Nat) {k : WdK} (h : OkK k) : build (sgKind g k) 0 = List.replicate g 32 ++ kdT k := by
  unfold sgKind kdT
  rw [build, build, sgRows_t k.2 h.some]
  simp
theorem sgWood_t {w : List WdK} (h : ∀ k ∈ w, OkK k) : build (sgWood w) 0 = wdT w := by
  unfold wdT
  cases w with
  | nil => rfl
  | cons k ks =>
    have e : ∀ l : List WdK, (∀ k ∈ l, OkK k) → build ((l.map fun k => ((0, [59]) : Seg) :: sgKind 1 k).flatten) 0 = ((l.map kdT).map fun b => [59, 32] ++ b).flatten := fun l => by
      induction l with
      | nil => intro _; rfl
      | cons x l ih =>
        intro hl
        rw [List.map_cons, List.flatten_cons, build_appW, ih fun y hy => hl y (List.mem_cons_of_mem _ hy), build, sgKind_t 1 (hl x List.mem_cons_self), List.map_cons, List.map_cons, List.flatten_cons]
        simp
    rw [sgWood, build_appW, sgKind_t 0 (h k List.mem_cons_self), e ks fun y hy => h y (List.mem_cons_of_mem _ hy), List.map_cons, glue]
    simp
theorem good_ones {rest : List Seg} {t : Nat} (g : Good rest t) (hd : HdOk rest) : ∀ bs : List (List Nat), (∀ b ∈ bs, NmW b) → Good ((bs.map fun b => (1, b)) ++ rest) t ∧ HdOk ((bs.map fun b => (1, b)) ++ rest)
  | [], _ => ⟨g, hd⟩
  | b :: bs, h => by
    obtain ⟨i1, i2⟩ := good_ones g hd bs fun x hx => h x (List.mem_cons_of_mem _ hx)
    exact ⟨good_nm (h b List.mem_cons_self) i2 i1, hd_gap (Nat.le_refl _)⟩
theorem good_row {rest : List Seg} {t : Nat} (g : Good rest t) (hd : HdOk rest) (b : Nat) {r : WdR} (h : OkR r) : Good (sgRow b r ++ rest) t := by
  unfold sgRow
  rw [List.cons_append]
  split
  · exact good_nm h.nm hd g
  · rename_i hb
    refine good_nm h.nm (hd_sg ⟨40, by decide, rfl⟩) (good_sg ⟨40, by decide, rfl⟩ ?_)
    cases e : r.2 with
    | nil => exact absurd e hb
    | cons z zs =>
      have c : Good ((0, [41]) :: rest) t := good_sg ⟨41, by decide, rfl⟩ g
      have hb := h.br
      rw [e] at hb
      obtain ⟨i1, i2⟩ := good_ones c (hd_sg ⟨41, by decide, rfl⟩) zs fun x hx => hb x (List.mem_cons_of_mem _ hx)
      have e2 : (sgBr (z :: zs) ++ [(0, [41])]).append rest = (0, z) :: ((zs.map fun b => ((1, b) : Seg)) ++ ((0, [41]) :: rest)) := by
        show (sgBr (z :: zs) ++ [(0, [41])]) ++ rest = _
        rw [sgBr]
        simp
      rw [e2]
      exact good_nm (hb z List.mem_cons_self) i2 i1
theorem good_rows {rest : List Seg} {t : Nat} (g : Good rest t) (hd : HdOk rest) : ∀ rs : List WdR, (∀ r ∈ rs, OkR r) → Good (((rs.map (sgRow 1)).map fun q => ((1, [124]) : Seg) :: q).flatten ++ rest) t ∧ HdOk (((rs.map (sgRow 1)).map fun q => ((1, [124]) : Seg) :: q).flatten ++ rest)
  | [], _ => ⟨g, hd⟩
  | r :: rs, h => by
    obtain ⟨i1, i2⟩ := good_rows g hd rs fun x hx => h x (List.mem_cons_of_mem _ hx)
    have e2 : (((r :: rs).map (sgRow 1)).map fun q => ((1, [124]) : Seg) :: q).flatten ++ rest = (1, [124]) :: (sgRow 1 r ++ (((rs.map (sgRow 1)).map fun q => ((1, [124]) : Seg) :: q).flatten ++ rest)) := by
      rw [List.map_cons, List.map_cons, List.flatten_cons]
      simp
    rw [e2]
    exact ⟨good_sg ⟨124, by decide, rfl⟩ (good_row i1 i2 1 (h r List.mem_cons_self)), hd_gap (Nat.le_refl _)⟩
theorem good_kind {rest : List Seg} {t : Nat} (g : Good rest t) (hd : HdOk rest) (b : Nat) {k : WdK} (h : OkK k) : Good (sgKind b k ++ rest) t := by
  unfold sgKind
  rw [List.cons_append, List.cons_append]
  refine good_nm h.nm (hd_gap (Nat.le_refl _)) (good_sg ⟨61, by decide, rfl⟩ ?_)
  cases e : k.2 with
  | nil => exact absurd e h.some
  | cons r rs =>
    have hr := h.rows
    rw [e] at hr
    obtain ⟨i1, i2⟩ := good_rows g hd rs fun x hx => hr x (List.mem_cons_of_mem _ hx)
    rw [List.map_cons, joinSg, List.append_assoc]
    exact good_row i1 i2 1 (hr r List.mem_cons_self)
theorem good_wood {w : List WdK} (h : ∀ k ∈ w, OkK k) : Good (sgWood w) 0 := by
  cases w with
  | nil => trivial
  | cons k ks =>
    have e : ∀ l : List WdK, (∀ k ∈ l, OkK k) → Good ((l.map fun k => ((0, [59]) : Seg) :: sgKind 1 k).flatten) 0 ∧ HdOk ((l.map fun k => ((0, [59]) : Seg) :: sgKind 1 k).flatten) := fun l => by
      induction l with
      | nil => intro _; exact ⟨trivial, hd_nil⟩
      | cons x l ih =>
        intro hl
        obtain ⟨i1, i2⟩ := ih fun y hy => hl y (List.mem_cons_of_mem _ hy)
        rw [List.map_cons, List.flatten_cons, List.cons_append]
        exact ⟨good_sg ⟨59, by decide, rfl⟩ (good_kind i1 i2 1 (hl x List.mem_cons_self)), hd_sg ⟨59, by decide, rfl⟩⟩
    obtain ⟨i1, i2⟩ := e ks fun y hy => h y (List.mem_cons_of_mem _ hy)
    rw [sgWood]
    exact good_kind i1 i2 0 (h k List.mem_cons_self)
theorem gap_row {g : Nat} (hg : g ≤ 3) (r : WdR) : ∀ s ∈ sgRow g r, s.1 ≤ 3 := fun s hs => by
  unfold sgRow at hs
  rcases List.mem_cons.mp hs with rfl | hs
  · exact hg
  · split at hs
    · cases hs
    · rcases List.mem_cons.mp hs with rfl | hs
      · simp
      · rcases List.mem_append.mp hs with hs | hs
        · cases e : r.2 with
          | nil => rw [e, sgBr] at hs; cases hs
          | cons b bs =>
            rw [e, sgBr] at hs
            rcases List.mem_cons.mp hs with rfl | hs
            · simp
            · obtain ⟨x, _, rfl⟩ := List.mem_map.mp hs
              simp
        · rw [List.mem_singleton.mp hs]; simp
theorem gap_kind {g : Nat} (hg : g ≤ 3) (k : WdK) : ∀ s ∈ sgKind g k, s.1 ≤ 3 := fun s hs => by
  unfold sgKind at hs
  rcases List.mem_cons.mp hs with rfl | hs
  · exact hg
  · rcases List.mem_cons.mp hs with rfl | hs
    · simp
    · cases e : k.2 with
      | nil => rw [e] at hs; cases hs
      | cons r rs =>
        rw [e, List.map_cons, joinSg] at hs
        rcases List.mem_append.mp hs with hs | hs
        · exact gap_row (by omega) r s hs
        · obtain ⟨q, hq, hs⟩ := List.mem_flatten.mp hs
          obtain ⟨p, hp, rfl⟩ := List.mem_map.mp hq
          obtain ⟨x, _, rfl⟩ := List.mem_map.mp hp
          rcases List.mem_cons.mp hs with rfl | hs
          · simp
          · exact gap_row (by omega) x s hs
theorem gap_wood (w : List WdK) : ∀ s ∈ sgWood w, s.1 ≤ 3 := fun s hs => by
  cases w with
  | nil => cases hs
  | cons k ks =>
    rw [sgWood] at hs
    rcases List.mem_append.mp hs with hs | hs
    · exact gap_kind (by omega) k s hs
    · obtain ⟨q, hq, hs⟩ := List.mem_flatten.mp hs
      obtain ⟨x, _, rfl⟩ := List.mem_map.mp hq
      rcases List.mem_cons.mp hs with rfl | hs
      · simp
      · exact gap_kind (by omega) x s hs
theorem gap_jS {b : Nat} (hb : b ≤ 3) (ws : List (List Nat)) (n : Nat) : ∀ s ∈ jS b ws n, s.1 ≤ 3 := fun s hs => by
  obtain ⟨i, hi⟩ := List.getElem?_of_mem hs
  obtain ⟨il, rfl⟩ := jS_at hi
  show gapAt b ws i ≤ 3
  unfold gapAt
  split
  · split <;> omega
  · omega
end G
set_option Elab.async false
set_option linter.all false
set_option maxRecDepth 100000
set_option maxHeartbeats 4000000
namespace G
open PySem PySem.Spec L2 Mir
noncomputable section
theorem names_ok (n : Nat) (c w : Int) (N : Nat) (hN : N ≤ 26) : ∃ nm : Nat → List Nat, (∀ k, NmW (nm k)) ∧ (∀ i j, i < 26 → j < 26 → nm i = nm j → i = j) ∧ mir (n + 1) 12 [.int c, .int w, .int (N : Nat)] = .ok (rowWO ((List.range N).map nm)) := by
  obtain ⟨b, t, f, q, h1, h2, h3, h4, h5, h6, h7⟩ := names7_fin c w N (by omega)
  refine ⟨nm7 b t f q, fun k => nm7_ok h1 h2 h3 h6 k, fun i j hi hj e => nm7_apart h1 h4 h5 h6 hi hj e, ?_⟩
  rw [mir__law_names, run__law_names]
  exact h7
theorem cell_ok (n : Nat) (ns : List Int) (hl : ns.length ≤ 63) (k : Nat) (hk : k ≤ 1000) : ∃ z : Int, mir (n + 1) 11 [.list (ns.map PyData.int), .int (k : Nat)] = .ok (.d (.int z)) := by
  have ln : gLen [.list (ns.map PyData.int)] = some (.d (.int (ns.length : Nat))) := by
    show some (Ow.d (PyData.int ((ns.map PyData.int).length : Nat))) = _
    rw [List.length_map]
  have lt : gLt (.int (k : Nat)) (.int (ns.length : Nat)) = some (.bool (decide (k < ns.length))) := by
    show some (PyData.bool (decide (((k : Nat) : Int) < ((ns.length : Nat) : Int)))) = _
    congr 2
    exact decide_eq_decide.mpr (by omega)
  rw [mir__law_cell_at, run__law_cell_at]
  have he : envOf 0 [.list (ns.map PyData.int), .int (k : Nat)] = [some (.d (.list (ns.map PyData.int))), some (.d (.int (k : Nat)))] := rfl
  rw [he]
  by_cases c : k < ns.length
  · rw [decide_eq_true c] at lt
    refine ⟨ns[k], ?_⟩
    have ix : gIx (.list (ns.map PyData.int)) (.int (k : Nat)) = some (.int ns[k]) := gIx_natW (by rw [List.getElem?_map, List.getElem?_eq_getElem c]; rfl)
    generalize PyData.list (ns.map PyData.int) = S at *
    generalize ((ns.length : Nat) : Int) = z at *
    simp [ln, lt, ix, SR.andThen, finR]
  · rw [decide_eq_false c] at lt
    refine ⟨0, ?_⟩
    generalize PyData.list (ns.map PyData.int) = S at *
    generalize ((ns.length : Nat) : Int) = z at *
    simp [ln, lt, SR.andThen, finR]
abbrev wdFree : Ev → R Ow := (eLc (eB (eVar 3) itD) (gtName 10) (eB (eBin gNotIn (eVar 10) (eM (eLc (eB (eVar 8) itD) (gtName 11) cYes (eM (eBin gIx (eVar 11) (eC (.int 0))) Ow.d) [11]) viewD)) asB) (eM (eVar 10) Ow.d) [10])
abbrev wdBr : Ev → R Ow := (eM (eM (eCa gTuple (aCons (eB (eLc (eB (aCons (eBin gMod (eBin gDiv (eVar 7) (eC (.int 6))) (eC (.int 5))) aNil) rg1) (gtName 13) cYes (eM (eBin gIx (eVar 2) (eBin gMod (eBin gDiv (eVar 7) (eM (eBinO gAdd (eC (.int 7)) (eBin gMul (eC (.int 3)) (eVar 13))) viewD)) (eVar 1))) Ow.d) [13]) shD) aNil)) viewD) Ow.d)
abbrev wdIn : Ev → SR := (sSeq (sThaw 8 [] [0, 1, 2, 3, 4, 5, 6, 7, 12, 13] (sSet 9 wdFree))
    (sSeq (sSet 12 wdBr)
    (sInsS 8 (eBin gMod (eBin gDiv (eVar 7) (eC (.int 30))) (eM (eBinO gAdd (eB (eCa gLen (aCons (eB (eVarO 8) shD) aNil)) shD) (eC (.int 1))) viewD)) (eM (eTup (aCons (eBin gIx (eB (eVarO 9) shD) (eBin gMod (eBin gDiv (eVar 7) (eC (.int 90))) (eM (eCa gLen (aCons (eB (eVarO 9) shD) aNil)) viewD))) (aCons (eVar 12) aNil))) Ow.d))))
abbrev wdB : Ev → SR := (sSeq (sSet 7 (eM (eBin gMod (eBin gIx (eVar 0) (eVar 6)) (eBin gPow (eC (.int 10)) (eC (.int 20)))) Ow.d))
    (sBor 5 8 (hIx (hIx (hVar 5) (eBin gMod (eVar 7) (eVar 1))) (eC (.int 1)))
    wdIn))
section
variable {ns : List Int} {lots : Nat} {kn nm : Nat → List Nat} {st : Int}
abbrev wdE (ns : List Int) (lots : Nat) (kn nm : Nat → List Nat) (st : Int) (x5 x6 x7 x8 x9 x12 : Option Ow) : Ev := [some (.d (.list (ns.map PyData.int))), some (.d (.int (lots : Nat))), some (.d (rowWD ((List.range lots).map kn))), some (.d (rowWD ((List.range 16).map nm))), some (.d (.int st)), x5, x6, x7, x8, x9, none, none, x12, none]
abbrev rowsO (rs : List WdR) : Ow := .l (rs.map fun r => .d (encRW r))
theorem free_ok (x6 : Option Ow) (N : Int) {rs : List WdR} (hr : ∀ r ∈ rs, NmW r.1) (hn : ∀ i, NmW (nm i)) (hl : rs.length ≤ 100) (x5 x9 x12 : Option Ow) : wdFree (wdE ns lots kn nm st x5 x6 (some (.d (.int N))) (some (.d (.list (rs.map encRW)))) x9 x12) = .ok (rowWO (((List.range 16).map nm).filter fun z => !(rs.map (·.1)).any fun x => x == z)) := by
  show eLc (eB (eVar 3) itD) (gtName 10) (eB (eBin gNotIn (eVar 10) (eM (eLc (eB (eVar 8) itD) (gtName 11) cYes (eM (eBin gIx (eVar 11) (eC (.int 0))) Ow.d) [11]) viewD)) asB) (eM (eVar 10) Ow.d) [10] _ = _
  refine eLc_of (ds := ((List.range 16).map nm).map fun w => .str (tx w)) rfl (by rw [List.length_map, List.length_map, List.length_range, sizeLine_eq]; omega) ?_
  refine lcR_filt (fun w : List Nat => PyData.str (tx w)) (fun z => !(rs.map (·.1)).any fun x => x == z) (fun w => Ow.d (.str (tx w))) ((List.range 16).map nm) fun z hz => ?_
  refine ⟨[some (.d (.list (ns.map PyData.int))), some (.d (.int (lots : Nat))), some (.d (rowWD ((List.range lots).map kn))), some (.d (rowWD ((List.range 16).map nm))), some (.d (.int st)), x5, x6, some (.d (.int N)), some (.d (.list (rs.map encRW))), x9, some (.d (.str (tx z))), none, x12, none], rfl, ?_, fun _ => rfl⟩
  obtain ⟨i, _, rfl⟩ := List.mem_map.mp hz
  have lc : (eLc (eB (eVar 8) itD) (gtName 11) cYes (eM (eBin gIx (eVar 11) (eC (.int 0))) Ow.d) [11]) [some (.d (.list (ns.map PyData.int))), some (.d (.int (lots : Nat))), some (.d (rowWD ((List.range lots).map kn))), some (.d (rowWD ((List.range 16).map nm))), some (.d (.int st)), x5, x6, some (.d (.int N)), some (.d (.list (rs.map encRW))), x9, some (.d (.str (tx (nm i)))), none, x12, none] = .ok (.l (rs.map fun r => .d (.str (tx r.1)))) := by
    refine eLc_of (ds := rs.map encRW) rfl (by rw [List.length_map, sizeLine_eq]; omega) ?_
    refine lcR_map encRW (fun r => Ow.d (.str (tx r.1))) rs fun r hr => ⟨[some (.d (.list (ns.map PyData.int))), some (.d (.int (lots : Nat))), some (.d (rowWD ((List.range lots).map kn))), some (.d (rowWD ((List.range 16).map nm))), some (.d (.int st)), x5, x6, some (.d (.int N)), some (.d (.list (rs.map encRW))), x9, some (.d (.str (tx (nm i)))), some (.d (encRW r)), x12, none], rfl, rfl, ?_⟩
    have i0 : gIx (encRW r) (.int 0) = some (.str (tx r.1)) := by rw [encRW_eq]; rfl
    have v : eVar 11 [some (.d (.list (ns.map PyData.int))), some (.d (.int (lots : Nat))), some (.d (rowWD ((List.range lots).map kn))), some (.d (rowWD ((List.range 16).map nm))), some (.d (.int st)), x5, x6, some (.d (.int N)), some (.d (.list (rs.map encRW))), x9, some (.d (.str (tx (nm i)))), some (.d (encRW r)), x12, none] = .ok (encRW r) := rfl
    rw [eM_eq, eBin_eq, v, R.bind_ok, eC_eq, R.bind_ok, i0]
    rfl
  have vw : viewD (.l (rs.map fun r => .d (.str (tx r.1)))) = .list ((rs.map fun r => tx r.1).map PyData.str) := by
    rw [List.map_map]
    exact viewD_of (fun r : WdR => PyData.str (tx r.1)) rs
  have ni := notIn_strs (k := tx (nm i)) (ks := rs.map fun r => tx r.1) (hn i).ok fun z hz => by
    obtain ⟨r, h, rfl⟩ := List.mem_map.mp hz
    exact (hr r h).ok
  have an : ((rs.map fun r => tx r.1).any fun z => z == tx (nm i)) = ((rs.map (·.1)).any fun x => x == nm i) := by
    rw [List.any_map, List.any_map]
    congr 1
    funext r
    show (tx r.1 == tx (nm i)) = (r.1 == nm i)
    by_cases c : r.1 = nm i
    · rw [c, beq_self_eq_true, beq_self_eq_true]
    · rw [beq_eq_false_iff_ne.mpr c, beq_eq_false_iff_ne.mpr fun e => c (tx_inj e)]
  have v10 : eVar 10 [some (.d (.list (ns.map PyData.int))), some (.d (.int (lots : Nat))), some (.d (rowWD ((List.range lots).map kn))), some (.d (rowWD ((List.range 16).map nm))), some (.d (.int st)), x5, x6, some (.d (.int N)), some (.d (.list (rs.map encRW))), x9, some (.d (.str (tx (nm i)))), none, x12, none] = .ok (.str (tx (nm i))) := rfl
  rw [eB_eq, eBin_eq, v10, R.bind_ok, eM_eq, lc, R.map_ok, R.bind_ok, vw, ni, an]
  rfl
theorem br_ok (x6 : Option Ow) {N : Int} (N0 : 0 ≤ N) (N1 : N < 10 ^ 20) (l1 : 1 ≤ lots) (l2 : lots ≤ 6) (x5 x8 x9 x12 : Option Ow) : ∃ br : List (List Nat), br.length ≤ 4 ∧ (∀ b ∈ br, ∃ i, i < lots ∧ b = kn i) ∧ wdBr (wdE ns lots kn nm st x5 x6 (some (.d (.int N))) x8 x9 x12) = .ok (.d (.tuple (br.map fun b => .str (tx b)))) := by
  have d6 : gDiv (.int N) (.int 6) = some (.int (N / 6)) := gDiv_small (by omega) (by omega)
  have m5 : gMod (.int (N / 6)) (.int 5) = some (.int (N / 6 % 5)) := gMod_int (by decide)
  obtain ⟨c, hc⟩ : ∃ c : Nat, N / 6 % 5 = (c : Int) := ⟨(N / 6 % 5).toNat, by omega⟩
  have c4 : c ≤ 4 := by omega
  let ix := fun j : Nat => (N / (7 + 3 * (j : Int)) % (lots : Int)).toNat
  have il : ∀ j : Nat, ix j < lots ∧ N / (7 + 3 * (j : Int)) % (lots : Int) = ((ix j : Nat) : Int) := fun j => by
    have a := Int.emod_nonneg (N / (7 + 3 * (j : Int))) (show (lots : Int) ≠ 0 by omega)
    have b := Int.emod_lt_of_pos (N / (7 + 3 * (j : Int))) (show (0 : Int) < (lots : Int) by omega)
    show (N / (7 + 3 * (j : Int)) % (lots : Int)).toNat < lots ∧ _ = (((N / (7 + 3 * (j : Int)) % (lots : Int)).toNat : Nat) : Int)
    omega
  refine ⟨(List.range c).map fun j => kn (ix j), by rw [List.length_map, List.length_range]; exact c4, fun b hb => ?_, ?_⟩
  · obtain ⟨j, _, rfl⟩ := List.mem_map.mp hb
    exact ⟨ix j, (il j).1, rfl⟩
  · have lc : (eLc (eB (aCons (eBin gMod (eBin gDiv (eVar 7) (eC (.int 6))) (eC (.int 5))) aNil) rg1) (gtName 13) cYes (eM (eBin gIx (eVar 2) (eBin gMod (eBin gDiv (eVar 7) (eM (eBinO gAdd (eC (.int 7)) (eBin gMul (eC (.int 3)) (eVar 13))) viewD)) (eVar 1))) Ow.d) [13]) (wdE ns lots kn nm st x5 x6 (some (.d (.int N))) x8 x9 x12) = .ok (rowWO ((List.range c).map fun j => kn (ix j))) := by
      have e : rowWO ((List.range c).map fun j => kn (ix j)) = .l ((List.range c).map fun j => .d (.str (tx (kn (ix j))))) := by
        unfold rowWO
        rw [List.map_map]
        rfl
      rw [e]
      refine eLc_of (ds := rangeD 0 c) ?_ (by rw [rangeD_len, sizeLine_eq]; omega) ?_
      · have v7 : eVar 7 (wdE ns lots kn nm st x5 x6 (some (.d (.int N))) x8 x9 x12) = .ok (.int N) := rfl
        rw [eB_eq, aCons_eq, eBin_eq, eBin_eq, v7, R.bind_ok, eC_eq, R.bind_ok, d6, R.of_some, R.bind_ok, eC_eq, R.bind_ok, m5, R.of_some, R.bind_ok, aNil_eq, R.map_ok, R.bind_ok, hc]
        exact rg1_nat c (by omega)
      · rw [rangeD_map]
        refine lcR_map (fun j : Nat => PyData.int (j : Nat)) (fun j => Ow.d (.str (tx (kn (ix j))))) (List.range c) fun j hj => ⟨[some (.d (.list (ns.map PyData.int))), some (.d (.int (lots : Nat))), some (.d (rowWD ((List.range lots).map kn))), some (.d (rowWD ((List.range 16).map nm))), some (.d (.int st)), x5, x6, some (.d (.int N)), x8, x9, none, none, x12, some (.d (.int (j : Nat)))], rfl, rfl, ?_⟩
        have jc := List.mem_range.mp hj
        obtain ⟨i1, i2⟩ := il j
        have g3 : gMul (.int 3) (.int (j : Nat)) = some (.int (3 * (j : Nat))) := gMul_by (by omega) (by omega)
        have dv : gDiv (.int N) (.int (7 + 3 * (j : Nat))) = some (.int (N / (7 + 3 * (j : Nat)))) := gDiv_small (by omega) (by omega)
        have md : gMod (.int (N / (7 + 3 * (j : Nat)))) (.int (lots : Nat)) = some (.int ((ix j : Nat) : Int)) := by rw [← i2]; exact gMod_int (by omega)
        have kx : gIx (rowWD ((List.range lots).map kn)) (.int ((ix j : Nat) : Int)) = some (.str (tx (kn (ix j)))) := ix_wl (by rw [List.getElem?_map, List.getElem?_range i1]; rfl)
        generalize rowWD ((List.range lots).map kn) = KL at *
        generalize rowWD ((List.range 16).map nm) = NL
        generalize PyData.list (ns.map PyData.int) = S
        generalize ((ix j : Nat) : Int) = z at *
        generalize N / (7 + 3 * ((j : Nat) : Int)) = y at *
        simp [g3, dv, md, kx]
    have gt : gTuple [rowWD ((List.range c).map fun j => kn (ix j))] = some (.d (.tuple (((List.range c).map fun j => kn (ix j)).map fun b => .str (tx b)))) := rfl
    show (eM (eM (eCa gTuple _) viewD) Ow.d) _ = _
    rw [eM_eq, eM_eq, eCa_eq, aCons_eq, eB_eq, lc, R.bind_ok, sh_rowWO, R.bind_ok, aNil_eq, R.map_ok, R.bind_ok, gt]
    rfl
end
end
end G
set_option Elab.async false
set_option linter.all false
set_option maxRecDepth 100000
set_option maxHeartbeats 4000000
namespace G
open PySem PySem.Spec L2 Mir
noncomputable section
theorem clean_wl (ws : List (List Nat)) : cleanO (rowWO ws) = true := by
  have := clean_lsX (xs := ws.map fun w => PyData.str (tx w)) fun x hx => by
    obtain ⟨w, _, rfl⟩ := List.mem_map.mp hx
    rw [cleanD]
  rw [List.map_map] at this
  exact this
theorem vw_rows (rs : List WdR) : viewD (rowsO rs) = .list (rs.map encRW) := viewD_of (fun r : WdR => encRW r) rs
theorem hole_ok {g : Ev → R PyData} {env : Ev} {w : List WdK} {a : Nat} {k : WdK} (h5 : env[5]? = some (some (woodO w))) (hg : g env = .ok (.int (a : Nat))) (hk : w[a]? = some k) : (hIx (hIx (hVar 5) g) (eC (.int 1))) env = .ok (rowsO k.2, fun o' => .l ((w.map kindO).set a (.t [.d (.str (tx k.1)), o']))) := by
  have al := (List.getElem?_eq_some_iff.mp hk).1
  have v : hVar 5 env = .ok (.l (w.map kindO), id) := by unfold hVar; rw [h5]; rfl
  have s1 : (hIx (hVar 5) g) env = .ok (kindO k, fun o' => .l ((w.map kindO).set a o')) := by
    unfold hIx
    rw [v, R.bind_ok, hg, R.bind_ok]
    have hx : (w.map kindO)[a]? = some (kindO k) := by rw [List.getElem?_map, hk]; rfl
    have hn : ixN (w.map kindO).length (a : Int) = some a := ixN_nat (by rw [List.length_map]; exact al)
    unfold ixH
    simp only [hn, hx]
    rfl
  unfold hIx at s1 ⊢
  rw [s1, R.bind_ok]
  rfl
section
variable {ns : List Int} {lots : Nat} {kn nm : Nat → List Nat} {st : Int}
theorem wdB_ok (hn : ∀ i, NmW (nm i)) (ni : ∀ i j, i < 16 → j < 16 → nm i = nm j → i = j) (l1 : 1 ≤ lots) (l2 : lots ≤ 6) {w : List WdK} {s : Nat} (h : DrW kn nm lots w s) (hs : s ≤ 15) {k : Nat} (hk : k < ns.length) (x7 x8 x9 x12 : Option Ow) (h12 : x12 = none ∨ ∃ d, x12 = some (.d d)) : ∃ w' y7 y8 y9 y12, DrW kn nm lots w' (s + 1) ∧ (y12 = none ∨ ∃ d, y12 = some (.d d)) ∧ wdB (wdE ns lots kn nm st (some (woodO w)) (some (.d (.int (k : Nat)))) x7 x8 x9 x12) = .nx (wdE ns lots kn nm st (some (woodO w')) (some (.d (.int (k : Nat)))) y7 y8 y9 y12) := by
  obtain ⟨N, hN⟩ : ∃ N : Int, N = ns[k] % 10 ^ 20 := ⟨_, rfl⟩
  have N0 : 0 ≤ N := by rw [hN]; exact Int.emod_nonneg _ (by decide)
  have N1 : N < 10 ^ 20 := by rw [hN]; exact Int.emod_lt_of_pos _ (by decide)
  have p20 : gPow (.int 10) (.int 20) = some (.int (10 ^ 20)) := gPow10 20 (by decide)
  have ix : gIx (.list (ns.map PyData.int)) (.int (k : Nat)) = some (.int ns[k]) := gIx_natW (by rw [List.getElem?_map, List.getElem?_eq_getElem hk]; rfl)
  have mN : gMod (.int ns[k]) (.int (10 ^ 20)) = some (.int N) := by rw [hN]; exact gMod_int (by decide)
  -- the kind
  obtain ⟨a, ha⟩ : ∃ a : Nat, N % (lots : Int) = (a : Int) := ⟨(N % (lots : Int)).toNat, by have := Int.emod_nonneg N (show (lots : Int) ≠ 0 by omega); omega⟩
  have al : a < lots := by have := Int.emod_lt_of_pos N (show (0 : Int) < (lots : Int) by omega); omega
  have wl := h.len
  obtain ⟨kd, hkd⟩ : ∃ kd, w[a]? = some kd := ⟨_, List.getElem?_eq_getElem (by omega)⟩
  have km := List.mem_of_getElem? hkd
  have rl := h.le km
  have rn : ∀ r ∈ kd.2, NmW r.1 := fun r hr => by
    obtain ⟨⟨j, _, e⟩, _⟩ := h.rows kd km r hr
    rw [e]; exact hn j
  have md : gMod (.int N) (.int (lots : Nat)) = some (.int (a : Nat)) := by rw [← ha]; exact gMod_int (by omega)
  -- the free names
  have fr := h.free hs ni km
  have fm : ∀ z ∈ ((List.range 16).map nm).filter (fun z => !(kd.2.map (·.1)).any fun x => x == z), (∃ j, j < 16 ∧ z = nm j) ∧ z ∉ kd.2.map (·.1) := fun z hz => by
    rw [List.mem_filter] at hz
    obtain ⟨j, hj, e⟩ := List.mem_map.mp hz.1
    refine ⟨⟨j, List.mem_range.mp hj, e.symm⟩, fun m => ?_⟩
    have q := hz.2
    rw [Bool.not_eq_true', List.any_eq_false] at q
    exact q z m (by simp)
  have fl : (((List.range 16).map nm).filter fun z => !(kd.2.map (·.1)).any fun x => x == z).length ≤ 16 := by
    have := List.length_filter_le (fun z => !(kd.2.map (·.1)).any fun x => x == z) ((List.range 16).map nm)
    rw [List.length_map, List.length_range] at this
    exact this
  have frE := fun x5 x9 x12 => free_ok (ns := ns) (lots := lots) (kn := kn) (nm := nm) (st := st) (some (.d (.int (k : Nat)))) N rn hn (by omega) x5 x9 x12
  generalize ((List.range 16).map nm).filter (fun z => !(kd.2.map (·.1)).any fun x => x == z) = FL at fr fm fl frE
  obtain ⟨j, hj⟩ : ∃ j : Nat, N / 90 % (FL.length : Int) = (j : Int) := ⟨(N / 90 % (FL.length : Int)).toNat, by have := Int.emod_nonneg (N / 90) (show (FL.length : Int) ≠ 0 by omega); omega⟩
  have jl : j < FL.length := by have := Int.emod_lt_of_pos (N / 90) (show (0 : Int) < (FL.length : Int) by omega); omega
  obtain ⟨z, hz⟩ : ∃ z, FL[j]? = some z := ⟨_, List.getElem?_eq_getElem jl⟩
  obtain ⟨⟨jj, jj16, ez⟩, zn⟩ := fm z (List.mem_of_getElem? hz)
  -- the place
  obtain ⟨p, hp⟩ : ∃ p : Nat, N / 30 % ((kd.2.length : Int) + 1) = (p : Int) := ⟨(N / 30 % ((kd.2.length : Int) + 1)).toNat, by have := Int.emod_nonneg (N / 30) (show (kd.2.length : Int) + 1 ≠ 0 by omega); omega⟩
  have pl : p ≤ kd.2.length := by have := Int.emod_lt_of_pos (N / 30) (show (0 : Int) < (kd.2.length : Int) + 1 by omega); omega
  obtain ⟨br, b4, bk, eb⟩ := br_ok (ns := ns) (lots := lots) (kn := kn) (nm := nm) (st := st) (some (.d (.int (k : Nat)))) N0 N1 l1 l2 none (some (rowsO kd.2)) (some (rowWO FL)) x12
  refine ⟨w.set a (kd.1, insR p (z, br) kd.2), some (.d (.int N)), none, some (rowWO FL), some (.d (.tuple (br.map fun b => .str (tx b)))), by rw [ez]; exact h.ins hkd jj16 (by rw [← ez]; exact zn) b4 bk, .inr ⟨_, rfl⟩, ?_⟩
  show sSeq _ _ _ = _
  rw [sqW (e1 := wdE ns lots kn nm st (some (woodO w)) (some (.d (.int (k : Nat)))) (some (.d (.int N))) x8 x9 x12) (by
    have v0 : eVar 0 (wdE ns lots kn nm st (some (woodO w)) (some (.d (.int (k : Nat)))) x7 x8 x9 x12) = .ok (.list (ns.map PyData.int)) := rfl
    have v6 : eVar 6 (wdE ns lots kn nm st (some (woodO w)) (some (.d (.int (k : Nat)))) x7 x8 x9 x12) = .ok (.int (k : Nat)) := rfl
    rw [sSet_eq, eM_eq, eBin_eq, eBin_eq, v0, R.bind_ok, v6, R.bind_ok, ix, R.of_some, R.bind_ok, eBin_eq, eC_eq, R.bind_ok, eC_eq, R.bind_ok, p20, R.of_some, R.bind_ok, mN, R.of_some, R.map_ok, R.st_ok]
    rfl)]
  have pe := hole_ok (env := wdE ns lots kn nm st (some (woodO w)) (some (.d (.int (k : Nat)))) (some (.d (.int N))) x8 x9 x12) (w := w) (g := eBin gMod (eVar 7) (eVar 1)) rfl (by
    have v7 : eVar 7 (wdE ns lots kn nm st (some (woodO w)) (some (.d (.int (k : Nat)))) (some (.d (.int N))) x8 x9 x12) = .ok (.int N) := rfl
    have v1 : eVar 1 (wdE ns lots kn nm st (some (woodO w)) (some (.d (.int (k : Nat)))) (some (.d (.int N))) x8 x9 x12) = .ok (.int (lots : Nat)) := rfl
    rw [eBin_eq, v7, R.bind_ok, v1, R.bind_ok, md]
    rfl) hkd
  -- inside
  have th : sThaw 8 [] [0, 1, 2, 3, 4, 5, 6, 7, 12, 13] (sSet 9 wdFree) (wdE ns lots kn nm st none (some (.d (.int (k : Nat)))) (some (.d (.int N))) (some (rowsO kd.2)) x9 x12) = .nx (wdE ns lots kn nm st none (some (.d (.int (k : Nat)))) (some (.d (.int N))) (some (rowsO kd.2)) (some (rowWO FL)) x12) := by
    refine (sThaw_nx (i := 8) (o := rowsO kd.2) (env' := wdE ns lots kn nm st none (some (.d (.int (k : Nat)))) (some (.d (.int N))) (some (.d (.list (kd.2.map encRW)))) (some (rowWO FL)) x12) rfl ?_ (okThaw_ofX ?_) (by show 8 < 14; decide)).trans rfl
    · rw [vw_rows]
      show (sSet 9 wdFree) (wdE ns lots kn nm st none (some (.d (.int (k : Nat)))) (some (.d (.int N))) (some (.d (.list (kd.2.map encRW)))) x9 x12) = _
      rw [sSet_eq, frE]
      rfl
    · rcases h12 with rfl | ⟨d, rfl⟩
      · exact okF_consX okKX (okF_consX okKX (okF_consX okKX (okF_consX okKX (okF_consX okKX (okF_consX okNX (okF_consX okKX (okF_consX okKX (okF_consX okIX (okF_consX (okCX (clean_wl FL)) (okF_consX okNX (okF_consX okNX (okF_consX okNX (okF_consX okNX okF_nilX)))))))))))))
      · exact okF_consX okKX (okF_consX okKX (okF_consX okKX (okF_consX okKX (okF_consX okKX (okF_consX okNX (okF_consX okKX (okF_consX okKX (okF_consX okIX (okF_consX (okCX (clean_wl FL)) (okF_consX okNX (okF_consX okNX (okF_consX okKX (okF_consX okNX okF_nilX)))))))))))))
  have s12 : (sSet 12 wdBr) (wdE ns lots kn nm st none (some (.d (.int (k : Nat)))) (some (.d (.int N))) (some (rowsO kd.2)) (some (rowWO FL)) x12) = .nx (wdE ns lots kn nm st none (some (.d (.int (k : Nat)))) (some (.d (.int N))) (some (rowsO kd.2)) (some (rowWO FL)) (some (.d (.tuple (br.map fun b => .str (tx b)))))) := by
    rw [sSet_eq, eb]
    rfl
  let E3 := wdE ns lots kn nm st none (some (.d (.int (k : Nat)))) (some (.d (.int N))) (some (rowsO kd.2)) (some (rowWO FL)) (some (.d (.tuple (br.map fun b => .str (tx b)))))
  have v7 : eVar 7 E3 = .ok (.int N) := rfl
  have g1 : (eBin gMod (eBin gDiv (eVar 7) (eC (.int 30))) (eM (eBinO gAdd (eB (eCa gLen (aCons (eB (eVarO 8) shD) aNil)) shD) (eC (.int 1))) viewD)) E3 = .ok (.int (p : Nat)) := by
    have d30 : gDiv (.int N) (.int 30) = some (.int (N / 30)) := gDiv_small (by omega) (by omega)
    have mp : gMod (.int (N / 30)) (.int ((kd.2.length : Int) + 1)) = some (.int (p : Nat)) := by rw [← hp]; exact gMod_int (by omega)
    have ln : gLen [.list (kd.2.map encRW)] = some (.d (.int (kd.2.length : Nat))) := by
      show some (Ow.d (PyData.int ((kd.2.map encRW).length : Nat))) = _
      rw [List.length_map]
    have sh : shD (rowsO kd.2) = .ok (.list (kd.2.map encRW)) := by
      have := shD_l (kd.2.map encRW)
      rw [List.map_map] at this
      exact this
    have v8 : eVarO 8 E3 = .ok (rowsO kd.2) := rfl
    rw [eBin_eq, eBin_eq, v7, R.bind_ok, eC_eq, R.bind_ok, d30, R.of_some, R.bind_ok, eM_eq, eBinO_eq, eB_eq, eCa_eq, aCons_eq, eB_eq, v8, R.bind_ok, sh, R.bind_ok, aNil_eq, R.map_ok, R.bind_ok, ln, R.of_some, R.bind_ok]
    show (R.bind (R.map viewD (R.bind (R.ok (PyData.int (kd.2.length : Nat))) fun x => R.bind (eC (.int 1) E3) fun y => R.of (gAdd x y))) _) = _
    rw [R.bind_ok, eC_eq, R.bind_ok, gAdd_int, R.of_some, R.map_ok, viewD_d, R.bind_ok, mp]
    rfl
  have f1 : (eM (eTup (aCons (eBin gIx (eB (eVarO 9) shD) (eBin gMod (eBin gDiv (eVar 7) (eC (.int 90))) (eM (eCa gLen (aCons (eB (eVarO 9) shD) aNil)) viewD))) (aCons (eVar 12) aNil))) Ow.d) E3 = .ok (.d (encRW (z, br))) := by
    have d90 : gDiv (.int N) (.int 90) = some (.int (N / 90)) := gDiv_small (by omega) (by omega)
    have mp : gMod (.int (N / 90)) (.int (FL.length : Nat)) = some (.int (j : Nat)) := by rw [← hj]; exact gMod_int (by omega)
    have ln := len_wl FL
    have xz : gIx (rowWD FL) (.int (j : Nat)) = some (.str (tx z)) := ix_wl hz
    have v9 : (eB (eVarO 9) shD) E3 = .ok (rowWD FL) := by
      show ((R.ok (rowWO FL)).bind shD) = _
      rw [R.bind_ok, sh_rowWO]
    have v12 : eVar 12 E3 = .ok (.tuple (br.map fun b => .str (tx b))) := rfl
    rw [eM_eq, eTup_eq, aCons_eq, eBin_eq, v9, R.bind_ok, eBin_eq, eBin_eq, v7, R.bind_ok, eC_eq, R.bind_ok, d90, R.of_some, R.bind_ok, eM_eq, eCa_eq, aCons_eq, v9, R.bind_ok, aNil_eq, R.map_ok, R.bind_ok, ln, R.of_some, R.map_ok, viewD_d, R.bind_ok, mp, R.of_some, R.bind_ok, xz, R.of_some, R.bind_ok, aCons_eq, v12, R.bind_ok, aNil_eq, R.map_ok, R.map_ok, R.bind_ok, guard_pos (by rw [sizeLine_eq]; simp), encRW_eq]
    rfl
  have ins : (sInsS 8 (eBin gMod (eBin gDiv (eVar 7) (eC (.int 30))) (eM (eBinO gAdd (eB (eCa gLen (aCons (eB (eVarO 8) shD) aNil)) shD) (eC (.int 1))) viewD)) (eM (eTup (aCons (eBin gIx (eB (eVarO 9) shD) (eBin gMod (eBin gDiv (eVar 7) (eC (.int 90))) (eM (eCa gLen (aCons (eB (eVarO 9) shD) aNil)) viewD))) (aCons (eVar 12) aNil))) Ow.d)) E3 = .nx (wdE ns lots kn nm st none (some (.d (.int (k : Nat)))) (some (.d (.int N))) (some (rowsO (insR p (z, br) kd.2))) (some (rowWO FL)) (some (.d (.tuple (br.map fun b => .str (tx b)))))) := by
    rw [sInsS_of (os := kd.2.map fun r => .d (encRW r)) (n := p) (r := .d (encRW (z, br))) rfl g1 f1 (by rw [List.length_map]; omega) (by omega)]
    have e : (kd.2.map fun r => Ow.d (encRW r)).take p ++ [Ow.d (encRW (z, br))] ++ (kd.2.map fun r => Ow.d (encRW r)).drop p = (insR p (z, br) kd.2).map fun r => .d (encRW r) := by
      unfold insR
      rw [List.map_append, List.map_append, List.map_take, List.map_drop]
      rfl
    rw [e]
    rfl
  have inn : wdIn (wdE ns lots kn nm st none (some (.d (.int (k : Nat)))) (some (.d (.int N))) (some (rowsO kd.2)) x9 x12) = .nx (wdE ns lots kn nm st none (some (.d (.int (k : Nat)))) (some (.d (.int N))) (some (rowsO (insR p (z, br) kd.2))) (some (rowWO FL)) (some (.d (.tuple (br.map fun b => .str (tx b)))))) := by
    show sSeq _ _ _ = _
    rw [sqW th]
    show sSeq _ _ _ = _
    rw [sqW s12]
    exact ins
  unfold sBor
  rw [pe]
  simp only
  rw [if_pos ⟨by show 8 < 14; decide, by decide⟩]
  show fixB 5 8 _ (wdIn (wdE ns lots kn nm st none (some (.d (.int (k : Nat)))) (some (.d (.int N))) (some (rowsO kd.2)) x9 x12)) = _
  rw [inn]
  have e : (Ow.l ((w.map kindO).set a (.t [.d (.str (tx kd.1)), rowsO (insR p (z, br) kd.2)]))) = woodO (w.set a (kd.1, insR p (z, br) kd.2)) := by
    unfold woodO
    rw [List.map_set]
    rfl
  rw [← e]
  rfl
end
end
end G
set_option Elab.async false
set_option linter.all false
set_option maxRecDepth 100000
set_option maxHeartbeats 4000000
namespace G
open PySem PySem.Spec L2 Mir
noncomputable section
theorem drW0 {kn nm : Nat → List Nat} {lots : Nat} (f : Nat → Nat) (hf : ∀ k, f k < 16) : DrW kn nm lots ((List.range lots).map fun k => (kn k, [(nm (f k), [])])) lots := by
  refine ⟨?_, ?_, fun k hk r hr => ?_, fun k hk => ?_, fun k hk => ?_⟩
  · rw [List.map_map]; rfl
  · rw [List.map_map]
    have : ∀ l : List Nat, (l.map ((fun k : WdK => k.2.length) ∘ fun k => (kn k, [(nm (f k), [])]))).sum = l.length := fun l => by
      induction l with
      | nil => rfl
      | cons x l ih => rw [List.map_cons, List.sum_cons, ih, List.length_cons]; show 1 + _ = _; omega
    rw [this, List.length_range]
  · obtain ⟨i, _, rfl⟩ := List.mem_map.mp hk
    rw [List.mem_singleton.mp hr]
    exact ⟨⟨f i, hf i, rfl⟩, by simp, fun b hb => by cases hb⟩
  · obtain ⟨i, _, rfl⟩ := List.mem_map.mp hk
    simp
  · obtain ⟨i, _, rfl⟩ := List.mem_map.mp hk
    exact ⟨_, List.mem_singleton.mpr rfl, rfl⟩
/-- the drawn wood -/
theorem wood_ok (n : Nat) (ns : List Int) (hl : ns.length ≤ 63) : ∃ w : List WdK, OkWd w ∧ w.length ≤ 6 ∧ (w.map fun k => k.2.length).sum ≤ 16 ∧ mir (n + 3) 13 [.list (ns.map PyData.int)] = .ok (woodO w) := by
  obtain ⟨z0, c0⟩ := cell_ok (n + 1) ns hl 0 (by omega)
  obtain ⟨z1, c1⟩ := cell_ok (n + 1) ns hl 1 (by omega)
  obtain ⟨z2, c2⟩ := cell_ok (n + 1) ns hl 2 (by omega)
  obtain ⟨z3, c3⟩ := cell_ok (n + 1) ns hl 3 (by omega)
  obtain ⟨z4, c4⟩ := cell_ok (n + 1) ns hl 4 (by omega)
  obtain ⟨z5, c5⟩ := cell_ok (n + 1) ns hl 5 (by omega)
  obtain ⟨kn, k1, k2, ek⟩ := names_ok (n + 1) z1 z2 6 (by omega)
  obtain ⟨nm, n1, n2, en⟩ := names_ok (n + 1) z3 z4 16 (by omega)
  obtain ⟨lots, hlots⟩ : ∃ l : Nat, 1 + z0 % 6 = (l : Int) := ⟨(1 + z0 % 6).toNat, by omega⟩
  have l1 : 1 ≤ lots := by omega
  have l2 : lots ≤ 6 := by omega
  obtain ⟨st, hst⟩ : ∃ st : Int, st = z5 % 10 ^ 9 := ⟨_, rfl⟩
  have st0 : 0 ≤ st := by rw [hst]; exact Int.emod_nonneg _ (by decide)
  have st1 : st < 10 ^ 9 := by rw [hst]; exact Int.emod_lt_of_pos _ (by decide)
  have p9 : gPow (.int 10) (.int 9) = some (.int (10 ^ 9)) := gPow10 9 (by decide)
  have m9 : gMod (.int z5) (.int (10 ^ 9)) = some (.int st) := by rw [hst]; exact gMod_int (by decide)
  have m6 : gMod (.int z0) (.int 6) = some (.int (z0 % 6)) := gMod_int (by decide)
  obtain ⟨S, hS⟩ : ∃ S, S = PyData.list (ns.map PyData.int) := ⟨_, rfl⟩
  rw [mir__law_wood, run__law_wood]
  have he : envOf 13 [.list (ns.map PyData.int)] = [some (.d (.list (ns.map PyData.int))), none, none, none, none, none, none, none, none, none, none, none, none, none] := rfl
  rw [he]
  rw [← hS] at c0 c1 c2 c3 c4 c5 ⊢
  have c0 : mir (n + 2) 11 [S, .int 0] = .ok (.d (.int z0)) := c0
  have c1 : mir (n + 2) 11 [S, .int 1] = .ok (.d (.int z1)) := c1
  have c2 : mir (n + 2) 11 [S, .int 2] = .ok (.d (.int z2)) := c2
  have c3 : mir (n + 2) 11 [S, .int 3] = .ok (.d (.int z3)) := c3
  have c4 : mir (n + 2) 11 [S, .int 4] = .ok (.d (.int z4)) := c4
  have c5 : mir (n + 2) 11 [S, .int 5] = .ok (.d (.int z5)) := c5
  have ek : mir (n + 2) 12 [.int z1, .int z2, .int 6] = .ok (rowWO ((List.range 6).map kn)) := ek
  have en : mir (n + 2) 12 [.int z3, .int z4, .int 16] = .ok (rowWO ((List.range 16).map nm)) := en
  let fz := fun k : Nat => (st / ((k : Int) + 1) % 16).toNat
  have fl : ∀ k, fz k < 16 := fun k => by
    have := Int.emod_lt_of_pos (st / ((k : Int) + 1)) (show (0 : Int) < 16 by decide)
    have := Int.emod_nonneg (st / ((k : Int) + 1)) (show (16 : Int) ≠ 0 by decide)
    show (st / ((k : Int) + 1) % 16).toNat < 16
    omega
  have d0 := drW0 (kn := kn) (nm := nm) (lots := lots) fz fl
  -- how many steps
  obtain ⟨m, hm, hm2⟩ : ∃ m : Nat, ((if ((22 : Int) - (lots : Nat)) < ((ns.length : Nat) : Int) then (22 : Int) - (lots : Nat) else ((ns.length : Nat) : Int)) - 6).toNat = m ∧ (6 + m ≤ ns.length ∨ m = 0) ∧ m + lots ≤ 16 := by
    refine ⟨_, rfl, ?_, ?_⟩ <;> split <;> omega
  let W0 := (List.range lots).map fun k => (kn k, [(nm (fz k), ([] : List (List Nat)))])
  have loop : ∀ (q i : Nat) (w : List WdK) (x6 x7 x8 x9 x12 : Option Ow), q + i = m → DrW kn nm lots w (lots + i) → (x12 = none ∨ ∃ d, x12 = some (.d d)) → ∃ w' y6 y7 y8 y9 y12, DrW kn nm lots w' (lots + m) ∧ forL (gtName 6) wdB ((List.range q).map fun t => PyData.int (6 + ((i + t : Nat) : Int))) (wdE ns lots kn nm st (some (woodO w)) x6 x7 x8 x9 x12) = .nx (wdE ns lots kn nm st (some (woodO w')) y6 y7 y8 y9 y12) := by
    intro q
    induction q with
    | zero =>
      intro i w x6 x7 x8 x9 x12 hq h _
      have : i = m := by omega
      subst this
      exact ⟨w, x6, x7, x8, x9, x12, h, rfl⟩
    | succ q ih =>
      intro i w x6 x7 x8 x9 x12 hq h h12
      obtain ⟨w', y7, y8, y9, y12, d', g12, st'⟩ := wdB_ok (ns := ns) (st := st) n1 (fun a b ha hb e => n2 a b (by omega) (by omega) e) l1 l2 h (by omega) (k := 6 + i) (by omega) x7 x8 x9 x12 h12
      obtain ⟨w2, u6, u7, u8, u9, u12, d2, e2⟩ := ih (i + 1) w' (some (.d (.int ((6 + i : Nat) : Int)))) y7 y8 y9 y12 (by omega) (by rw [← Nat.add_assoc]; exact d') g12
      refine ⟨w2, u6, u7, u8, u9, u12, d2, ?_⟩
      rw [List.range_succ_eq_map, List.map_cons, List.map_map]
      have e0 : PyData.int (6 + ((i + 0 : Nat) : Int)) = .int ((6 + i : Nat) : Int) := by congr 1
      rw [e0, forL_nx (g := gtName 6) (env1 := wdE ns lots kn nm st (some (woodO w)) (some (.d (.int ((6 + i : Nat) : Int)))) x7 x8 x9 x12) rfl st']
      have e1 : ((List.range q).map ((fun t => PyData.int (6 + ((i + t : Nat) : Int))) ∘ Nat.succ)) = (List.range q).map fun t => PyData.int (6 + ((i + 1 + t : Nat) : Int)) := List.map_congr_left fun t _ => by show PyData.int _ = PyData.int _; congr 1; omega
      rw [e1, e2]
  obtain ⟨w, y6, y7, y8, y9, y12, dW, eL⟩ := loop m 0 W0 none none none none none (by omega) d0 (.inl rfl)
  refine ⟨w, dW.ok (by omega) l1 l2 k1 n1 fun i j hi hj e => k2 i j (by omega) (by omega) e, by rw [dW.len]; exact l2, by rw [dW.sum]; omega, ?_⟩
  have sh6 : shD (rowWO ((List.range 6).map kn)) = .ok (rowWD ((List.range 6).map kn)) := sh_rowWO _
  have kc : gSl (rowWD ((List.range 6).map kn)) none (some (lots : Int)) = some (rowWO ((List.range lots).map kn)) := by
    show some (Ow.l ((cutL (((List.range 6).map kn).map fun x => PyData.str (tx x)) none (some (lots : Int))).map Ow.d)) = _
    rw [cutL_take, ← List.map_take, ← List.map_take, List.take_range, Nat.min_eq_left l2, List.map_map]
    rfl
  have vk := vw_rowWO ((List.range lots).map kn)
  have vn := vw_rowWO ((List.range 16).map nm)
  refine fin_step (env1 := [some (.d S), some (.d (.int (lots : Nat))), none, none, none, none, none, none, none, none, none, none, none, none]) (by simp [c0, m6, hlots]) ?_
  refine fin_step (env1 := [some (.d S), some (.d (.int (lots : Nat))), some (.d (rowWD ((List.range lots).map kn))), none, none, none, none, none, none, none, none, none, none, none]) (by
    generalize rowWD ((List.range lots).map kn) = KL at *
    generalize rowWO ((List.range lots).map kn) = KO at *
    generalize rowWD ((List.range 6).map kn) = KL6 at *
    generalize rowWO ((List.range 6).map kn) = KO6 at *
    simp [c1, c2, ek, sh6, kc, vk]) ?_
  refine fin_step (env1 := [some (.d S), some (.d (.int (lots : Nat))), some (.d (rowWD ((List.range lots).map kn))), some (.d (rowWD ((List.range 16).map nm))), none, none, none, none, none, none, none, none, none, none]) (by
    generalize rowWD ((List.range lots).map kn) = KL at *
    generalize rowWD ((List.range 16).map nm) = NL at *
    generalize rowWO ((List.range 16).map nm) = NO at *
    simp [c3, c4, en, vn]) ?_
  refine fin_step (env1 := [some (.d S), some (.d (.int (lots : Nat))), some (.d (rowWD ((List.range lots).map kn))), some (.d (rowWD ((List.range 16).map nm))), some (.d (.int st)), none, none, none, none, none, none, none, none, none]) (by
    generalize rowWD ((List.range lots).map kn) = KL at *
    generalize rowWD ((List.range 16).map nm) = NL at *
    generalize (10 : Int) ^ 9 = T9 at *
    simp [c5, p9, m9]) ?_
  have lc : (eLc (eB (aCons (eVar 1) aNil) rg1) (gtName 6) cYes (eTupO (oCons (eM (eBin gIx (eVar 2) (eVar 6)) Ow.d) (oCons (eLst (aCons (eTup (aCons (eBin gIx (eVar 3) (eBin gMod (eBin gDiv (eVar 4) (eM (eBinO gAdd (eVar 6) (eC (.int 1))) viewD)) (eC (.int 16)))) (aCons (eTup aNil) aNil))) aNil)) oNil))) [6]) [some (.d S), some (.d (.int (lots : Nat))), some (.d (rowWD ((List.range lots).map kn))), some (.d (rowWD ((List.range 16).map nm))), some (.d (.int st)), none, none, none, none, none, none, none, none, none] = .ok (woodO W0) := by
    have e : woodO W0 = .l ((List.range lots).map fun k => kindO (kn k, [(nm (fz k), [])])) := by
      unfold woodO
      show Ow.l (((List.range lots).map fun k => (kn k, [(nm (fz k), ([] : List (List Nat)))])).map kindO) = _
      rw [List.map_map]
      rfl
    rw [e]
    refine eLc_of (ds := rangeD 0 lots) ?_ (by rw [rangeD_len, sizeLine_eq]; omega) ?_
    · have rg := rg1_nat lots (by omega)
      generalize rowWD ((List.range lots).map kn) = KL
      generalize rowWD ((List.range 16).map nm) = NL
      generalize rangeD 0 lots = RR at *
      simp [rg]
    · rw [rangeD_map]
      refine lcR_map (fun k : Nat => PyData.int (k : Nat)) (fun k => kindO (kn k, [(nm (fz k), [])])) (List.range lots) fun k hk => ⟨[some (.d S), some (.d (.int (lots : Nat))), some (.d (rowWD ((List.range lots).map kn))), some (.d (rowWD ((List.range 16).map nm))), some (.d (.int st)), none, some (.d (.int (k : Nat))), none, none, none, none, none, none, none], rfl, rfl, ?_⟩
      have kl := List.mem_range.mp hk
      have kx : gIx (rowWD ((List.range lots).map kn)) (.int (k : Nat)) = some (.str (tx (kn k))) := ix_wl (by rw [List.getElem?_map, List.getElem?_range kl]; rfl)
      have dv : gDiv (.int st) (.int ((k : Nat) + 1)) = some (.int (st / ((k : Nat) + 1))) := gDiv_small (by omega) (by omega)
      have md : gMod (.int (st / ((k : Nat) + 1))) (.int 16) = some (.int ((fz k : Nat) : Int)) := by
        have := Int.emod_nonneg (st / ((k : Int) + 1)) (show (16 : Int) ≠ 0 by decide)
        have e : st / ((k : Int) + 1) % 16 = ((fz k : Nat) : Int) := by
          show _ = (((st / ((k : Int) + 1) % 16).toNat : Nat) : Int)
          omega
        rw [← e]
        exact gMod_int (by decide)
      have nx : gIx (rowWD ((List.range 16).map nm)) (.int ((fz k : Nat) : Int)) = some (.str (tx (nm (fz k)))) := ix_wl (by rw [List.getElem?_map, List.getElem?_range (fl k)]; rfl)
      have ke : kindO (kn k, [(nm (fz k), [])]) = .t [.d (.str (tx (kn k))), .l [.d (.tuple [.str (tx (nm (fz k))), .tuple []])]] := by
        unfold kindO
        simp only [List.map_cons, List.map_nil, encRW_eq]
      rw [ke]
      generalize tx (nm (fz k)) = tn at *
      generalize ((fz k : Nat) : Int) = zf at *
      generalize rowWD ((List.range lots).map kn) = KL at *
      generalize rowWD ((List.range 16).map nm) = NL at *
      generalize st / (((k : Nat) : Int) + 1) = y at *
      simp [kx, dv, md, nx, sizeLine_eq]
  refine fin_step (env1 := [some (.d S), some (.d (.int (lots : Nat))), some (.d (rowWD ((List.range lots).map kn))), some (.d (rowWD ((List.range 16).map nm))), some (.d (.int st)), some (woodO W0), none, none, none, none, none, none, none, none]) (by
    show (sSet 5 (eLc (eB (aCons (eVar 1) aNil) rg1) (gtName 6) cYes (eTupO (oCons (eM (eBin gIx (eVar 2) (eVar 6)) Ow.d) (oCons (eLst (aCons (eTup (aCons (eBin gIx (eVar 3) (eBin gMod (eBin gDiv (eVar 4) (eM (eBinO gAdd (eVar 6) (eC (.int 1))) viewD)) (eC (.int 16)))) (aCons (eTup aNil) aNil))) aNil)) oNil))) [6])) _ = _
    rw [sSet_eq, lc]
    rfl) ?_
  have it : (eB (aCons (eC (.int 6)) (aCons (eM (eCa gMin2 (aCons (eB (eCa gLen (aCons (eVar 0) aNil)) shD) (aCons (eBin gSub (eC (.int 22)) (eVar 1)) aNil))) viewD) aNil)) rg2) [some (.d S), some (.d (.int (lots : Nat))), some (.d (rowWD ((List.range lots).map kn))), some (.d (rowWD ((List.range 16).map nm))), some (.d (.int st)), some (woodO W0), none, none, none, none, none, none, none, none] = .ok ((List.range m).map fun t => PyData.int (6 + ((0 + t : Nat) : Int))) := by
    have ln : gLen [S] = some (.d (.int (ns.length : Nat))) := by
      rw [hS]
      show some (Ow.d (PyData.int ((ns.map PyData.int).length : Nat))) = _
      rw [List.length_map]
    have rg : rg2 [.int 6, .int (if ((22 : Int) - (lots : Nat)) < ((ns.length : Nat) : Int) then (22 : Int) - (lots : Nat) else ((ns.length : Nat) : Int))] = .ok ((List.range m).map fun t => PyData.int (6 + ((0 + t : Nat) : Int))) := by
      show Mir.guard _ _ = _
      rw [guard_pos (by refine ⟨by decide, by decide, ?_, ?_⟩ <;> split <;> omega), hm]
      unfold rangeD
      congr 1
      exact List.map_congr_left fun t _ => by rw [Nat.zero_add]
    generalize rowWD ((List.range lots).map kn) = KL at *
    generalize rowWD ((List.range 16).map nm) = NL at *
    generalize woodO W0 = WO at *
    generalize ((List.range m).map fun t => PyData.int (6 + ((0 + t : Nat) : Int))) = RR at *
    simp only [eB_eq, aCons_eq, eC_eq, R.bind_ok, eM_eq, eCa_eq]
    simp [ln, rg]
  refine fin_step (by
    show (sFor _ _ wdB) _ = _
    rw [sFor_eq, it, R.st_ok, hS]
    exact eL) ?_
  rfl
end
end G
set_option Elab.async false
set_option linter.all false
set_option maxRecDepth 100000
set_option maxHeartbeats 4000000
namespace G
open PySem PySem.Spec L2 Mir
noncomputable section
theorem srtWd_lens (w : List WdK) : (srtWd w).map (fun k => k.2.length) = w.map fun k => k.2.length := by
  unfold srtWd
  rw [List.map_map]
  exact List.map_congr_left fun k _ => (srtW_perm k.2).length_eq
theorem build_small : ∀ (segs : List (Nat × List Nat)), (∀ s ∈ segs, NmW s.2 ∨ Sg s.2) → ∀ c ∈ build segs 0, c < 1000
  | [], _, c, h => by simp [build] at h
  | (b, w) :: r, hs, c, h => by
    rw [build] at h
    rcases List.mem_append.mp h with h | h
    · rw [(List.mem_replicate.mp h).2]; omega
    · rcases List.mem_append.mp h with h | h
      · rcases hs (b, w) List.mem_cons_self with q | ⟨d, hd, e⟩
        · exact isL_small (q.2.1 c h)
        · have e : w = [d] := e
          rw [e] at h
          rw [List.mem_singleton.mp h]
          have : ∀ d ∈ [40, 41, 59, 61, 124], d < 1000 := by decide
          exact this d hd
      · exact build_small r (fun s hs' => hs s (List.mem_cons_of_mem _ hs')) c h
theorem law_true (L : Nat) (hL : 10 ≤ L) (ns : List Int) (h : ns.length ≤ 63) : mir L 18 [.list (ns.map PyData.int)] = .ok (.d (.bool true)) := by
  obtain ⟨n, rfl⟩ : ∃ n, L = n + 10 := ⟨L - 10, by omega⟩
  obtain ⟨z0, c0⟩ := cell_ok (n + 8) ns h 0 (by omega)
  obtain ⟨w, ok, w6, w16, ew⟩ := wood_ok (n + 6) ns h
  have sok := okWd_srt ok
  have s6 : (srtWd w).length ≤ 6 := by unfold srtWd; rw [List.length_map]; exact w6
  have s16 : ((srtWd w).map fun k => k.2.length).sum ≤ 16 := by rw [srtWd_lens]; exact w16
  obtain ⟨b, hb⟩ : ∃ b : Nat, 1 + z0 / 6 % 3 = (b : Int) := ⟨(1 + z0 / 6 % 3).toNat, by omega⟩
  have b3 : b ≤ 3 := by omega
  have wl := woodWs_len2 ok.ok
  have sg := wood_sg ok.ok
  have jn := fun b' (h : b' ≤ 3) => joined_ok (n + 8) sg (by omega) h
  have rd := fun b' (h : b' ≤ 3) => readWood_ok (n + 4) ok w6 w16 (jS_good b' sg) (jS_words b' (woodWs w)) (gap_jS h (woodWs w) _)
  have rs := readWood_ok (n + 4) sok s6 s16 (good_wood sok.ok) (sgWood_w (srtWd w)) (gap_wood (srtWd w))
  rw [sgWood_t sok.ok, srtWd_again] at rs
  have pt := lawParts_ok (n + 8) ok
  have sh := lawShown_ok (n + 8) sok
  have ks := lawKinds_ok (n + 8) sok
  have sw := showWood_ok (n + 7) sok
  have so := vw_woodO (srtWd w)
  have vw := vw_woodO w
  have vp := vw_rowWO (woodWs w)
  obtain ⟨S, hS⟩ : ∃ S, S = PyData.list (ns.map PyData.int) := ⟨_, rfl⟩
  rw [← hS] at c0 ew
  have c0 : mir (n + 9) 11 [S, .int 0] = .ok (.d (.int z0)) := c0
  have ew : mir (n + 9) 13 [S] = .ok (woodO w) := ew
  have pt : mir (n + 9) 14 [encWd (toWd w)] = .ok (rowWO (woodWs w)) := pt
  have sh : mir (n + 9) 15 [encWd (toWd (srtWd w))] = .ok (.d (.str (tx (wdT (srtWd w))))) := sh
  have ks : mir (n + 9) 17 [encWd (toWd (srtWd w)), encWd (toWd (srtWd w))] = .ok (.d (.bool true)) := ks
  have sw : mir (n + 9) 10 [encWd (toWd (srtWd w))] = .ok (.d (.str (tx (wdT (srtWd w))))) := sw
  have rs : mir (n + 9) 8 [.str (tx (wdT (srtWd w)))] = .ok (woodO (srtWd w)) := rs
  have jb := jn b b3
  have jb : mir (n + 9) 16 [rowWD (woodWs w), .int (b : Nat)] = .ok (.d (.str (tx (build (jS b (woodWs w) (woodWs w).length) 0)))) := jb
  have j0 := jn 0 (by decide)
  have j0 : mir (n + 9) 16 [rowWD (woodWs w), .int 0] = .ok (.d (.str (tx (build (jS 0 (woodWs w) (woodWs w).length) 0)))) := j0
  have rb := rd b b3
  have rb : mir (n + 9) 8 [.str (tx (build (jS b (woodWs w) (woodWs w).length) 0))] = .ok (woodO (srtWd w)) := rb
  have r0 := rd 0 (by decide)
  have r0 : mir (n + 9) 8 [.str (tx (build (jS 0 (woodWs w) (woodWs w).length) 0))] = .ok (woodO (srtWd w)) := r0
  clear jn rd
  rw [mir_law, run_law, ← hS]
  have he : envOf 7 [S] = [some (.d S), none, none, none, none, none, none, none] := rfl
  rw [he]
  generalize tx (build (jS b (woodWs w) (woodWs w).length) 0) = tb at *
  generalize tx (build (jS 0 (woodWs w) (woodWs w).length) 0) = t0 at *
  generalize hts : tx (wdT (srtWd w)) = ts at *
  have few := ok.few
  have lc : eLc (eB (eVar 1) itD) (gtTup 2 (gtCons (gtName 3) (gtCons (gtName 4) gtNil))) cYes (eM (eTup (aCons (eVar 3) (aCons (eM (eCa gSorted (aCons (eVar 4) aNil)) viewD) aNil))) Ow.d) [3, 4] [some (.d S), some (.d (encWd (toWd w))), none, none, none, none, none, none] = .ok (.l (w.map fun k => .d (encKd (toKd (k.1, srtW k.2))))) := by
    refine eLc_of (ds := w.map fun k => encKd (toKd k)) (by rw [encWd_W]; rfl) (by rw [List.length_map, sizeLine_eq]; omega) ?_
    refine lcR_map (fun k => encKd (toKd k)) (fun k => Ow.d (encKd (toKd (k.1, srtW k.2)))) w fun k hk => ⟨[some (.d S), some (.d (encWd (toWd w))), none, some (.d (.str (tx k.1))), some (.d (.list (k.2.map encRW))), none, none, none], by rw [encKd_W]; rfl, rfl, ?_⟩
    have g := gSorted_rows k.2
    have v : viewD (.l ((srtW k.2).map fun r => .d (encRW r))) = .list ((srtW k.2).map encRW) := vw_rows (srtW k.2)
    rw [encKd_W]
    simp only
    generalize (Ow.l ((srtW k.2).map fun r => .d (encRW r))) = RO at *
    generalize PyData.list ((srtW k.2).map encRW) = RL at *
    generalize PyData.list (k.2.map encRW) = KL at *
    generalize encWd (toWd w) = WD
    simp [g, v, sizeLine_eq]
  have vl : viewD (.l (w.map fun k => .d (encKd (toKd (k.1, srtW k.2))))) = encWd (toWd (srtWd w)) := by
    rw [viewD_of (fun k : WdK => encKd (toKd (k.1, srtW k.2))) w, encWd_W]
    unfold srtWd
    rw [List.map_map]
    rfl
  refine fin_step (env1 := [some (.d S), some (.d (encWd (toWd w))), none, none, none, none, none, none]) (by
    generalize encWd (toWd w) = WD at *
    generalize woodO w = WO at *
    simp [ew, vw]) ?_
  refine fin_step (env1 := [some (.d S), some (.d (encWd (toWd w))), some (.d (encWd (toWd (srtWd w)))), none, none, none, none, none]) (by
    show (sSet 2 (eM (eM (eLc (eB (eVar 1) itD) (gtTup 2 (gtCons (gtName 3) (gtCons (gtName 4) gtNil))) cYes (eM (eTup (aCons (eVar 3) (aCons (eM (eCa gSorted (aCons (eVar 4) aNil)) viewD) aNil))) Ow.d) [3, 4]) viewD) Ow.d)) _ = _
    rw [sSet_eq, eM_eq, eM_eq, lc, R.map_ok, R.map_ok, vl, R.st_ok]
    rfl) ?_
  clear lc vl
  refine fin_step (env1 := [some (.d S), some (.d (encWd (toWd w))), some (.d (encWd (toWd (srtWd w)))), none, none, some (.d (rowWD (woodWs w))), none, none]) (by
    generalize rowWO (woodWs w) = RO at *
    generalize rowWD (woodWs w) = RD at *
    generalize encWd (toWd (srtWd w)) = SD at *
    generalize encWd (toWd w) = WD at *
    simp [pt, vp]) ?_
  have d6 : gDiv (.int z0) (.int 6) = some (.int (z0 / 6)) := gDiv_small (by decide) (by decide)
  have m3 : gMod (.int (z0 / 6)) (.int 3) = some (.int (z0 / 6 % 3)) := gMod_int (by decide)
  refine fin_step (env1 := [some (.d S), some (.d (encWd (toWd w))), some (.d (encWd (toWd (srtWd w)))), none, none, some (.d (rowWD (woodWs w))), some (woodO (srtWd w)), none]) (by
    generalize woodO (srtWd w) = SO at *
    generalize rowWD (woodWs w) = RD at *
    generalize encWd (toWd (srtWd w)) = SD at *
    generalize encWd (toWd w) = WD at *
    simp [c0, d6, m3, hb, jb, rb]) ?_
  -- looked at, as it was found
  have tsO : PyData.strOk ts = true := by
    rw [← hts]
    refine strOk_tx fun c hc => ?_
    rw [← sgWood_t sok.ok] at hc
    exact build_small (sgWood (srtWd w)) (fun s hs => by
      have m : s.2 ∈ woodWs (srtWd w) := by rw [← sgWood_w]; exact List.mem_map_of_mem hs
      exact wood_sg sok.ok s.2 m) c hc
  have nn : gNe (.str ts) (.str ts) = some (.bool false) := gNe_self ⟨by rw [PyData.canLay0]; exact tsO, by simp [PyData.depth]⟩
  refine fin_step (env1 := [some (.d S), some (.d (encWd (toWd w))), some (.d (encWd (toWd (srtWd w)))), none, none, some (.d (rowWD (woodWs w))), some (woodO (srtWd w)), none]) (by
    refine (sThaw_nx (i := 6) (o := woodO (srtWd w)) (env' := [some (.d S), some (.d (encWd (toWd w))), some (.d (encWd (toWd (srtWd w)))), none, none, some (.d (rowWD (woodWs w))), some (.d (encWd (toWd (srtWd w)))), none]) rfl ?_ (okThaw_ofX (okF_consX okKX (okF_consX okKX (okF_consX okKX (okF_consX okNX (okF_consX okNX (okF_consX okKX (okF_consX okIX (okF_consX okNX okF_nilX))))))))) (by show 6 < 8; decide)).trans rfl
    rw [so]
    show _ = SR.nx [_, _, _, _, _, _, _, _]
    show (sIf _ _ _) [some (.d S), some (.d (encWd (toWd w))), some (.d (encWd (toWd (srtWd w)))), none, none, some (.d (rowWD (woodWs w))), some (.d (encWd (toWd (srtWd w)))), none] = _
    generalize rowWD (woodWs w) = RD at *
    generalize encWd (toWd (srtWd w)) = SD at *
    generalize encWd (toWd w) = WD at *
    simp [ks, sw, sh, nn]) ?_
  -- what is told is spoilt
  obtain ⟨k0, hk0⟩ : ∃ k0, (srtWd w)[0]? = some k0 := by
    cases e : srtWd w with
    | nil => exact absurd e sok.some
    | cons k ks => exact ⟨k, rfl⟩
  have ok0 := sok.ok k0 (List.mem_of_getElem? hk0)
  have pf : ∀ (E : Ev), E[6]? = some (some (woodO (srtWd w))) → pIx (pIx (pVar 6) (eC (.int 0))) (eC (.int 1)) E = .ok (rowsO k0.2, fun o' => E.set 6 (some (.l (((srtWd w).map kindO).set 0 (.t [.d (.str (tx k0.1)), o']))))) := fun E h6 => by
    have l0 := (List.getElem?_eq_some_iff.mp hk0).1
    have v : pVar 6 E = .ok (.l ((srtWd w).map kindO), fun o' => E.set 6 (some o')) := by unfold pVar; rw [h6]; rfl
    have s1 : pIx (pVar 6) (eC (.int 0)) E = .ok (kindO k0, fun o' => E.set 6 (some (.l (((srtWd w).map kindO).set 0 o')))) := by
      unfold pIx
      rw [v, R.bind_ok, eC_eq, R.bind_ok]
      have hx : ((srtWd w).map kindO)[0]? = some (kindO k0) := by rw [List.getElem?_map, hk0]; rfl
      have hn : ixN ((srtWd w).map kindO).length (0 : Int) = some 0 := ixN_nat (k := 0) (by rw [List.length_map]; exact l0)
      unfold ixP
      simp only [hn, hx]
    unfold pIx at s1 ⊢
    rw [s1, R.bind_ok, eC_eq, R.bind_ok]
    rfl
  have b0 := ok0.few
  refine fin_step (sPApp_ofW (r := .d (.tuple [.str "z", .tuple []])) (pf _ rfl) (by simp [sizeLine_eq]) (by rw [List.length_map, sizeLine_eq]; omega)) ?_
  generalize hZ : (((srtWd w).map kindO).set 0 (.t [.d (.str (tx k0.1)), .l ((k0.2.map fun r => Ow.d (encRW r)) ++ [.d (.tuple [.str "z", .tuple []])])])) = Z
  have zl : Z.length ≤ 6 := by rw [← hZ, List.length_set, List.length_map]; exact s6
  refine fin_step (env1 := [some (.d S), some (.d (encWd (toWd w))), some (.d (encWd (toWd (srtWd w)))), none, none, some (.d (rowWD (woodWs w))), some (.l (Z ++ [.d (.tuple [.str "z", .list []])])), none]) (sApp_ofW (os := Z) (r := .d (.tuple [.str "z", .list []])) rfl (by simp [sizeLine_eq]) (by rw [sizeLine_eq]; omega)) ?_
  clear hZ pf
  generalize (some (Ow.l (Z ++ [.d (.tuple [.str "z", .list []])]))) = ZO
  have st : gIsi "str" (.str ts) = .ok (.bool true) := rfl
  generalize woodO (srtWd w) = SO at *
  generalize rowWD (woodWs w) = RD at *
  generalize encWd (toWd (srtWd w)) = SD at *
  generalize encWd (toWd w) = WD at *
  simp [j0, r0, so, ks, rs, sh, sw, st, SR.andThen, finR]
end
end G
open PySem PySem.W PyProof.Rows
set_option maxRecDepth 100000 in
set_option maxHeartbeats 0 in
theorem PySem.Challenge.cw_turnery_k07_woods_shown_and_read_holds : PySem.Challenge.rw_turnery_k07_woods_shown_and_read.Holds := by
  w_on; o_law; k_head; (case hw => w_witness2)
  k_fill
  refine Mir.law_end (l := PySem.Challenge.rw_turnery_k07_woods_shown_and_read) (m := G.mir 70 18) 70 "_law_script" rfl rfl ⟨rfl, by decide, by decide⟩ (fun w h Y => PySem.W.kIn_of Y) (fun ns h _ => G.law_true 70 (by decide) ns h) ?F
  case F =>
    intro w mg fa h KX Gn hmg
    refine' G.all_mk 70 KX Gn hmg ?a0 ?l0 ?c0 ?k0 ?a1 ?l1 ?c1 ?k1 ?a2 ?l2 ?c2 ?k2 ?a3 ?l3 ?c3 ?k3 ?a4 ?l4 ?c4 ?k4 ?a5 ?l5 ?c5 ?k5 ?a6 ?l6 ?c6 ?k6 ?a7 ?l7 ?c7 ?k7 ?a8 ?l8 ?c8 ?k8 ?a9 ?l9 ?c9 ?k9 ?a10 ?l10 ?c10 ?k10 ?a11 ?l11 ?c11 ?k11 ?a12 ?l12 ?c12 ?k12 ?a13 ?l13 ?c13 ?k13 ?a14 ?l14 ?c14 ?k14 ?a15 ?l15 ?c15 ?k15 ?a16 ?l16 ?c16 ?k16 ?a17 ?l17 ?c17 ?k17 ?a18 ?l18 ?c18 ?k18 ?z_int ?z_isinstance ?z_len ?z_list ?z_min ?z_range ?z_set ?z_sorted ?z_str ?z_sum ?z_tuple ?e_NoText ?e_NoWood ?xb_NoText ?xt_NoText ?xd_NoText ?xs_NoText ?xb_NoWood ?xt_NoWood ?xd_NoWood ?xs_NoWood ?xe_NoText ?xk_NoText ?xe_NoWood ?xk_NoWood ?g_FIGURES ?r_FIGURES ?g_LETTERS ?r_LETTERS ?g_SIGNS ?r_SIGNS
    (case a0 => k_is)
    (case l0 => k_is)
    (case c0 => k_is)
    (case k0 => k_is)
    (case a1 => k_is)
    (case l1 => k_is)
    (case c1 => k_is)
    (case k1 => k_is)
    (case a2 => k_is)
    (case l2 => k_is)
    (case c2 => k_is)
    (case k2 => k_is)
    (case a3 => k_is)
    (case l3 => k_is)
    (case c3 => k_is)
    (case k3 => k_is)
    (case a4 => k_is)
    (case l4 => k_is)
    (case c4 => k_is)
    (case k4 => k_is)
    (case a5 => k_is)
    (case l5 => k_is)
    (case c5 => k_is)
    (case k5 => k_is)
    (case a6 => k_is)
    (case l6 => k_is)
    (case c6 => k_is)
    (case k6 => k_is)
    (case a7 => k_is)
    (case l7 => k_is)
    (case c7 => k_is)
    (case k7 => k_is)
    (case a8 => k_is)
    (case l8 => k_is)
    (case c8 => k_is)
    (case k8 => k_is)
    (case a9 => k_is)
    (case l9 => k_is)
    (case c9 => k_is)
    (case k9 => k_is)
    (case a10 => k_is)
    (case l10 => k_is)
    (case c10 => k_is)
    (case k10 => k_is)
    (case a11 => k_is)
    (case l11 => k_is)
    (case c11 => k_is)
    (case k11 => k_is)
    (case a12 => k_is)
    (case l12 => k_is)
    (case c12 => k_is)
    (case k12 => k_is)
    (case a13 => k_is)
    (case l13 => k_is)
    (case c13 => k_is)
    (case k13 => k_is)
    (case a14 => k_is)
    (case l14 => k_is)
    (case c14 => k_is)
    (case k14 => k_is)
    (case a15 => k_is)
    (case l15 => k_is)
    (case c15 => k_is)
    (case k15 => k_is)
    (case a16 => k_is)
    (case l16 => k_is)
    (case c16 => k_is)
    (case k16 => k_is)
    (case a17 => k_is)
    (case l17 => k_is)
    (case c17 => k_is)
    (case k17 => k_is)
    (case a18 => k_is)
    (case l18 => k_is)
    (case c18 => k_is)
    (case k18 => k_is)
    (case z_int => k_is)
    (case z_isinstance => k_is)
    (case z_len => k_is)
    (case z_list => k_is)
    (case z_min => k_is)
    (case z_range => k_is)
    (case z_set => k_is)
    (case z_sorted => k_is)
    (case z_str => k_is)
    (case z_sum => k_is)
    (case z_tuple => k_is)
    (case e_NoText => k_is)
    (case e_NoWood => k_is)
    (case xb_NoText => k_is)
    (case xt_NoText => k_is)
    (case xd_NoText => k_is)
    (case xs_NoText => k_is)
    (case xb_NoWood => k_is)
    (case xt_NoWood => k_is)
    (case xd_NoWood => k_is)
    (case xs_NoWood => k_is)
    (case xe_NoText => k_exc)
    (case xk_NoText => k_is)
    (case xe_NoWood => k_exc)
    (case xk_NoWood => k_is)
    (case g_FIGURES => k_is)
    (case g_LETTERS => k_is)
    (case g_SIGNS => k_is)
    (case r_FIGURES => exact ⟨_, rfl⟩)
    (case r_LETTERS => exact ⟨_, rfl⟩)
    (case r_SIGNS => exact ⟨_, rfl⟩)


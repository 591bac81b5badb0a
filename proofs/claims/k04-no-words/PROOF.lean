import PyProof.Rows.All
import Wide.All
import OpenK.AllK
import Wide.FinOn
import HandS.ForMost
import HandS.ForExc
import HandS.Walk
import HandS.TupAny
import HandS.Wide
import HandS.IsInst
import KE.KDictKeyed
import PyProof.P3Eq
import PyProof.NeData
import PyProof.Rows.SeqMore
import KE.GoesNew
import KE.GoesMore
import KE.GoesEnum
import HandS.Zip
import PyProof.AutoSeq1
import HandS.More
import KE.SortData
import HandS.EndBits
import HandS.Steps
import HandS.Rev
import PyProof.StrOps2
import HandS.Text
import HandS.Dict
import KE.KDictSum
import HandS.ExcIs
import HandS.TryOnly
import HandS.RevRange
import HandS.List
import PyProof.StrCalls
import KE.DataMinMax
import HandS.Style
import HandS.TupMul
import HandS.TupLen
import KE.KDictZip
import HandS.ListItems
import HandS.NoneIn
import HandS.Deep
import HandS.Conv
import HandS.SetKeys
import PyProof.Rows.SetFrom
import HandS.DictTup
import KE.KDictWalk
import KE.KDictCopyH
import KE.GoesRaise
import PySem.Challenge.RW_turnery_k04_no_words
set_option Elab.async false
set_option linter.all false
set_option maxRecDepth 100000
set_option maxHeartbeats 4000000
noncomputable section
namespace Mir
open PySem PySem.Spec L2

abbrev D := PyData
/-- what stands in the program's heap, and the world -/
structure Kw where
  K : PySem.W.Frag
  w : World
instance : CoeOut Kw PySem.W.Frag := ⟨Kw.K⟩
/-- a value in a mirror: data that stays, or a list or a dict that the def owns -/
inductive Ow where
  | d (x : D)
  | l (xs : List Ow)
  | m (kvs : List (D × D))
  /-- a tuple with own things in it -/
  | t (xs : List Ow)
  /-- a dict whose keys are whole numbers and texts, and one whose keys are tuples; its values may be own -/
  | k (ks : List D) (xs : List Ow)
  | n (ks : List D) (xs : List Ow)
  /-- an instance of a class, its fields by names -/
  | o (c : Str) (ns : List Str) (xs : List Ow)
abbrev Ev := List (Option Ow)
abbrev _root_.L2.Cx.KK (X : L2.Cx) : Kw := ⟨X.K, X.w⟩

/-- a pure outcome: none (not mirrored), a value, an exception's class -/
inductive R (α : Type) where
  | no
  | ok (a : α)
  | ex (c : Str)
def R.bind {α β : Type} : R α → (α → R β) → R β
  | .no, _ => .no
  | .ok a, f => f a
  | .ex c, _ => .ex c
@[simp] theorem R.bind_ok {α β : Type} (a : α) (f : α → R β) : (R.ok a).bind f = f a := rfl
@[simp] theorem R.bind_no {α β : Type} (f : α → R β) : (R.no : R α).bind f = .no := rfl
@[simp] theorem R.bind_ex {α β : Type} (c : Str) (f : α → R β) : (R.ex c : R α).bind f = .ex c := rfl
def R.map {α β : Type} (f : α → β) (r : R α) : R β := r.bind fun a => .ok (f a)
@[simp] theorem R.map_ok {α β : Type} (a : α) (f : α → β) : (R.ok a).map f = .ok (f a) := rfl
/-- r where c holds (by a choice that nothing reckons with) -/
def guard (c : Prop) {α : Type} (r : R α) : R α := @ite _ c (Classical.propDecidable c) r .no
@[simp] theorem guard_pos {c : Prop} {α : Type} {r : R α} (h : c) : guard c r = r := @if_pos _ (Classical.propDecidable c) h _ _ _

/-- how an exception of a class, and any instance, is told as data -/
def excD (c : Str) : D := .dict [(.none, .str c)]
def insD : D := .dict [(.none, .none)]
mutual
def viewD : Ow → D
  | .d x => x
  | .l xs => .list (viewAll xs)
  | .m kvs => .dict kvs
  | .t xs => .tuple (viewAll xs)
  | .k ks xs => .dict (ks.zip (viewAll xs))
  | .n ks xs => .dict (ks.zip (viewAll xs))
  | .o _ _ _ => insD
def viewAll : List Ow → List D
  | [] => []
  | x :: xs => viewD x :: viewAll xs
end
@[simp] theorem viewD_d (x : D) : viewD (.d x) = x := by unfold viewD; rfl
@[simp] theorem viewD_m (kvs : List (D × D)) : viewD (.m kvs) = .dict kvs := by rw [viewD]
@[simp] theorem viewD_l (xs : List Ow) : viewD (.l xs) = .list (viewAll xs) := by rw [viewD]
@[simp] theorem viewD_t (xs : List Ow) : viewD (.t xs) = .tuple (viewAll xs) := by rw [viewD]
@[simp] theorem viewD_k (ks : List D) (xs : List Ow) : viewD (.k ks xs) = .dict (ks.zip (viewAll xs)) := by rw [viewD]
@[simp] theorem viewD_n (ks : List D) (xs : List Ow) : viewD (.n ks xs) = .dict (ks.zip (viewAll xs)) := by rw [viewD]
@[simp] theorem viewD_o (c : Str) (ns : List Str) (xs : List Ow) : viewD (.o c ns xs) = insD := by rw [viewD]
@[simp] theorem viewAll_nil : viewAll [] = [] := by rw [viewAll]
@[simp] theorem viewAll_cons (x : Ow) (xs : List Ow) : viewAll (x :: xs) = viewD x :: viewAll xs := by rw [viewAll]
theorem viewAll_map : ∀ xs : List Ow, viewAll xs = xs.map viewD
  | [] => by rw [viewAll]; rfl
  | x :: xs => by rw [viewAll, viewAll_map xs]; rfl
@[simp] theorem viewAll_mapd : ∀ xs : List D, viewAll (xs.map Ow.d) = xs
  | [] => by simp
  | x :: xs => by simp [viewAll_mapd xs]

/-- a dict's key as data -/
def keyD : Key → D
  | .inl i => .int i
  | .inr z => .str z
/-- an exception of a class of the program's own -/
def excO (K : Kw) (a : Addr) (c : Str) : HO := .ext fun h => ∃ C oe vs, PySem.W.nsIn K.K mainGlobals c = some (some (.ref C)) ∧ h.get? a = some oe ∧ Zc (.ref C) none oe ∧ oe.data = .fields vs
/-- a dict whose keys are tuples, nested ones among them -/
def rowN (w : World) (x : NestedKey × Addr × Value) : DictEntry := ⟨x.1.hash w, .ref x.2.1, x.2.2⟩
def RelN (p : NestedKey × Addr × V) (q : NestedKey × Addr × Value) : Prop := p.1 = q.1 ∧ p.2.1 = q.2.1 ∧ RelV p.2.2 q.2.2
def dnO (w : World) (a : Addr) (kvs : List (NestedKey × Addr × V)) : HO := .ext fun h => kvs.length ≤ sizeLine ∧ (a == sysModules) = false ∧ ∃ xs : List (NestedKey × Addr × Value), Paired RelN kvs xs ∧
  ∃ o es ep, h.get? a = some o ∧ o.ExactDict ∧ o.data = .dict es ep ∧ es.toList = xs.map (rowN w) ∧ (xs.map (·.1)).Nodup
mutual
inductive Dp (K : Kw) (H : Hp) : V → PyData → Prop
  | non : Dp K H .non .none
  | bl (b : Bool) : Dp K H (.bl b) (.bool b)
  | int (i : Int) : Dp K H (.int i) (.int i)
  | str (x : Str) : Dp K H (.str x) (.str x)
  | lst {a : Addr} {xs : List V} {ds : List PyData} : SqL K.K H a xs → DpAll K H xs ds → Dp K H (.ref a) (.list ds)
  | tup {a : Addr} {xs : List V} {ds : List PyData} : SqT K.K H a xs → DpAll K H xs ds → Dp K H (.ref a) (.tuple ds)
  | dct {a : Addr} {kvs : List (Key × V)} {ps : List (PyData × PyData)} : Rd H a (.dK kvs) → DpKv K H kvs ps → Dp K H (.ref a) (.dict ps)
  | dcn {a : Addr} {kvs : List (NestedKey × Addr × V)} {ps : List (PyData × PyData)} : Rd H a (dnO K.w a kvs) → DpKn K H kvs ps → Dp K H (.ref a) (.dict ps)
  | exc {a : Addr} {c : Str} : Rd H a (excO K a c) → Dp K H (.ref a) (.dict [(.none, .str c)])
  | ins {a C dx : Addr} {fs : List (Str × V)} : H a = some (.ins C dx fs) → Dp K H (.ref a) (.dict [(.none, .none)])
  | fnv {a : Addr} {x : Str} : PySem.W.nsIn K.K mainGlobals x = some (some (.ref a)) → Dp K H (.ref a) (.dict [(.none, .tuple [.str x])])
inductive DpAll (K : Kw) (H : Hp) : List V → List PyData → Prop
  | nil : DpAll K H [] []
  | cons {v : V} {vs : List V} {d : PyData} {ds : List PyData} : Dp K H v d → DpAll K H vs ds → DpAll K H (v :: vs) (d :: ds)
inductive DpKv (K : Kw) (H : Hp) : List (Key × V) → List (PyData × PyData) → Prop
  | nil : DpKv K H [] []
  | cons {k : Key} {v : V} {kvs : List (Key × V)} {d : PyData} {ps : List (PyData × PyData)} : Dp K H v d → DpKv K H kvs ps → DpKv K H ((k, v) :: kvs) ((keyD k, d) :: ps)
inductive DpKn (K : Kw) (H : Hp) : List (NestedKey × Addr × V) → List (PyData × PyData) → Prop
  | nil : DpKn K H [] []
  | cons {k : NestedKey} {b : Addr} {v : V} {kvs : List (NestedKey × Addr × V)} {d : PyData} {ps : List (PyData × PyData)} : Dp K H (.ref b) k.data → k.depth ≤ 8 → Dp K H v d → DpKn K H kvs ps → DpKn K H ((k, b, v) :: kvs) ((k.data, d) :: ps)
end
section
variable {K : Kw}
theorem Same.rd {H H' : Hp} {a : Addr} {u : HO} (e : Same H H') (h : Rd H a u) : Rd H' a u := by
  rcases h with h | ⟨o, h⟩
  · exact .inl (e _ _ h)
  · exact .inr ⟨o, e _ _ h⟩
theorem SqT_mono {K : PySem.W.Frag} {H H' : Hp} {a : Addr} {xs : List V} (e : Same H H') (h : SqT K H a xs) : SqT K H' a xs := by
  rcases h with (h | ⟨o, h⟩) | h
  · exact .inl (.inl (e _ _ h))
  · exact .inl (.inr ⟨o, e _ _ h⟩)
  · exact .inr h
mutual
theorem Dp.mono {H H' : Hp} (e : Same H H') : ∀ (d : D) (v : V), Dp K H v d → Dp K H' v d
  | .none, _, h => by cases h; exact .non
  | .bool b, _, h => by cases h; exact .bl b
  | .int b, _, h => by cases h; exact .int b
  | .str b, _, h => by cases h; exact .str b
  | .list ds, _, h => by
    cases h with
    | lst hs ha => exact .lst (e.seq hs) (DpAll.mono e ds _ ha)
  | .tuple ds, _, h => by
    cases h with
    | tup hs ha => exact .tup (SqT_mono e hs) (DpAll.mono e ds _ ha)
  | .dict ps, _, h => by
    cases h with
    | dct hs ha => exact .dct (Same.rd e hs) (DpKv.mono e ps _ ha)
    | dcn hs ha => exact .dcn (Same.rd e hs) (DpKn.mono e ps _ ha)
    | exc hs => exact .exc (Same.rd e hs)
    | ins hs => exact .ins (e _ _ hs)
    | fnv hs => exact .fnv hs
theorem DpAll.mono {H H' : Hp} (e : Same H H') : ∀ (ds : List D) (vs : List V), DpAll K H vs ds → DpAll K H' vs ds
  | [], _, h => by cases h; exact .nil
  | d :: ds, _, h => by
    cases h with
    | cons h1 h2 => exact .cons (Dp.mono e d _ h1) (DpAll.mono e ds _ h2)
theorem DpKv.mono {H H' : Hp} (e : Same H H') : ∀ (ps : List (D × D)) (kvs : List (Key × V)), DpKv K H kvs ps → DpKv K H' kvs ps
  | [], _, h => by cases h; exact .nil
  | (x, d) :: ps, _, h => by
    cases h with
    | cons h1 h2 => exact .cons (Dp.mono e d _ h1) (DpKv.mono e ps _ h2)
theorem DpKn.mono {H H' : Hp} (e : Same H H') : ∀ (ps : List (D × D)) (kvs : List (NestedKey × Addr × V)), DpKn K H kvs ps → DpKn K H' kvs ps
  | [], _, h => by cases h; exact .nil
  | (x, d) :: ps, _, h => by
    cases h with
    | cons h0 h1 h2 h3 => exact .cons (Dp.mono e _ _ h0) h1 (Dp.mono e d _ h2) (DpKn.mono e ps _ h3)
end
mutual
/-- as the kit has it, where no dict is within -/
theorem Dp.kit {H : Hp} : ∀ (d : D) (v : V), Dp K H v d → d.canLay0 = true → L2.Dp K.K H v d
  | .none, _, h, _ => by cases h; exact .non
  | .bool b, _, h, _ => by cases h; exact .bl b
  | .int b, _, h, _ => by cases h; exact .int b
  | .str b, _, h, _ => by cases h; exact .str b
  | .list ds, _, h, c => by
    cases h with
    | lst hs ha => exact .lst hs (DpAll.kit ds _ ha (by rw [PyData.canLay0] at c; exact c))
  | .tuple ds, _, h, c => by
    cases h with
    | tup hs ha => exact .tup hs (DpAll.kit ds _ ha (by rw [PyData.canLay0] at c; exact c))
  | .dict _, _, _, c => by rw [PyData.canLay0] at c; cases c
theorem DpAll.kit {H : Hp} : ∀ (ds : List D) (vs : List V), DpAll K H vs ds → PyData.canLayAll0 ds = true → L2.DpAll K.K H vs ds
  | [], _, h, _ => by cases h; exact .nil
  | d :: ds, _, h, c => by
    rw [PyData.canLayAll0, Bool.and_eq_true] at c
    cases h with
    | cons h1 h2 => exact .cons (Dp.kit d _ h1 c.1) (DpAll.kit ds _ h2 c.2)
end
theorem dpUp {H H' : Hp} {v : V} {d : D} (h : Dp K H v d) (e : Same H H') : Dp K H' v d := Dp.mono e d v h
theorem dpaUp {H H' : Hp} {v : List V} {d : List D} (h : DpAll K H v d) (e : Same H H') : DpAll K H' v d := DpAll.mono e d v h
theorem DpAll.len {H : Hp} : ∀ {vs : List V} {ds : List D}, DpAll K H vs ds → vs.length = ds.length
  | _, [], h => by cases h; rfl
  | _, d :: ds, h => by
    cases h with
    | cons h1 h2 => simp [DpAll.len h2]
theorem DpAll.get {H : Hp} : ∀ {vs : List V} {ds : List D} {i : Nat} {d : D}, DpAll K H vs ds → ds[i]? = some d → ∃ v, vs[i]? = some v ∧ Dp K H v d
  | _, [], i, d, h, e => by simp at e
  | _, x :: ds, 0, d, h, e => by
    cases h with
    | cons h1 h2 => simp at e; subst e; exact ⟨_, rfl, h1⟩
  | _, x :: ds, i + 1, d, h, e => by
    cases h with
    | cons h1 h2 =>
      obtain ⟨v, q, r⟩ := DpAll.get (i := i) h2 (by simpa using e)
      exact ⟨v, by simpa using q, r⟩
theorem DpAll.getV {H : Hp} : ∀ {vs : List V} {ds : List D} {i : Nat} {v : V}, DpAll K H vs ds → vs[i]? = some v → ∃ d, ds[i]? = some d ∧ Dp K H v d
  | _, [], i, v, h, e => by cases h; simp at e
  | _, x :: ds, 0, v, h, e => by
    cases h with
    | cons h1 h2 => simp at e; subst e; exact ⟨_, rfl, h1⟩
  | _, x :: ds, i + 1, v, h, e => by
    cases h with
    | cons h1 h2 =>
      obtain ⟨d, q, r⟩ := DpAll.getV (i := i) h2 (by simpa using e)
      exact ⟨d, by simpa using q, r⟩
theorem DpAll.append {H : Hp} : ∀ {vs ws : List V} {ds es : List D}, DpAll K H vs ds → DpAll K H ws es → DpAll K H (vs ++ ws) (ds ++ es)
  | _, _, [], _, h, g => by cases h; exact g
  | _, _, d :: ds, _, h, g => by
    cases h with
    | cons h1 h2 => exact .cons h1 (DpAll.append h2 g)
theorem DpAll.take {H : Hp} : ∀ {vs : List V} {ds : List D} (n : Nat), DpAll K H vs ds → DpAll K H (vs.take n) (ds.take n)
  | _, [], n, h => by cases h; simp; exact .nil
  | _, d :: ds, 0, h => by simp; exact .nil
  | _, d :: ds, n + 1, h => by
    cases h with
    | cons h1 h2 => exact .cons h1 (DpAll.take n h2)
theorem DpAll.drop {H : Hp} : ∀ {vs : List V} {ds : List D} (n : Nat), DpAll K H vs ds → DpAll K H (vs.drop n) (ds.drop n)
  | _, [], n, h => by cases h; simp; exact .nil
  | _, d :: ds, 0, h => h
  | _, d :: ds, n + 1, h => by
    cases h with
    | cons h1 h2 => exact DpAll.drop n h2
theorem DpAll.ints {H : Hp} : ∀ {vs : List V} (ns : List Int), DpAll K H vs (ns.map PyData.int) → vs = ns.map V.int
  | _, [], h => by cases h; rfl
  | _, n :: ns, h => by
    cases h with
    | cons h1 h2 => cases h1; simp [DpAll.ints ns h2]
theorem DpAll.of_ints {H : Hp} : ∀ (ns : List Int), DpAll K H (ns.map V.int) (ns.map PyData.int)
  | [] => .nil
  | n :: ns => .cons (.int n) (DpAll.of_ints ns)

/-- frozen facts F, the tracked heap H, behind a step that changes nothing that stood -/
structure Ext (F H F' H' : Hp) : Prop where
  ff : Same F F'
  hh : Same H H'
  fn : ∀ b o, F' b = some o → F b = some o ∨ H b = none
  fh : Same F' H'
theorem Ext.refl {F H : Hp} (h : Same F H) : Ext F H F H := ⟨Same.refl _, Same.refl _, fun _ _ h => .inl h, h⟩
theorem Ext.trans {F H F1 H1 F2 H2 : Hp} (a : Ext F H F1 H1) (b : Ext F1 H1 F2 H2) : Ext F H F2 H2 :=
  ⟨a.ff.trans b.ff, a.hh.trans b.hh, fun c o h => by
    rcases b.fn c o h with q | q
    · exact a.fn c o q
    · exact .inr (a.hh.free q), b.fh⟩
theorem free_of {F H : Hp} (s : Same F H) {p : Addr} (h : H p = none) : F p = none := s.free h
theorem same_upd {H : Hp} {p : Addr} (h : H p = none) (o : HO) : Same H (upd H p o) := fun b u q => by rw [upd_ne (ne_of_none q h)]; exact q
theorem same_upd2 {F H : Hp} (s : Same F H) {p : Addr} (h : H p = none) (o : HO) : Same (upd F p o) (upd H p o) := fun b u q => by
  by_cases e : b = p
  · subst e; rw [upd_same] at q ⊢; exact q
  · rw [upd_ne e] at q ⊢; exact s _ _ q
/-- a new object, frozen at once -/
theorem Ext.frz {F H : Hp} (s : Same F H) {p : Addr} (h : H p = none) (o : HO) : Ext F H (upd F p o) (upd H p o) :=
  ⟨same_upd (free_of s h) o, same_upd h o, fun b u q => by
    by_cases e : b = p
    · subst e; exact .inr h
    · rw [upd_ne e] at q; exact .inl q, same_upd2 s h o⟩
/-- a new object of the def's own -/
theorem Ext.own {F H : Hp} (s : Same F H) {p : Addr} (h : H p = none) (o : HO) : Ext F H F (upd H p o) :=
  ⟨Same.refl _, same_upd h o, fun _ _ q => .inl q, s.trans (same_upd h o)⟩

mutual
inductive OwnAt (K : Kw) (F H : Hp) : V → Ow → List Addr → Prop
  | d {v : V} {x : D} : Dp K F v x → OwnAt K F H v (.d x) []
  | l {a : Addr} {vs : List V} {os : List Ow} {fp : List Addr} : F a = none → H a = some (.lst vs) → OwnAll K F H vs os fp → OwnAt K F H (.ref a) (.l os) (a :: fp)
  | m {a : Addr} {kvs : List (Key × V)} {ps : List (D × D)} : F a = none → H a = some (.dK kvs) → DpKv K F kvs ps → OwnAt K F H (.ref a) (.m ps) [a]
  | t {a : Addr} {vs : List V} {os : List Ow} {fp : List Addr} : SqT K.K F a vs → OwnAll K F H vs os fp → OwnAt K F H (.ref a) (.t os) fp
  | k {a : Addr} {kvs : List (Key × V)} {os : List Ow} {fp : List Addr} : F a = none → H a = some (.dK kvs) → OwnAll K F H (kvs.map (·.2)) os fp → OwnAt K F H (.ref a) (.k (kvs.map fun p => keyD p.1) os) (a :: fp)
  | n {a : Addr} {kvs : List (NestedKey × Addr × V)} {os : List Ow} {fp : List Addr} : F a = none → H a = some (dnO K.w a kvs) → (∀ p ∈ kvs, Dp K F (.ref p.2.1) p.1.data ∧ p.1.depth ≤ 8) → OwnAll K F H (kvs.map (·.2.2)) os fp → OwnAt K F H (.ref a) (.n (kvs.map (·.1.data)) os) (a :: fp)
  | o {c : Str} {a C dx : Addr} {fs : List (Str × V)} {os : List Ow} {fp : List Addr} : PySem.W.nsIn K.K mainGlobals c = some (some (.ref C)) → F a = none → F dx = none → H a = some (.ins C dx fs) → H dx = some (.own a) → OwnAll K F H (fs.map (·.2)) os fp → OwnAt K F H (.ref a) (.o c (fs.map (·.1)) os) (a :: dx :: fp)
inductive OwnAll (K : Kw) (F H : Hp) : List V → List Ow → List Addr → Prop
  | nil : OwnAll K F H [] [] []
  | cons {v : V} {vs : List V} {o : Ow} {os : List Ow} {fp fps : List Addr} : OwnAt K F H v o fp → OwnAll K F H vs os fps → OwnAll K F H (v :: vs) (o :: os) (fp ++ fps)
end
/-- the step of a statement: what is owned (fp) may change -/
structure StepS (F H : Hp) (fp : List Addr) (F' H' : Hp) (fp' : List Addr) : Prop where
  ff : Same F F'
  fr : ∀ b o, H b = some o → b ∉ fp → H' b = some o
  fn : ∀ b o, F' b = some o → F b = some o ∨ b ∈ fp ∨ H b = none
  sub : ∀ b ∈ fp', b ∈ fp ∨ H b = none
theorem StepS.of_ext {F H F' H' : Hp} (e : Ext F H F' H') (fp : List Addr) : StepS F H fp F' H' fp :=
  ⟨e.ff, fun b o h _ => e.hh b o h, fun b o h => (e.fn b o h).imp id .inr, fun b h => .inl h⟩
theorem StepS.trans {F H F1 H1 F2 H2 : Hp} {fp fp1 fp2 : List Addr} (a : StepS F H fp F1 H1 fp1) (b : StepS F1 H1 fp1 F2 H2 fp2) : StepS F H fp F2 H2 fp2 := by
  have nn : ∀ c, H1 c = none → c ∈ fp ∨ H c = none := fun c h => by
    cases q : H c with
    | none => exact .inr rfl
    | some o =>
      by_cases hc : c ∈ fp
      · exact .inl hc
      · rw [a.fr c o q hc] at h; cases h
  refine ⟨a.ff.trans b.ff, fun c o h hc => b.fr c o (a.fr c o h hc) fun z => ?_, fun c o h => ?_, fun c h => ?_⟩
  · rcases a.sub c z with q | q
    · exact hc q
    · rw [h] at q; cases q
  · rcases b.fn c o h with q | q | q
    · exact a.fn c o q
    · exact .inr (a.sub c q)
    · exact .inr (nn c q)
  · rcases b.sub c h with q | q
    · exact a.sub c q
    · exact nn c q
theorem StepS.mono {F H F1 H1 : Hp} {fp fp' fp1 : List Addr} (a : StepS F H fp F1 H1 fp1) (h : ∀ b ∈ fp, b ∈ fp') : StepS F H fp' F1 H1 fp1 :=
  ⟨a.ff, fun b o q n => a.fr b o q fun z => n (h b z), fun b o q => (a.fn b o q).imp id (.imp (h b) id), fun b q => (a.sub b q).imp (h b) id⟩
theorem StepS.subset {F H F1 H1 : Hp} {fp fp1 fp2 : List Addr} (a : StepS F H fp F1 H1 fp1) (h : ∀ b ∈ fp2, b ∈ fp1) : StepS F H fp F1 H1 fp2 :=
  ⟨a.ff, a.fr, a.fn, fun b q => a.sub b (h b q)⟩
theorem StepS.none_of {F H F' H' : Hp} {fx fy : List Addr} {a : Addr} {o : HO} (s : StepS F H fx F' H' fy) (h1 : F a = none) (h2 : H a = some o) (na : a ∉ fx) : F' a = none := by
  cases q : F' a with
  | none => rfl
  | some u =>
    rcases s.fn a u q with z | z | z
    · rw [h1] at z; cases z
    · exact absurd z na
    · rw [h2] at z; cases z

mutual
/-- what is owned apart from what changes stays -/
theorem OwnAt.keep {F H F' H' : Hp} {fx fy : List Addr} (s : StepS F H fx F' H' fy) : ∀ (o : Ow) (v : V) (fp : List Addr), OwnAt K F H v o fp → (∀ b ∈ fp, b ∉ fx) → OwnAt K F' H' v o fp
  | .d x, v, fp, h, _ => by
    cases h with
    | d q => exact .d (dpUp q s.ff)
  | .l os, v, fp, h, n => by
    cases h with
    | @l a vs _ fps h1 h2 h3 =>
      have na : a ∉ fx := n a List.mem_cons_self
      refine .l ?_ (s.fr _ _ h2 na) (OwnAll.keep s os vs fps h3 fun b hb => n b (List.mem_cons_of_mem _ hb))
      cases q : F' a with
      | none => rfl
      | some u =>
        rcases s.fn a u q with z | z | z
        · rw [h1] at z; cases z
        · exact absurd z na
        · rw [h2] at z; cases z
  | .m ps, v, fp, h, n => by
    cases h with
    | @m a kvs _ h1 h2 h3 =>
      have na : a ∉ fx := n a List.mem_cons_self
      refine .m ?_ (s.fr _ _ h2 na) (DpKv.mono s.ff ps _ h3)
      cases q : F' a with
      | none => rfl
      | some u =>
        rcases s.fn a u q with z | z | z
        · rw [h1] at z; cases z
        · exact absurd z na
        · rw [h2] at z; cases z
  | .t os, v, fp, h, n => by
    cases h with
    | @t a vs _ _ h1 h2 => exact .t (SqT_mono s.ff h1) (OwnAll.keep s os vs fp h2 n)
  | .k _ os, v, fp, h, n => by
    cases h with
    | @k a kvs _ fps h1 h2 h3 =>
      have na : a ∉ fx := n a List.mem_cons_self
      refine .k (s.none_of h1 h2 na) (s.fr _ _ h2 na) (OwnAll.keep s os _ fps h3 fun b hb => n b (List.mem_cons_of_mem _ hb))
  | .n _ os, v, fp, h, n => by
    cases h with
    | @n a kvs _ fps h1 h2 h3 h4 =>
      have na : a ∉ fx := n a List.mem_cons_self
      refine .n (s.none_of h1 h2 na) (s.fr _ _ h2 na) (fun p hp => ⟨Dp.mono s.ff _ _ (h3 p hp).1, (h3 p hp).2⟩) (OwnAll.keep s os _ fps h4 fun b hb => n b (List.mem_cons_of_mem _ hb))
  | .o _ _ os, v, fp, h, n => by
    cases h with
    | @o c a C dx fs _ fps h0 h1 h2 h3 h4 h5 =>
      have na : a ∉ fx := n a List.mem_cons_self
      have nd : dx ∉ fx := n dx (List.mem_cons_of_mem _ List.mem_cons_self)
      exact .o h0 (s.none_of h1 h3 na) (s.none_of h2 h4 nd) (s.fr _ _ h3 na) (s.fr _ _ h4 nd) (OwnAll.keep s os _ fps h5 fun b hb => n b (List.mem_cons_of_mem _ (List.mem_cons_of_mem _ hb)))
theorem OwnAll.keep {F H F' H' : Hp} {fx fy : List Addr} (s : StepS F H fx F' H' fy) : ∀ (os : List Ow) (vs : List V) (fp : List Addr), OwnAll K F H vs os fp → (∀ b ∈ fp, b ∉ fx) → OwnAll K F' H' vs os fp
  | [], vs, fp, h, _ => by cases h; exact .nil
  | o :: os, vs, fp, h, n => by
    cases h with
    | cons h1 h2 => exact .cons (OwnAt.keep s o _ _ h1 fun b hb => n b (List.mem_append_left _ hb)) (OwnAll.keep s os _ _ h2 fun b hb => n b (List.mem_append_right _ hb))
end
theorem OwnAt.ext {F H F' H' : Hp} {v : V} {o : Ow} {fp : List Addr} (h : OwnAt K F H v o fp) (e : Ext F H F' H') : OwnAt K F' H' v o fp :=
  OwnAt.keep (StepS.of_ext e []) o v fp h fun _ _ => by simp
theorem OwnAll.ext {F H F' H' : Hp} {v : List V} {o : List Ow} {fp : List Addr} (h : OwnAll K F H v o fp) (e : Ext F H F' H') : OwnAll K F' H' v o fp :=
  OwnAll.keep (StepS.of_ext e []) o v fp h fun _ _ => by simp
mutual
theorem OwnAt.there {F H : Hp} : ∀ (o : Ow) (v : V) (fp : List Addr), OwnAt K F H v o fp → ∀ b ∈ fp, F b = none ∧ ∃ o, H b = some o
  | .d x, v, fp, h, b, hb => by cases h; cases hb
  | .l os, v, fp, h, b, hb => by
    cases h with
    | l h1 h2 h3 =>
      rcases List.mem_cons.mp hb with e | e
      · subst e; exact ⟨h1, _, h2⟩
      · exact OwnAll.there os _ _ h3 b e
  | .m ps, v, fp, h, b, hb => by
    cases h with
    | m h1 h2 h3 =>
      rw [List.mem_singleton] at hb
      subst hb; exact ⟨h1, _, h2⟩
  | .t os, v, fp, h, b, hb => by
    cases h with
    | t h1 h2 => exact OwnAll.there os _ _ h2 b hb
  | .k _ os, v, fp, h, b, hb => by
    cases h with
    | k h1 h2 h3 =>
      rcases List.mem_cons.mp hb with e | e
      · subst e; exact ⟨h1, _, h2⟩
      · exact OwnAll.there os _ _ h3 b e
  | .n _ os, v, fp, h, b, hb => by
    cases h with
    | n h1 h2 h3 h4 =>
      rcases List.mem_cons.mp hb with e | e
      · subst e; exact ⟨h1, _, h2⟩
      · exact OwnAll.there os _ _ h4 b e
  | .o _ _ os, v, fp, h, b, hb => by
    cases h with
    | o h0 h1 h2 h3 h4 h5 =>
      rcases List.mem_cons.mp hb with e | e
      · subst e; exact ⟨h1, _, h3⟩
      · rcases List.mem_cons.mp e with e | e
        · subst e; exact ⟨h2, _, h4⟩
        · exact OwnAll.there os _ _ h5 b e
theorem OwnAll.there {F H : Hp} : ∀ (o : List Ow) (v : List V) (fp : List Addr), OwnAll K F H v o fp → ∀ b ∈ fp, F b = none ∧ ∃ o, H b = some o
  | [], v, fp, h, b, hb => by cases h; cases hb
  | o :: os, v, fp, h, b, hb => by
    cases h with
    | cons h1 h2 =>
      rcases List.mem_append.mp hb with e | e
      · exact OwnAt.there o _ _ h1 b e
      · exact OwnAll.there os _ _ h2 b e
end
theorem dpKv_zip {H : Hp} : ∀ {kvs : List (Key × V)} {ds : List D}, DpAll K H (kvs.map (·.2)) ds → DpKv K H kvs ((kvs.map fun p => keyD p.1).zip ds)
  | [], _, h => by cases h; exact .nil
  | p :: kvs, _, h => by
    cases h with
    | cons h1 h2 => exact .cons h1 (dpKv_zip h2)
theorem dpKn_zip {H : Hp} : ∀ {kvs : List (NestedKey × Addr × V)} {ds : List D}, (∀ p ∈ kvs, Dp K H (.ref p.2.1) p.1.data ∧ p.1.depth ≤ 8) → DpAll K H (kvs.map (·.2.2)) ds → DpKn K H kvs ((kvs.map (·.1.data)).zip ds)
  | [], _, _, h => by cases h; exact .nil
  | p :: kvs, _, g, h => by
    cases h with
    | cons h1 h2 => exact .cons (g p List.mem_cons_self).1 (g p List.mem_cons_self).2 h1 (dpKn_zip (fun q hq => g q (List.mem_cons_of_mem _ hq)) h2)
mutual
theorem OwnAt.view {F H : Hp} (s : Same F H) : ∀ (o : Ow) (v : V) (fp : List Addr), OwnAt K F H v o fp → Dp K H v (viewD o)
  | .d x, v, fp, h => by
    cases h with
    | d q => rw [viewD]; exact dpUp q s
  | .l os, v, fp, h => by
    cases h with
    | l h1 h2 h3 => rw [viewD]; exact .lst (SqL.of h2) (OwnAll.view s os _ _ h3)
  | .m ps, v, fp, h => by
    cases h with
    | m h1 h2 h3 => rw [viewD]; exact .dct (.inl h2) (DpKv.mono s ps _ h3)
  | .t os, v, fp, h => by
    cases h with
    | t h1 h2 => rw [viewD]; exact .tup (SqT_mono s h1) (OwnAll.view s os _ _ h2)
  | .k _ os, v, fp, h => by
    cases h with
    | k h1 h2 h3 => rw [viewD]; exact .dct (.inl h2) (dpKv_zip (OwnAll.view s os _ _ h3))
  | .n _ os, v, fp, h => by
    cases h with
    | n h1 h2 h3 h4 => rw [viewD]; exact .dcn (.inl h2) (dpKn_zip (fun p hp => ⟨Dp.mono s _ _ (h3 p hp).1, (h3 p hp).2⟩) (OwnAll.view s os _ _ h4))
  | .o _ _ os, v, fp, h => by
    cases h with
    | o h0 h1 h2 h3 h4 h5 => rw [viewD]; exact .ins h3
theorem OwnAll.view {F H : Hp} (s : Same F H) : ∀ (o : List Ow) (v : List V) (fp : List Addr), OwnAll K F H v o fp → DpAll K H v (viewAll o)
  | [], v, fp, h => by cases h; rw [viewAll]; exact .nil
  | o :: os, v, fp, h => by
    cases h with
    | cons h1 h2 => rw [viewAll]; exact .cons (OwnAt.view s o _ _ h1) (OwnAll.view s os _ _ h2)
end
theorem OwnAll.len {F H : Hp} : ∀ {os : List Ow} {vs : List V} {fp : List Addr}, OwnAll K F H vs os fp → vs.length = os.length
  | [], _, _, h => by cases h; rfl
  | o :: os, _, _, h => by
    cases h with
    | cons h1 h2 => simp [OwnAll.len h2]
/-- F with the objects at fp as they stand in H -/
def frzAt (F H : Hp) (fp : List Addr) : Hp := fun b => if b ∈ fp then H b else F b
theorem frzAt_same {F H : Hp} {fp : List Addr} (n : ∀ b ∈ fp, F b = none) : Same F (frzAt F H fp) := fun b o h => by
  have : b ∉ fp := fun z => by rw [n b z] at h; cases h
  simp [frzAt, this, h]
theorem frzAt_in {F H : Hp} {fp : List Addr} (s : Same F H) : Same (frzAt F H fp) H := fun b o h => by
  unfold frzAt at h
  split at h
  · exact h
  · exact s _ _ h
theorem frzAt_of {F H : Hp} {fp : List Addr} {b : Addr} {o : HO} (h : frzAt F H fp b = some o) : F b = some o ∨ b ∈ fp := by
  unfold frzAt at h
  split at h
  · exact .inr ‹_›
  · exact .inl h
mutual
theorem OwnAt.frz {F H : Hp} {fx : List Addr} (nx : ∀ b ∈ fx, F b = none) : ∀ (o : Ow) (v : V) (fp : List Addr), OwnAt K F H v o fp → (∀ b ∈ fp, b ∈ fx) → Dp K (frzAt F H fx) v (viewD o)
  | .d x, v, fp, h, _ => by
    cases h with
    | d q => rw [viewD]; exact dpUp q (frzAt_same nx)
  | .l os, v, fp, h, hs => by
    cases h with
    | @l a _ _ _ h1 h2 h3 =>
      rw [viewD]
      have e : frzAt F H fx a = some (.lst _) := (if_pos (hs a List.mem_cons_self)).trans h2
      exact .lst (SqL.of e) (OwnAll.frz nx os _ _ h3 fun b hb => hs b (List.mem_cons_of_mem _ hb))
  | .m ps, v, fp, h, hs => by
    cases h with
    | @m a _ _ h1 h2 h3 =>
      rw [viewD]
      have e : frzAt F H fx a = some (.dK _) := (if_pos (hs a List.mem_cons_self)).trans h2
      exact .dct (.inl e) (DpKv.mono (frzAt_same nx) ps _ h3)
  | .t os, v, fp, h, hs => by
    cases h with
    | t h1 h2 => rw [viewD]; exact .tup (SqT_mono (frzAt_same nx) h1) (OwnAll.frz nx os _ _ h2 hs)
  | .k _ os, v, fp, h, hs => by
    cases h with
    | @k a _ _ _ h1 h2 h3 =>
      rw [viewD]
      have e : frzAt F H fx a = some (.dK _) := (if_pos (hs a List.mem_cons_self)).trans h2
      exact .dct (.inl e) (dpKv_zip (OwnAll.frz nx os _ _ h3 fun b hb => hs b (List.mem_cons_of_mem _ hb)))
  | .n _ os, v, fp, h, hs => by
    cases h with
    | @n a _ _ _ h1 h2 h3 h4 =>
      rw [viewD]
      have e : frzAt F H fx a = some (dnO _ _ _) := (if_pos (hs a List.mem_cons_self)).trans h2
      exact .dcn (.inl e) (dpKn_zip (fun p hp => ⟨Dp.mono (frzAt_same nx) _ _ (h3 p hp).1, (h3 p hp).2⟩) (OwnAll.frz nx os _ _ h4 fun b hb => hs b (List.mem_cons_of_mem _ hb)))
  | .o _ _ os, v, fp, h, hs => by
    cases h with
    | @o c a C dx fs _ _ h0 h1 h2 h3 h4 h5 =>
      rw [viewD]
      have e : frzAt F H fx a = some (.ins _ _ _) := (if_pos (hs a List.mem_cons_self)).trans h3
      exact .ins e
theorem OwnAll.frz {F H : Hp} {fx : List Addr} (nx : ∀ b ∈ fx, F b = none) : ∀ (o : List Ow) (v : List V) (fp : List Addr), OwnAll K F H v o fp → (∀ b ∈ fp, b ∈ fx) → DpAll K (frzAt F H fx) v (viewAll o)
  | [], v, fp, h, _ => by cases h; rw [viewAll]; exact .nil
  | o :: os, v, fp, h, hs => by
    cases h with
    | cons h1 h2 => rw [viewAll]; exact .cons (OwnAt.frz nx o _ _ h1 fun b hb => hs b (List.mem_append_left _ hb)) (OwnAll.frz nx os _ _ h2 fun b hb => hs b (List.mem_append_right _ hb))
end
/-- a fresh owned value made data -/
theorem Ext.freeze {F H F' H' : Hp} {v : V} {o : Ow} {fp : List Addr} (e : Ext F H F' H') (h : OwnAt K F' H' v o fp) (n : ∀ b ∈ fp, H b = none) :
    ∃ F2, Ext F H F2 H' ∧ Dp K F2 v (viewD o) := by
  have nx : ∀ b ∈ fp, F' b = none := fun b hb => (OwnAt.there o v fp h b hb).1
  refine ⟨frzAt F' H' fp, ⟨e.ff.trans (frzAt_same nx), e.hh, fun b u q => ?_, frzAt_in e.fh⟩, OwnAt.frz nx o v fp h fun _ z => z⟩
  rcases frzAt_of q with z | z
  · exact e.fn b u z
  · exact .inr (n b z)

inductive EnvAt (K : Kw) (F H : Hp) : St → Ev → List Addr → Prop
  | nil : EnvAt K F H [] [] []
  | non {x : Option V} {σ : St} {env : Ev} {fp : List Addr} : EnvAt K F H σ env fp → EnvAt K F H (x :: σ) (none :: env) fp
  | som {v : V} {o : Ow} {σ : St} {env : Ev} {fp fps : List Addr} : OwnAt K F H v o fp → EnvAt K F H σ env fps → EnvAt K F H (some v :: σ) (some o :: env) (fp ++ fps)
theorem EnvAt.keep {F H F' H' : Hp} {fx fy : List Addr} (s : StepS F H fx F' H' fy) : ∀ {σ : St} {env : Ev} {fp : List Addr}, EnvAt K F H σ env fp → (∀ b ∈ fp, b ∉ fx) → EnvAt K F' H' σ env fp := by
  intro σ env fp h
  induction h with
  | nil => intro _; exact .nil
  | non h ih => intro n; exact .non (ih n)
  | som h1 h2 ih => intro n; exact .som (OwnAt.keep s _ _ _ h1 fun b hb => n b (List.mem_append_left _ hb)) (ih fun b hb => n b (List.mem_append_right _ hb))
theorem EnvAt.ext {F H F' H' : Hp} {σ : St} {env : Ev} {fp : List Addr} (h : EnvAt K F H σ env fp) (e : Ext F H F' H') : EnvAt K F' H' σ env fp :=
  h.keep (StepS.of_ext e []) fun _ _ => by simp
theorem EnvAt.there {F H : Hp} {σ : St} {env : Ev} {fp : List Addr} (h : EnvAt K F H σ env fp) : ∀ b ∈ fp, F b = none ∧ ∃ o, H b = some o := by
  induction h with
  | nil => intro b hb; cases hb
  | non h ih => exact ih
  | som h1 h2 ih =>
    intro b hb
    rcases List.mem_append.mp hb with e | e
    · exact OwnAt.there _ _ _ h1 b e
    · exact ih b e
theorem EnvAt.len {F H : Hp} {σ : St} {env : Ev} {fp : List Addr} (h : EnvAt K F H σ env fp) : σ.length = env.length := by
  induction h with
  | nil => rfl
  | non h ih => simp [ih]
  | som h1 h2 ih => simp [ih]
/-- a slot read: its own footprint, and the others' -/
theorem EnvAt.get {F H : Hp} {σ : St} {env : Ev} {fp : List Addr} (h : EnvAt K F H σ env fp) : ∀ {i : Nat} {o : Ow}, env[i]? = some (some o) → ∃ v fo, σ[i]? = some (some v) ∧ OwnAt K F H v o fo ∧ (∀ b ∈ fo, b ∈ fp) := by
  induction h with
  | nil => intro i o e; simp at e
  | non h ih =>
    intro i o e
    cases i with
    | zero => simp at e
    | succ i => simpa using ih (i := i) (by simpa using e)
  | @som v o' σ' env' fp1 fps h1 h2 ih =>
    intro i o e
    cases i with
    | zero =>
      simp at e; subst e
      exact ⟨v, fp1, rfl, h1, fun b hb => List.mem_append_left _ hb⟩
    | succ i =>
      obtain ⟨v2, fo, a, b, c⟩ := ih (i := i) (by simpa using e)
      exact ⟨v2, fo, by simpa using a, b, fun b hb => List.mem_append_right _ (c b hb)⟩
/-- a slot changed: the rest keeps; fo what stood there, fr the rest (F, H may have moved by a step within fo) -/
theorem EnvAt.put {F H : Hp} {σ : St} {env : Ev} {fp : List Addr} (h : EnvAt K F H σ env fp) : ∀ {i : Nat}, i < env.length → fp.Nodup → ∃ fr fo, (∀ b ∈ fr, b ∈ fp) ∧ (∀ b ∈ fo, b ∈ fp) ∧ fr.Nodup ∧ fo.Nodup ∧ (∀ b ∈ fo, b ∉ fr) ∧
    (∀ o, env[i]? = some (some o) → ∃ v, σ[i]? = some (some v) ∧ OwnAt K F H v o fo) ∧
    ∀ (F' H' : Hp) (fx fy : List Addr), StepS F H fx F' H' fy → (∀ b ∈ fr, b ∉ fx) → (∀ (x : Option V), EnvAt K F' H' (σ.set i x) (env.set i none) fr) ∧ ∀ (v : V) (o : Ow) (fn : List Addr), OwnAt K F' H' v o fn → fn.Nodup → (∀ b ∈ fn, b ∉ fr) → ∃ fp', fp'.Nodup ∧ (∀ b ∈ fp', b ∈ fn ∨ b ∈ fr) ∧ EnvAt K F' H' (σ.set i (some v)) (env.set i (some o)) fp' := by
  induction h with
  | nil => intro i hi; simp at hi
  | @non x σ' env' fps h ih =>
    intro i hi hn
    cases i with
    | zero =>
      refine ⟨fps, [], fun b z => z, (fun b z => nomatch z), hn, List.nodup_nil, fun b z => (nomatch z), fun o e => by simp at e, fun F' H' fx fy s n => ⟨fun x => .non (h.keep s n), fun v o fn ho hd hx => ?_⟩⟩
      refine ⟨fn ++ fps, ?_, fun b hb => List.mem_append.mp hb, .som ho (h.keep s n)⟩
      rw [List.nodup_append]
      exact ⟨hd, hn, fun a ha b hb e => hx a ha (e ▸ hb)⟩
    | succ i =>
      obtain ⟨fr, fo, a1, a2, a3, a3', a4, a5, a6⟩ := ih (i := i) (by simpa using hi) hn
      refine ⟨fr, fo, a1, a2, a3, a3', a4, by simpa using a5, fun F' H' fx fy s n => ⟨fun x => .non ((a6 F' H' fx fy s n).1 x), fun v o fn ho hd hx => ?_⟩⟩
      obtain ⟨fp', b1, b2, b3⟩ := (a6 F' H' fx fy s n).2 v o fn ho hd hx
      exact ⟨fp', b1, b2, .non b3⟩
  | @som v0 o0 σ' env' f1 fps h1 h2 ih =>
    intro i hi hn
    rw [List.nodup_append] at hn
    obtain ⟨n1, n2, n3⟩ := hn
    cases i with
    | zero =>
      refine ⟨fps, f1, fun b z => List.mem_append_right _ z, fun b z => List.mem_append_left _ z, n2, n1, fun b z q => n3 b z b q rfl, fun o e => ?_, fun F' H' fx fy s n => ⟨fun x => .non (h2.keep s n), fun v o fn ho hd hx => ?_⟩⟩
      · simp at e; subst e; exact ⟨v0, rfl, h1⟩
      · refine ⟨fn ++ fps, ?_, fun b hb => List.mem_append.mp hb, .som ho (h2.keep s n)⟩
        rw [List.nodup_append]
        exact ⟨hd, n2, fun a ha b hb e => hx a ha (e ▸ hb)⟩
    | succ i =>
      obtain ⟨fr, fo, a1, a2, a3, a3', a4, a5, a6⟩ := ih (i := i) (by simpa using hi) n2
      have dis : ∀ b ∈ f1, b ∉ fr := fun b z q => n3 b z b (a1 b q) rfl
      have key : ∀ (F' H' : Hp) (fx fy : List Addr), StepS F H fx F' H' fy → (∀ b ∈ f1 ++ fr, b ∉ fx) → OwnAt K F' H' v0 o0 f1 := fun F' H' fx fy s n => OwnAt.keep s _ _ _ h1 fun b hb => n b (List.mem_append_left _ hb)
      refine ⟨f1 ++ fr, fo, fun b z => ?_, fun b z => List.mem_append_right _ (a2 b z), ?_, a3', fun b z q => ?_, by simpa using a5, fun F' H' fx fy s n => ⟨fun x => .som (key F' H' fx fy s n) ((a6 F' H' fx fy s fun b hb => n b (List.mem_append_right _ hb)).1 x), fun v o fn ho hd hx => ?_⟩⟩
      · rcases List.mem_append.mp z with z | z
        · exact List.mem_append_left _ z
        · exact List.mem_append_right _ (a1 b z)
      · rw [List.nodup_append]; exact ⟨n1, a3, fun a ha b hb e => dis a ha (e ▸ hb)⟩
      · rcases List.mem_append.mp q with q | q
        · exact n3 b q b (a2 b z) rfl
        · exact a4 b z q
      · obtain ⟨fp', b1, b2, b3⟩ := (a6 F' H' fx fy s fun b hb => n b (List.mem_append_right _ hb)).2 v o fn ho hd fun b hb q => hx b hb (List.mem_append_right _ q)
        have dj : ∀ b ∈ f1, b ∉ fp' := fun b z q => by
          rcases b2 b q with r | r
          · exact hx b r (List.mem_append_left _ z)
          · exact dis b z r
        refine ⟨f1 ++ fp', ?_, fun b hb => ?_, .som (key F' H' fx fy s n) b3⟩
        · rw [List.nodup_append]; exact ⟨n1, b1, fun a ha b hb e => dj a ha (e ▸ hb)⟩
        · rcases List.mem_append.mp hb with r | r
          · exact .inr (List.mem_append_left _ r)
          · exact (b2 b r).imp id (List.mem_append_right _)

structure Sat (K : Kw) (F H : Hp) (σ : St) (env : Ev) (fp : List Addr) : Prop where
  fh : Same F H
  en : EnvAt K F H σ env fp
  nd : fp.Nodup
theorem Sat.ext {F H F' H' : Hp} {σ : St} {env : Ev} {fp : List Addr} (s : Sat K F H σ env fp) (e : Ext F H F' H') : Sat K F' H' σ env fp := ⟨e.fh, s.en.ext e, s.nd⟩
end
end Mir
end
set_option Elab.async false
set_option linter.all false
set_option maxRecDepth 100000
set_option maxHeartbeats 4000000
noncomputable section
namespace Mir
open PySem PySem.Spec L2

def Post (X : Cx) (W : WX) {α β : Type} (P : Hp → α → β → Hp → Hp → Prop) (F H : Hp) (σ : L2.St) : R α → (β → Hp → Prop) → Prop
  | .no, _ => False
  | .ok a, Q => ∀ v F' H', Ext F H F' H' → P H a v F' H' → Q v H'
  | .ex c, _ => ∀ C F' H', X.mg c = some (.ref C) → Ext F H F' H' → W (.ref C) none σ H'
class Anti {α β : Type} (P : Hp → α → β → Hp → Hp → Prop) : Prop where
  anti : ∀ {H H1 : Hp} {a : α} {v : β} {F' H' : Hp}, Same H H1 → P H1 a v F' H' → P H a v F' H'
def PVw (K : Kw) (_ : Hp) (d : D) (v : V) (_ H' : Hp) : Prop := Dp K H' v d
def PFz (K : Kw) (_ : Hp) (d : D) (v : V) (F' _ : Hp) : Prop := Dp K F' v d
def POw (K : Kw) (H : Hp) (r : Ow) (v : V) (F' H' : Hp) : Prop := ∃ fp, OwnAt K F' H' v r fp ∧ fp.Nodup ∧ ∀ b ∈ fp, H b = none
/-- a list or tuple whose items are frozen, though it may itself change; other data -/
def PSq (K : Kw) (_ : Hp) (d : D) (v : V) (F' H' : Hp) : Prop := match d with
  | .list ds => ∃ a vs, v = .ref a ∧ SqL K H' a vs ∧ DpAll K F' vs ds
  | d => Dp K F' v d
def PTb (_ : Hp) (b : Bool) (v : Bool) (_ _ : Hp) : Prop := v = b
def PAv (K : Kw) (_ : Hp) (ds : List D) (vs : List V) (_ H' : Hp) : Prop := DpAll K H' vs ds
def PAf (K : Kw) (_ : Hp) (ds : List D) (vs : List V) (F' _ : Hp) : Prop := DpAll K F' vs ds
variable {K : Kw}
instance : Anti (PVw K) := ⟨fun _ h => h⟩
instance : Anti (PFz K) := ⟨fun _ h => h⟩
instance : Anti (PSq K) := ⟨fun {_ _ _ _ _ _} _ h => h⟩
instance : Anti PTb := ⟨fun _ h => h⟩
instance : Anti (PAv K) := ⟨fun _ h => h⟩
instance : Anti (PAf K) := ⟨fun _ h => h⟩
instance : Anti (POw K) := ⟨fun s ⟨fp, a, b, c⟩ => ⟨fp, a, b, fun x hx => s.free (c x hx)⟩⟩

/-- the semantics: t (a reading) is implied by the mirror f -/
def Sm (X : Cx) (W : WX) {α β : Type} (P : Hp → α → β → Hp → Hp → Prop) (t : L2.St → Hp → (β → Hp → Prop) → Prop) (f : Ev → R α) : Prop :=
  ∀ F H σ env fp Q, Sat X.KK F H σ env fp → Post X W P F H σ (f env) Q → t σ H Q
section
variable {X : Cx} {W : WX} {α β γ δ : Type}
theorem Post.ext {P : Hp → α → β → Hp → Hp → Prop} [Anti P] {F H F1 H1 : Hp} {σ : L2.St} {r : R α} {Q : β → Hp → Prop} (h : Post X W P F H σ r Q) (e : Ext F H F1 H1) : Post X W P F1 H1 σ r Q := by
  cases r with
  | no => exact h
  | ok a => exact fun v F' H' e' p => h v F' H' (e.trans e') (Anti.anti e.hh p)
  | ex c => exact fun C F' H' m e' => h C F' H' m (e.trans e')
/-- evaluate one part, go on -/
theorem Sm.go {P : Hp → α → β → Hp → Hp → Prop} {P2 : Hp → γ → δ → Hp → Hp → Prop} [Anti P2] {t : L2.St → Hp → (β → Hp → Prop) → Prop} {f : Ev → R α} (s : Sm X W P t f) {g : α → R γ} {F H : Hp} {σ : L2.St} {env : Ev} {fp : List Addr} {Q : δ → Hp → Prop} {T : β → Hp → Prop}
    (sat : Sat X.KK F H σ env fp) (h : Post X W P2 F H σ ((f env).bind g) Q) (k : ∀ a v F1 H1, Sat X.KK F1 H1 σ env fp → P H a v F1 H1 → Ext F H F1 H1 → Post X W P2 F1 H1 σ (g a) Q → T v H1) : t σ H T := by
  refine s F H σ env fp T sat ?_
  cases e : f env with
  | no => rw [e] at h; exact h
  | ok a =>
    rw [e] at h
    exact fun v F' H' x p => k a v F' H' (sat.ext x) p x (Post.ext (show Post X W P2 F H σ (g a) Q from h) x)
  | ex c => rw [e] at h; exact h
theorem Post.thru {β' : Type} {P : Hp → α → β → Hp → Hp → Prop} {P2 : Hp → γ → β' → Hp → Hp → Prop} {F H : Hp} {σ : L2.St} {r : R α} {g : α → R γ} {Q : β → Hp → Prop} {Q2 : β' → Hp → Prop} (h : Post X W P2 F H σ (r.bind g) Q2)
    (k : ∀ a, r = .ok a → Post X W P2 F H σ (g a) Q2 → ∀ v F' H', Ext F H F' H' → P H a v F' H' → Q v H') : Post X W P F H σ r Q := by
  cases r with
  | no => exact h
  | ok a => exact k a rfl h
  | ex c => exact h
theorem Sm.map {P : Hp → α → β → Hp → Hp → Prop} {P2 : Hp → γ → β → Hp → Hp → Prop} {t : L2.St → Hp → (β → Hp → Prop) → Prop} {f : Ev → R α} (s : Sm X W P t f) {g : α → R γ} (k : ∀ H a v F' H', Same F' H' → P H a v F' H' → ∃ c, g a = .ok c ∧ P2 H c v F' H') :
    Sm X W P2 t fun env => (f env).bind g := by
  intro F H σ env fp Q sat h
  refine s F H σ env fp Q sat (Post.thru h fun a _ h' v F' H' x p => ?_)
  obtain ⟨c, hc, q⟩ := k H a v F' H' x.fh p
  rw [hc] at h'
  exact h' v F' H' x q
end

def eB {α β : Type} (f : Ev → R α) (g : α → R β) (env : Ev) : R β := (f env).bind g
def eM {α β : Type} (f : Ev → R α) (g : α → β) (env : Ev) : R β := (f env).map g

section
variable (X : Cx) (W : WX)
def DV (e : Expr) (f : Ev → R D) : Prop := ∃ t, PE X e t ∧ Sm X W (PVw X.KK) t f
def DF (e : Expr) (f : Ev → R D) : Prop := ∃ t, PE X e t ∧ Sm X W (PFz X.KK) t f
def DE (e : Expr) (f : Ev → R Ow) : Prop := ∃ t, PE X e t ∧ Sm X W (POw X.KK) t f
def DL (e : Expr) (f : Ev → R D) : Prop := ∃ t, PE X e t ∧ Sm X W (PSq X.KK) t f
def DT (e : Expr) (f : Ev → R Bool) : Prop := ∃ t, PT X e t ∧ Sm X W PTb t f
def DW (e : Expr) (f : Ev → R Bool) : Prop := ∃ t, PW X e t ∧ Sm X W PTb t f
def DA (es : List Expr) (f : Ev → R (List D)) : Prop := ∃ t, PA X es t ∧ Sm X W (PAf X.KK) t f
end
def unD : Ow → Option D
  | .d x => some x
  | .l _ => none
  | _ => none
def unDs : List Ow → Option (List D)
  | [] => some []
  | o :: os => (unD o).bind fun x => (unDs os).map fun xs => x :: xs
@[simp] theorem unDs_map : ∀ ds : List D, unDs (ds.map Ow.d) = some ds
  | [] => rfl
  | d :: ds => by simp [unDs, unD, unDs_map ds]
theorem unDs_eq : ∀ {os : List Ow} {ds : List D}, unDs os = some ds → os = ds.map Ow.d
  | [], ds, h => by simp [unDs] at h; subst h; rfl
  | .d x :: os, ds, h => by
    simp only [unDs, unD, Option.bind_some, Option.map_eq_some_iff] at h
    obtain ⟨xs, h1, h2⟩ := h
    subst h2
    rw [unDs_eq h1]; rfl
  | .l _ :: os, ds, h => by simp [unDs, unD] at h
  | .m _ :: os, ds, h => by simp [unDs, unD] at h
  | .t _ :: os, ds, h => by simp [unDs, unD] at h
  | .k _ _ :: os, ds, h => by simp [unDs, unD] at h
  | .n _ _ :: os, ds, h => by simp [unDs, unD] at h
  | .o _ _ _ :: os, ds, h => by simp [unDs, unD] at h
def shD : Ow → R D
  | .d x => .ok x
  | .l os => match unDs os with
    | some ds => .ok (.list ds)
    | none => .no
  | _ => .no
@[simp] theorem shD_d (x : D) : shD (.d x) = .ok x := rfl
@[simp] theorem shD_l (ds : List D) : shD (.l (ds.map Ow.d)) = .ok (.list ds) := by simp [shD]
@[simp] theorem shD_nil : shD (.l []) = .ok (.list []) := rfl
theorem OwnAll.dp {F H : Hp} : ∀ {ds : List D} {vs : List V} {fp : List Addr}, OwnAll K F H vs (ds.map Ow.d) fp → DpAll K F vs ds ∧ fp = []
  | [], _, _, h => by cases h; exact ⟨.nil, rfl⟩
  | d :: ds, _, _, h => by
    cases h with
    | cons h1 h2 =>
      cases h1 with
      | d q =>
        obtain ⟨a, b⟩ := OwnAll.dp (ds := ds) h2
        exact ⟨.cons q a, by rw [b]; rfl⟩
theorem OwnAll.of_dp {F H : Hp} : ∀ {ds : List D} {vs : List V}, DpAll K F vs ds → OwnAll K F H vs (ds.map Ow.d) []
  | [], _, h => by cases h; exact .nil
  | d :: ds, _, h => by
    cases h with
    | cons h1 h2 => exact .cons (fp := []) (.d h1) (OwnAll.of_dp h2)
theorem PSq.of {F H : Hp} {v : V} {d : D} {H0 : Hp} (s : Same F H) (h : Dp K F v d) : PSq K H0 d v F H := by
  cases d with
  | list ds =>
    cases h with
    | lst hs ha => exact ⟨_, _, rfl, s.seq hs, ha⟩
  | _ => exact h
theorem PSq.view {F H : Hp} {v : V} {d : D} {H0 : Hp} (s : Same F H) (h : PSq K H0 d v F H) : Dp K H v d := by
  cases d with
  | list ds =>
    obtain ⟨a, vs, rfl, h1, h2⟩ := h
    exact .lst h1 (dpaUp h2 s)
  | _ => exact dpUp (show Dp K F v _ from h) s
theorem PSq.ext {F H F1 H1 : Hp} {v : V} {d : D} {H0 H2 : Hp} (e : Ext F H F1 H1) (h : PSq K H0 d v F H) : PSq K H2 d v F1 H1 := by
  cases d with
  | list ds =>
    obtain ⟨a, vs, rfl, h1, h2⟩ := h
    exact ⟨_, _, rfl, e.hh.seq h1, dpaUp h2 e.ff⟩
  | _ => exact dpUp (show Dp K F v _ from h) e.ff
theorem own_seq {F H : Hp} {v : V} {o : Ow} {fp : List Addr} {d : D} {H0 : Hp} (s : Same F H) (h : OwnAt K F H v o fp) (e : shD o = .ok d) : PSq K H0 d v F H := by
  cases o with
  | d x =>
    cases h with
    | d p =>
      cases e
      exact .of s p
  | l os =>
    cases h with
    | l h1 h2 h3 =>
      have e' : (match unDs os with | some ds => (R.ok (.list ds) : R D) | none => .no) = .ok d := e
      clear e
      cases u : unDs os with
      | none => rw [u] at e'; cases e'
      | some ds =>
        rw [u] at e'
        cases e'
        rw [unDs_eq u] at h3
        exact ⟨_, _, rfl, SqL.of h2, (OwnAll.dp h3).1⟩
  | _ => cases e
theorem shD_ex (o : Ow) (c : Str) : shD o ≠ .ex c := fun e => by
  cases o with
  | d x => cases e
  | l os =>
    have e' : (match unDs os with | some ds => (R.ok (.list ds) : R D) | none => .no) = .ex c := e
    split at e' <;> cases e'
  | _ => cases e
theorem shD_ok {X : Cx} {W : WX} {β : Type} {P : Hp → D → β → Hp → Hp → Prop} {F H : Hp} {σ : L2.St} {o : Ow} {Q : β → Hp → Prop} (h : Post X W P F H σ (shD o) Q) : ∃ r, shD o = .ok r := by
  cases e2 : shD o with
  | no => rw [e2] at h; exact h.elim
  | ex c => exact absurd e2 (shD_ex o c)
  | ok r => exact ⟨r, rfl⟩
section
variable {X : Cx} {W : WX} {e a b : Expr} {es : List Expr} {pos : Pos}
theorem dv_df {f : Ev → R D} (h : DF X W e f) : DV X W e f := by
  obtain ⟨t, p, s⟩ := h
  refine ⟨t, p, fun F H σ env fp Q sat h => s F H σ env fp Q sat ?_⟩
  cases e : f env with
  | no => rw [e] at h; exact h
  | ex c => rw [e] at h; exact h
  | ok d => rw [e] at h; exact fun v F' H' x q => h v F' H' x (dpUp q x.fh)
theorem dv_de {f : Ev → R Ow} (h : DE X W e f) : DV X W e (eM f viewD) := by
  obtain ⟨t, p, s⟩ := h
  refine ⟨t, p, Sm.map s fun H o v F' H' sm ⟨fp, q, _⟩ => ⟨viewD o, rfl, OwnAt.view sm o v fp q⟩⟩
theorem de_df {f : Ev → R D} (h : DF X W e f) : DE X W e (eM f Ow.d) := by
  obtain ⟨t, p, s⟩ := h
  refine ⟨t, p, Sm.map s fun H d v F' H' sm q => ⟨.d d, rfl, [], .d q, List.nodup_nil, fun b z => nomatch z⟩⟩
theorem df_de {f : Ev → R Ow} (h : DE X W e f) : DF X W e (eM f viewD) := by
  obtain ⟨t, p, s⟩ := h
  refine ⟨t, p, fun F H σ env fp Q sat h => s F H σ env fp Q sat (Post.thru h fun d _ h' v F' H' x ⟨fp, q, _, n⟩ => ?_)⟩
  obtain ⟨F2, x2, q2⟩ := x.freeze q n
  exact h' v F2 H' x2 q2
theorem dl_df {f : Ev → R D} (h : DF X W e f) : DL X W e f := by
  obtain ⟨t, p, s⟩ := h
  refine ⟨t, p, fun F H σ env fp Q sat h => s F H σ env fp Q sat ?_⟩
  cases e : f env with
  | no => rw [e] at h; exact h
  | ex c => rw [e] at h; exact h
  | ok d => rw [e] at h; exact fun v F' H' x q => h v F' H' x (.of x.fh q)
theorem dl_de {f : Ev → R Ow} (h : DE X W e f) : DL X W e (eB f shD) := by
  obtain ⟨t, p, s⟩ := h
  refine ⟨t, p, fun F H σ env fp Q sat h => s F H σ env fp Q sat (Post.thru h fun d _ h' v F' H' x ⟨fp, q, _, n⟩ => ?_)⟩
  obtain ⟨r, e2⟩ := shD_ok h'
  rw [e2] at h'
  exact h' v F' H' x (own_seq x.fh q e2)
def eVar (i : Nat) (env : Ev) : R D := match env[i]? with
  | some (some (.d x)) => .ok x
  | _ => .no
def eVarO (i : Nat) (env : Ev) : R Ow := match env[i]? with
  | some (some o) => .ok o
  | _ => .no
theorem eVar_ok {P : Hp → D → V → Hp → Hp → Prop} {F H : Hp} {σ : L2.St} {i : Nat} {env : Ev} {Q : VK} (h : Post X W P F H σ (eVar i env) Q) : ∃ d, env[i]? = some (some (.d d)) ∧ eVar i env = .ok d := by
  unfold eVar at h ⊢
  split at h
  · rename_i d he
    exact ⟨d, he, rfl⟩
  · exact h.elim
theorem eVarO_ok {γ : Type} {P : Hp → γ → V → Hp → Hp → Prop} {F H : Hp} {σ : L2.St} {i : Nat} {env : Ev} {Q : VK} {g : Ow → R γ} (h : Post X W P F H σ ((eVarO i env).bind g) Q) : ∃ d, env[i]? = some (some d) ∧ eVarO i env = .ok d ∧ Post X W P F H σ (g d) Q := by
  unfold eVarO at h ⊢
  cases e : env[i]? with
  | none => rw [e] at h; exact h.elim
  | some o =>
    cases o with
    | none => rw [e] at h; exact h.elim
    | some o => rw [e] at h; exact ⟨o, rfl, rfl, h⟩
theorem df_var (i : Nat) {x : Str} (hN : X.N[i]? = some x := by rfl) (hv : Vis X.env.scope x := by first | exact Or.inl rfl | exact Or.inr (Or.inl rfl) | exact Or.inr (Or.inr rfl)) (hd : (x == ("__debug__" : Str)) = false := by decide)
    (hcd : (x == ("__classdict__" : Str)) = false := by decide) : DF X W (.Name x pos) (eVar i) := by
  refine ⟨_, pe_var hN hv hd hcd, fun F H σ env fp Q sat h => ?_⟩
  obtain ⟨d, he, e2⟩ := eVar_ok h
  rw [e2] at h
  obtain ⟨v, fo, h1, h2, _⟩ := sat.en.get he
  cases h2 with
  | d q => exact ⟨v, h1, h v F H (.refl sat.fh) q⟩
def eC (d : D) (_ : Ev) : R D := .ok d
theorem df_int {i j} : DF X W (.Constant (.int i) j pos) (eC (.int i)) := ⟨_, pe_int, fun F H σ env fp Q sat h => h _ F H (.refl sat.fh) (.int i)⟩
theorem df_bl {i j} : DF X W (.Constant (.bool i) j pos) (eC (.bool i)) := ⟨_, pe_bl, fun F H σ env fp Q sat h => h _ F H (.refl sat.fh) (.bl i)⟩
theorem df_non {j} : DF X W (.Constant .none j pos) (eC .none) := ⟨_, pe_non, fun F H σ env fp Q sat h => h _ F H (.refl sat.fh) .non⟩
theorem df_str {i j} : DF X W (.Constant (.str i) j pos) (eC (.str i)) := ⟨_, pe_str, fun F H σ env fp Q sat h => h _ F H (.refl sat.fh) (.str i)⟩
/-- a text constant of the module's top -/
theorem df_gstr {x : Str} {z : Str} {u : Value} (hg : Gl X x) (hm : X.mg x = some u) (r : RelV (.str z) u) (hd : (x == ("__debug__" : Str)) = false := by decide) : DF X W (.Name x pos) (eC (.str z)) :=
  ⟨_, pe_glob hg hm r hd, fun F H σ env fp Q sat h => h _ F H (.refl sat.fh) (.str z)⟩
def aNil (_ : Ev) : R (List D) := .ok []
def aCons (f : Ev → R D) (g : Ev → R (List D)) (env : Ev) : R (List D) := (f env).bind fun d => (g env).map fun ds => d :: ds
theorem da_nil : DA X W [] aNil := ⟨_, pa_nil, fun F H σ env fp Q sat h => h _ F H (.refl sat.fh) .nil⟩
theorem da_cons {f : Ev → R D} {g : Ev → R (List D)} (hf : DF X W e f) (hg : DA X W es g) (hs : starEach (e :: es) X.env = (false, eval e X.env) :: starEach es X.env := by rfl) : DA X W (e :: es) (aCons f g) := by
  obtain ⟨t, p, s⟩ := hf
  obtain ⟨t', p', s'⟩ := hg
  refine ⟨_, pa_cons p p' hs, fun F H σ env fp Q sat h => ?_⟩
  refine s.go sat h fun d v F1 H1 sat1 q _ h1 => ?_
  refine s'.go sat1 h1 fun ds vs F2 H2 sat2 q' x2 h2 => ?_
  exact h2 _ F2 H2 (.refl sat2.fh) (.cons (dpUp q x2.ff) q')
def eTup (f : Ev → R (List D)) (env : Ev) : R D := (f env).bind fun ds => guard (ds.length ≤ sizeLine) (.ok (.tuple ds))
def eLst (f : Ev → R (List D)) (env : Ev) : R Ow := (f env).bind fun ds => guard (ds.length ≤ sizeLine) (.ok (.l (ds.map Ow.d)))
theorem guard_post {P : Hp → α → β → Hp → Hp → Prop} {F H : Hp} {σ : L2.St} {c : Prop} {r : R α} {Q : β → Hp → Prop} (h : Post X W P F H σ (guard c r) Q) : c ∧ Post X W P F H σ r Q := by
  unfold guard at h
  split at h
  · exact ⟨‹_›, h⟩
  · exact h.elim
theorem df_tup {x1} {f : Ev → R (List D)} (hf : DA X W es f) : DF X W (.Tuple es x1 pos) (eTup f) := by
  obtain ⟨t, p, s⟩ := hf
  refine ⟨_, pe_tup p, fun F H σ env fp Q sat h => ?_⟩
  refine s.go sat h fun ds vs F1 H1 sat1 q _ h1 => ?_
  obtain ⟨hl, h2⟩ := guard_post h1
  refine ⟨by rw [DpAll.len q]; exact hl, fun p hp => ?_⟩
  have x := Ext.frz sat1.fh hp (.tup vs)
  exact h2 _ _ _ x (.tup (SqT.of upd_same) (dpaUp q x.ff))
theorem de_lst {f : Ev → R (List D)} (hf : DA X W es f) : DE X W (.List es pos) (eLst f) := by
  obtain ⟨t, p, s⟩ := hf
  refine ⟨_, pe_lst p, fun F H σ env fp Q sat h => ?_⟩
  refine s.go sat h fun ds vs F1 H1 sat1 q _ h1 => ?_
  obtain ⟨hl, h2⟩ := guard_post h1
  refine ⟨by rw [DpAll.len q]; exact hl, fun p hp => ?_⟩
  have x := Ext.own sat1.fh hp (.lst vs)
  exact h2 _ _ _ x ⟨[p], .l (free_of sat1.fh hp) upd_same (OwnAll.of_dp q), by simp, by simpa using hp⟩

def R.of {α : Type} : Option α → R α
  | some a => .ok a
  | none => .no
@[simp] theorem R.of_some (a : α) : R.of (some a) = .ok a := rfl
@[simp] theorem R.of_none : R.of (none : Option α) = .no := rfl
/-- data in, flat data out, the heap as it was -/
def OpS (K : Kw) (r : R2) (g : D → D → Option D) : Prop := ∀ H x y dx dy d Q, Dp K H x dx → Dp K H y dy → g dx dy = some d → (∀ v, (∀ F, Dp K F v d) → Q v H) → r x y H Q
def eBin (g : D → D → Option D) (f h : Ev → R D) (env : Ev) : R D := (f env).bind fun x => (h env).bind fun y => R.of (g x y)
theorem post_of {P : Hp → α → β → Hp → Hp → Prop} {F H : Hp} {σ : L2.St} {o : Option α} {Q : β → Hp → Prop} (h : Post X W P F H σ (R.of o) Q) : ∃ a, o = some a ∧ ∀ v F' H', Ext F H F' H' → P H a v F' H' → Q v H' := by
  cases o with
  | none => exact h.elim
  | some a => exact ⟨a, rfl, h⟩
theorem op_sm {r : R2} {g : D → D → Option D} (hs : OpS X.KK r g) {ta tb : TE} {f h : Ev → R D} (sa : Sm X W (PVw X.KK) ta f) (sb : Sm X W (PVw X.KK) tb h) : Sm X W (PFz X.KK) (tOp r ta tb) (eBin g f h) := by
  intro F H σ env fp Q sat hp
  refine sa.go sat hp fun d v F1 H1 sat1 q _ h1 => ?_
  refine sb.go sat1 h1 fun d' v' F2 H2 sat2 q' x2 h2 => ?_
  obtain ⟨z, hz, h3⟩ := post_of h2
  exact hs H2 v v' d d' z Q (dpUp q x2.hh) q' hz fun u hu => h3 u F2 H2 (.refl sat2.fh) (hu _)
theorem df_bin {op : Operator} {r : R2} {g : D → D → Option D} (ho : OpR X (binaryOp op) r) (hs : OpS X.KK r g) {f h : Ev → R D} (ha : DV X W a f) (hb : DV X W b h) : DF X W (.BinOp a op b pos) (eBin g f h) := by
  obtain ⟨ta, pa, sa⟩ := ha
  obtain ⟨tb, pb, sb⟩ := hb
  exact ⟨_, pe_op ho pa pb, op_sm hs sa sb⟩
theorem df_cmp {op : CmpOp} {r : R2} {g : D → D → Option D} (ho : OpR X (compareOp op) r) (hs : OpS X.KK r g) {f h : Ev → R D} (ha : DV X W a f) (hb : DV X W b h) (hm : behindInMarks op b = false := by first | exact nomark _ | rfl) :
    DF X W (.Compare a [op] [b] pos) (eBin g f h) := by
  obtain ⟨ta, pa, sa⟩ := ha
  obtain ⟨tb, pb, sb⟩ := hb
  exact ⟨_, pe_cmpR ho pa pb hm, op_sm hs sa sb⟩
def asB : D → R Bool
  | .bool b => .ok b
  | _ => .no
@[simp] theorem asB_bool (b : Bool) : asB (.bool b) = .ok b := rfl
theorem tb_sm {t : TE} {f : Ev → R D} (s : Sm X W (PVw X.KK) t f) : Sm X W PTb (fun σ H Q => t σ H fun x H' => ∃ k, x = .bl k ∧ Q k H') (eB f asB) := by
  intro F H σ env fp Q sat hp
  refine s.go sat hp fun d v F1 H1 sat1 q _ h1 => ?_
  cases d with
  | bool b =>
    cases q
    exact ⟨b, rfl, h1 b F1 H1 (.refl sat1.fh) rfl⟩
  | _ => exact h1.elim
theorem dt_cmp {op : CmpOp} {r : R2} {g : D → D → Option D} (ho : OpR X (compareOp op) r) (hs : OpS X.KK r g) {f h : Ev → R D} (ha : DV X W a f) (hb : DV X W b h) (hm : behindInMarks op b = false := by first | exact nomark _ | rfl) :
    DT X W (.Compare a [op] [b] pos) (eB (eBin g f h) asB) := by
  obtain ⟨ta, pa, sa⟩ := ha
  obtain ⟨tb, pb, sb⟩ := hb
  refine ⟨_, pt_cmpR ho pa pb hm, tb_sm ?_⟩
  intro F H σ env fp Q sat hp
  refine op_sm hs sa sb F H σ env fp Q sat ?_
  cases e : eBin g f h env with
  | no => rw [e] at hp; exact hp
  | ex c => rw [e] at hp; exact hp
  | ok d => rw [e] at hp; exact fun v F' H' x q => hp v F' H' x (dpUp q x.fh)
theorem dt_val {f : Ev → R D} (h : DV X W e f) (he : ∀ whole, isTrue e X.env whole = (do let v ← whole; standAt e.pos; holding [v] (truthy v)) := by intro _; rfl) : DT X W e (eB f asB) := by
  obtain ⟨t, p, s⟩ := h
  exact ⟨_, pt_val p he, tb_sm s⟩
def tNotE (f : Ev → R Bool) (env : Ev) : R Bool := (f env).map (!·)
theorem dt_not {f : Ev → R Bool} (h : DT X W a f) : DT X W (.UnaryOp .Not a pos) (tNotE f) := by
  obtain ⟨t, p, s⟩ := h
  refine ⟨_, pt_not p, fun F H σ env fp Q sat hp => ?_⟩
  refine s.go sat hp fun b v F1 H1 sat1 q _ h1 => ?_
  obtain rfl : v = b := q
  exact h1 _ F1 H1 (.refl sat1.fh) rfl
def tAndE (f g : Ev → R Bool) (env : Ev) : R Bool := (f env).bind fun b => if b = true then g env else .ok false
def tOrE (f g : Ev → R Bool) (env : Ev) : R Bool := (f env).bind fun b => if b = true then .ok true else g env
theorem dw_and1 {f : Ev → R Bool} (h : DT X W a f) : DW X W (.BoolOp .And [a] pos) f := by
  obtain ⟨t, p, s⟩ := h
  exact ⟨_, pw_and1 p, s⟩
theorem dw_or1 {f : Ev → R Bool} (h : DT X W a f) : DW X W (.BoolOp .Or [a] pos) f := by
  obtain ⟨t, p, s⟩ := h
  exact ⟨_, pw_or1 p, s⟩
theorem dw_and {rest : List Expr} {f g : Ev → R Bool} (h : DT X W a f) (h2 : DW X W (.BoolOp .And (b :: rest) pos) g) : DW X W (.BoolOp .And (a :: b :: rest) pos) (tAndE f g) := by
  obtain ⟨t, p, s⟩ := h
  obtain ⟨t', p', s'⟩ := h2
  refine ⟨_, pw_and p p', fun F H σ env fp Q sat hp => ?_⟩
  refine s.go sat hp fun b v F1 H1 sat1 q _ h1 => ?_
  obtain rfl : v = b := q
  cases v with
  | true => exact s' F1 H1 σ env fp Q sat1 h1
  | false => exact h1 false F1 H1 (.refl sat1.fh) rfl
theorem dw_or {rest : List Expr} {f g : Ev → R Bool} (h : DT X W a f) (h2 : DW X W (.BoolOp .Or (b :: rest) pos) g) : DW X W (.BoolOp .Or (a :: b :: rest) pos) (tOrE f g) := by
  obtain ⟨t, p, s⟩ := h
  obtain ⟨t', p', s'⟩ := h2
  refine ⟨_, pw_or p p', fun F H σ env fp Q sat hp => ?_⟩
  refine s.go sat hp fun b v F1 H1 sat1 q _ h1 => ?_
  obtain rfl : v = b := q
  cases v with
  | false => exact s' F1 H1 σ env fp Q sat1 h1
  | true => exact h1 true F1 H1 (.refl sat1.fh) rfl
theorem dt_dw {f : Ev → R Bool} (h : DW X W a f) : DT X W a f := by
  obtain ⟨t, p, s⟩ := h
  exact ⟨_, p.pt, s⟩
def eAnd (f g : Ev → R D) (env : Ev) : R D := ((f env).bind asB).bind fun b => if b = true then g env else .ok (.bool false)
def eOr (f g : Ev → R D) (env : Ev) : R D := ((f env).bind asB).bind fun b => if b = true then .ok (.bool true) else g env
def eNot (f : Ev → R D) (env : Ev) : R D := ((f env).bind asB).bind fun b => .ok (.bool !b)
theorem R.bind_assoc {α β γ : Type} (r : R α) (f : α → R β) (g : β → R γ) : (r.bind f).bind g = r.bind fun a => (f a).bind g := by cases r <;> rfl
theorem df_one {op} {f : Ev → R D} (h : DF X W a f) : DF X W (.BoolOp op [a] pos) f := by
  obtain ⟨t, p, s⟩ := h
  exact ⟨_, pe_one p, s⟩
theorem df_and {rest : List Expr} {f g : Ev → R D} (h : DV X W a f) (h2 : DF X W (.BoolOp .And (b :: rest) pos) g) : DF X W (.BoolOp .And (a :: b :: rest) pos) (eAnd f g) := by
  obtain ⟨t, p, s⟩ := h
  obtain ⟨t', p', s'⟩ := h2
  refine ⟨_, pe_and p p', fun F H σ env fp Q sat hp => ?_⟩
  unfold eAnd at hp
  rw [R.bind_assoc] at hp
  refine s.go sat hp fun d v F1 H1 sat1 q _ h1 => ?_
  cases d with
  | bool b =>
    cases q
    refine ⟨b, rfl, ?_⟩
    cases b with
    | true => exact s' F1 H1 σ env fp Q sat1 h1
    | false => exact h1 _ F1 H1 (.refl sat1.fh) (.bl false)
  | _ => exact h1.elim
theorem df_or {rest : List Expr} {f g : Ev → R D} (h : DV X W a f) (h2 : DF X W (.BoolOp .Or (b :: rest) pos) g) : DF X W (.BoolOp .Or (a :: b :: rest) pos) (eOr f g) := by
  obtain ⟨t, p, s⟩ := h
  obtain ⟨t', p', s'⟩ := h2
  refine ⟨_, pe_or p p', fun F H σ env fp Q sat hp => ?_⟩
  unfold eOr at hp
  rw [R.bind_assoc] at hp
  refine s.go sat hp fun d v F1 H1 sat1 q _ h1 => ?_
  cases d with
  | bool b =>
    cases q
    refine ⟨b, rfl, ?_⟩
    cases b with
    | false => exact s' F1 H1 σ env fp Q sat1 h1
    | true => exact h1 _ F1 H1 (.refl sat1.fh) (.bl true)
  | _ => exact h1.elim
theorem df_not {f : Ev → R D} (h : DV X W a f) : DF X W (.UnaryOp .Not a pos) (eNot f) := by
  obtain ⟨t, p, s⟩ := h
  refine ⟨_, pe_not p, fun F H σ env fp Q sat hp => ?_⟩
  unfold eNot at hp
  rw [R.bind_assoc] at hp
  refine s.go sat hp fun d v F1 H1 sat1 q _ h1 => ?_
  cases d with
  | bool b =>
    cases q
    exact ⟨b, rfl, h1 _ F1 H1 (.refl sat1.fh) (.bl _)⟩
  | _ => exact h1.elim
def eIf (c : Ev → R Bool) (f g : Ev → R D) (env : Ev) : R D := (c env).bind fun b => if b = true then f env else g env
end
end Mir
end
set_option Elab.async false
set_option linter.all false
set_option maxRecDepth 100000
set_option maxHeartbeats 4000000
noncomputable section
namespace Mir
open PySem PySem.Spec L2

section
variable {K : Kw}
theorem dp_int {H : Hp} {v : V} {i : Int} (h : Dp K H v (.int i)) : v = .int i := by cases h; rfl
theorem dp_str {H : Hp} {v : V} {z : Str} (h : Dp K H v (.str z)) : v = .str z := by cases h; rfl
theorem dp_bool {H : Hp} {v : V} {z : Bool} (h : Dp K H v (.bool z)) : v = .bl z := by cases h; rfl
theorem dp_none {H : Hp} {v : V} (h : Dp K H v .none) : v = .non := by cases h; rfl
theorem dp_tup {H : Hp} {v : V} {ds : List D} (h : Dp K H v (.tuple ds)) : ∃ a vs, v = .ref a ∧ SqT K H a vs ∧ DpAll K H vs ds := by cases h with | tup a b => exact ⟨_, _, rfl, a, b⟩
theorem dp_lst {H : Hp} {v : V} {ds : List D} (h : Dp K H v (.list ds)) : ∃ a vs, v = .ref a ∧ SqL K H a vs ∧ DpAll K H vs ds := by cases h with | lst a b => exact ⟨_, _, rfl, a, b⟩

open Classical in
def gI (C : Int → Int → Prop) (f : Int → Int → Int) : D → D → Option D
  | .int i, .int j => if C i j then some (.int (f i j)) else none
  | _, _ => none
def gI0 (f : Int → Int → Int) : D → D → Option D
  | .int i, .int j => some (.int (f i j))
  | _, _ => none
def gIB (f : Int → Int → Bool) : D → D → Option D
  | .int i, .int j => some (.bool (f i j))
  | _, _ => none
theorem opS_I {C : Int → Int → Prop} {f : Int → Int → Int} : OpS K (rI C fun i j => .int (f i j)) (gI C f) := by
  intro H x y dx dy d Q hx hy e q
  unfold gI at e
  split at e
  · rename_i i j
    split at e
    · rename_i c
      cases e
      cases dp_int hx
      cases dp_int hy
      exact ⟨i, j, rfl, rfl, c, q _ fun _ => .int _⟩
    · cases e
  · cases e
theorem opS_I0 {f : Int → Int → Int} : OpS K (rI0 fun i j => .int (f i j)) (gI0 f) := by
  intro H x y dx dy d Q hx hy e q
  unfold gI0 at e
  split at e
  · cases e
    cases dp_int hx
    cases dp_int hy
    exact ⟨_, _, rfl, rfl, q _ fun _ => .int _⟩
  · cases e
theorem opS_IB {f : Int → Int → Bool} : OpS K (rI0 fun i j => .bl (f i j)) (gIB f) := by
  intro H x y dx dy d Q hx hy e q
  unfold gIB at e
  split at e
  · cases e
    cases dp_int hx
    cases dp_int hy
    exact ⟨_, _, rfl, rfl, q _ fun _ => .bl _⟩
  · cases e
def gSub := gI0 fun i j => i - j
def gMul := gI (fun i j => CMul i j ∨ CMulW i j) fun i j => i * j
def gDiv := gI CDivW fun i j => i / j
def gMod := gI (fun _ j => 0 < j) fun i j => i % j
def gPow := gI CPow fun i j => i ^ j.toNat
def gLt := gIB fun i j => decide (i < j)
def gLe := gIB fun i j => decide (i ≤ j)
def gGt := gIB fun i j => decide (j < i)
def gGe := gIB fun i j => decide (j ≤ i)
@[simp] theorem gSub_int (i j : Int) : gSub (.int i) (.int j) = some (.int (i - j)) := rfl
theorem gMul_by {i j : Int} (h1 : -(2 ^ 64) < j) (h2 : j < 2 ^ 64) : gMul (.int i) (.int j) = some (.int (i * j)) := if_pos (.inl (.inr ⟨h1, h2⟩))
theorem gDiv_int {i j : Int} (h : CDivW i j) : gDiv (.int i) (.int j) = some (.int (i / j)) := if_pos h
theorem gMod_int {i j : Int} (h : 0 < j) : gMod (.int i) (.int j) = some (.int (i % j)) := if_pos h
theorem gPow_int {i j : Int} (h : CPow i j) : gPow (.int i) (.int j) = some (.int (i ^ j.toNat)) := if_pos h
@[simp] theorem gLt_int (i j : Int) : gLt (.int i) (.int j) = some (.bool (decide (i < j))) := rfl
@[simp] theorem gLe_int (i j : Int) : gLe (.int i) (.int j) = some (.bool (decide (i ≤ j))) := rfl
@[simp] theorem gGt_int (i j : Int) : gGt (.int i) (.int j) = some (.bool (decide (j < i))) := rfl
@[simp] theorem gGe_int (i j : Int) : gGe (.int i) (.int j) = some (.bool (decide (j ≤ i))) := rfl
end

section
variable {X : Cx} {W : WX} {e a b : Expr} {es : List Expr} {pos : Pos} {f g : Ev → R D}
theorem df_sub (ha : DV X W a f) (hb : DV X W b g) : DF X W (.BinOp a .Sub b pos) (eBin gSub f g) := df_bin op_sub opS_I0 ha hb
theorem op_mulV : OpR X (binaryOp .Mult) (rI (fun i j => CMul i j ∨ CMulW i j) fun i j => .int (i * j)) := by
  intro pins s σ H x y v u Q I rx ry h
  obtain ⟨i, j, e1, e2, c, q⟩ := h
  rcases c with c | c
  · exact op_mul pins s σ H x y v u Q I rx ry ⟨i, j, e1, e2, c, q⟩
  · exact op_mulW pins s σ H x y v u Q I rx ry ⟨i, j, e1, e2, c, q⟩
theorem df_mul (ha : DV X W a f) (hb : DV X W b g) : DF X W (.BinOp a .Mult b pos) (eBin gMul f g) := df_bin op_mulV opS_I ha hb
theorem df_div (ha : DV X W a f) (hb : DV X W b g) : DF X W (.BinOp a .FloorDiv b pos) (eBin gDiv f g) := df_bin op_fdivW opS_I ha hb
theorem df_mod (ha : DV X W a f) (hb : DV X W b g) : DF X W (.BinOp a .Mod b pos) (eBin gMod f g) := df_bin op_mod opS_I ha hb
theorem df_pow (ha : DV X W a f) (hb : DV X W b g) : DF X W (.BinOp a .Pow b pos) (eBin gPow f g) := df_bin op_pow opS_I ha hb
theorem df_lt (ha : DV X W a f) (hb : DV X W b g) : DF X W (.Compare a [.Lt] [b] pos) (eBin gLt f g) := df_cmp op_lt opS_IB ha hb
theorem dt_lt (ha : DV X W a f) (hb : DV X W b g) : DT X W (.Compare a [.Lt] [b] pos) (eB (eBin gLt f g) asB) := dt_cmp op_lt opS_IB ha hb
theorem dt_gt (ha : DV X W a f) (hb : DV X W b g) : DT X W (.Compare a [.Gt] [b] pos) (eB (eBin gGt f g) asB) := dt_cmp op_gt opS_IB ha hb
theorem dt_ge (ha : DV X W a f) (hb : DV X W b g) : DT X W (.Compare a [.GtE] [b] pos) (eB (eBin gGe f g) asB) := dt_cmp op_ge opS_IB ha hb
def gNeg : D → R D
  | .int i => .ok (.int (-i))
  | _ => .no
theorem df_neg (ha : DV X W a f) : DF X W (.UnaryOp .USub a pos) (eB f gNeg) := by
  obtain ⟨t, p, s⟩ := ha
  refine ⟨_, pe_un un_neg p, fun F H σ env fp Q sat hp => ?_⟩
  refine s.go sat hp fun d v F1 H1 sat1 q _ h1 => ?_
  cases d with
  | int i => cases dp_int q; exact ⟨i, rfl, h1 _ F1 H1 (.refl sat1.fh) (.int _)⟩
  | _ => exact h1.elim

def scalD : D → Bool
  | .none => true
  | .bool _ => true
  | .int _ => true
  | .str _ => true
  | _ => false
/-- a bool beside an int is left to the deep rule -/
def scal2 : D → D → Bool
  | .bool _, .int _ => false
  | .int _, .bool _ => false
  | a, b => scalD a && scalD b
def eqOk (a b : D) : Bool := a.canLay0 && b.canLay0 && decide (a.depth ≤ 130)
def gEq (a b : D) : Option D := if (scal2 a b || eqOk a b) = true then some (.bool (PyData.eqv a b)) else none
def gNe (a b : D) : Option D := if (scal2 a b || eqOk a b) = true then some (.bool (!PyData.eqv a b)) else none
def rEqA (K : Kw) (neg : Bool) : R2 := fun x y H Q => ∃ d e, Dp K H x d ∧ Dp K H y e ∧ eqOk d e = true ∧ Q (.bl (if neg then !PyData.eqv d e else PyData.eqv d e)) H
theorem eqOk_cases {a b : D} (h : eqOk a b = true) : a.canLay0 = true ∧ b.canLay0 = true ∧ a.depth ≤ 130 := by
  unfold eqOk at h
  simp only [Bool.and_eq_true, decide_eq_true_eq] at h
  exact ⟨h.1.1, h.1.2, h.2⟩
theorem op_eqA (hu : X.A.units + 140 < cLine) : OpR X (compareOp .Eq) (rEqA X.KK false) := by
  intro pins s σ H x y v u Q I rx ry h
  obtain ⟨d, e, hd, he, sd, q⟩ := h
  obtain ⟨as, r1⟩ := L2.Dp.reads I d x v (Dp.kit _ _ hd (eqOk_cases sd).1) rx
  obtain ⟨bs, r2⟩ := L2.Dp.reads I e y u (Dp.kit _ _ he (eqOk_cases sd).2.1) ry
  obtain ⟨c1, c2, c3⟩ := eqOk_cases sd
  exact SeqAt.compareEq_reads r1 r2 c1 c2 (by have := Nat.min_le_left d.depth e.depth; omega) ⟨.bl _, H, I, rfl, q⟩
theorem op_neA (hu : X.A.units + 140 < cLine) : OpR X (compareOp .NotEq) (rEqA X.KK true) := by
  intro pins s σ H x y v u Q I rx ry h
  obtain ⟨d, e, hd, he, sd, q⟩ := h
  obtain ⟨as, r1⟩ := L2.Dp.reads I d x v (Dp.kit _ _ hd (eqOk_cases sd).1) rx
  obtain ⟨bs, r2⟩ := L2.Dp.reads I e y u (Dp.kit _ _ he (eqOk_cases sd).2.1) ry
  obtain ⟨c1, c2, c3⟩ := eqOk_cases sd
  exact SeqAt.compareNe_reads r1 r2 c1 c2 (by have := Nat.min_le_left d.depth e.depth; omega) ⟨.bl _, H, I, rfl, q⟩
theorem scal_dp {K : Kw} {H : Hp} {x y : V} {a b : D} (ha : Dp K H x a) (hb : Dp K H y b) (h : scal2 a b = true) : scal x y = true ∧ decide (x = y) = PyData.eqv a b := by
  cases a <;> cases b <;> first
    | (cases h; done)
    | (cases ha; cases hb; refine ⟨rfl, ?_⟩; simp [PyData.eqv]; try rfl)
    | (cases ha; cases hb; refine ⟨rfl, ?_⟩; simp [PyData.eqv, dec_int, dec_bl, dec_str])
theorem opS_eq {K : Kw} : OpS K (fun x y H Q => rEq x y H Q ∨ rEqA K false x y H Q) gEq := by
  intro H x y dx dy d Q hx hy e q
  unfold gEq at e
  split at e
  · rename_i c
    cases e
    cases c1 : scal2 dx dy with
    | true =>
      obtain ⟨h1, h2⟩ := scal_dp hx hy c1
      exact .inl ⟨h1, by rw [h2]; exact q _ fun _ => .bl _⟩
    | false =>
      rw [c1, Bool.false_or] at c
      exact .inr ⟨dx, dy, hx, hy, c, q _ fun _ => .bl _⟩
  · cases e
theorem opS_ne {K : Kw} : OpS K (fun x y H Q => rNe x y H Q ∨ rEqA K true x y H Q) gNe := by
  intro H x y dx dy d Q hx hy e q
  unfold gNe at e
  split at e
  · rename_i c
    cases e
    cases c1 : scal2 dx dy with
    | true =>
      obtain ⟨h1, h2⟩ := scal_dp hx hy c1
      exact .inl ⟨h1, by rw [h2]; exact q _ fun _ => .bl _⟩
    | false =>
      rw [c1, Bool.false_or] at c
      exact .inr ⟨dx, dy, hx, hy, c, q _ fun _ => .bl _⟩
  · cases e
theorem df_eq (hu : X.A.units + 140 < cLine) (ha : DV X W a f) (hb : DV X W b g) : DF X W (.Compare a [.Eq] [b] pos) (eBin gEq f g) := df_cmp (OpR.or op_eq (op_eqA hu)) opS_eq ha hb
theorem dt_eq (hu : X.A.units + 140 < cLine) (ha : DV X W a f) (hb : DV X W b g) : DT X W (.Compare a [.Eq] [b] pos) (eB (eBin gEq f g) asB) := dt_cmp (OpR.or op_eq (op_eqA hu)) opS_eq ha hb
theorem dt_ne (hu : X.A.units + 140 < cLine) (ha : DV X W a f) (hb : DV X W b g) : DT X W (.Compare a [.NotEq] [b] pos) (eB (eBin gNe f g) asB) := dt_cmp (OpR.or op_ne (op_neA hu)) opS_ne ha hb
def isNone : D → Bool
  | .none => true
  | _ => false
def gIsN : D → D → Option D
  | x, .none => some (.bool (isNone x))
  | _, _ => none
def gNotN : D → D → Option D
  | x, .none => some (.bool (!isNone x))
  | _, _ => none
@[simp] theorem gIsN_none (x : D) : gIsN x .none = some (.bool (isNone x)) := by cases x <;> rfl
@[simp] theorem gNotN_none (x : D) : gNotN x .none = some (.bool (!isNone x)) := by cases x <;> rfl
def gAdd : D → D → Option Ow
  | .int i, .int j => some (.d (.int (i + j)))
  | .str x, .str y => if x.length + y.length ≤ sizeLine then some (.d (.str (x ++ y))) else none
  | .tuple xs, .tuple ys => if xs.length + ys.length ≤ sizeLine then some (.d (.tuple (xs ++ ys))) else none
  | .list xs, .list ys => if xs.length + ys.length ≤ sizeLine then some (.l ((xs ++ ys).map Ow.d)) else none
  | _, _ => none
@[simp] theorem gAdd_int (i j : Int) : gAdd (.int i) (.int j) = some (.d (.int (i + j))) := rfl
theorem gAdd_str {x y : Str} (h : x.length + y.length ≤ sizeLine) : gAdd (.str x) (.str y) = some (.d (.str (x ++ y))) := if_pos h
theorem gAdd_lst {xs ys : List D} (h : xs.length + ys.length ≤ sizeLine) : gAdd (.list xs) (.list ys) = some (.l ((xs ++ ys).map Ow.d)) := if_pos h
def rCatL (K : Kw) : R2 := fun x y H Q => ∃ a b xs ys, x = .ref a ∧ y = .ref b ∧ SqL K H a xs ∧ SqL K H b ys ∧ xs.length + ys.length ≤ sizeLine ∧ ∀ p, H p = none → Q (.ref p) (upd H p (.lst (xs ++ ys)))
theorem op_catL : OpR X (binaryOp .Add) (rCatL X.KK) := by
  intro pins s σ H x y v u Q I rx ry h
  obtain ⟨l, b, xs, zs, rfl, rfl, hH, hB, hz, q⟩ := h
  cases rx
  cases ry
  obtain ⟨its, r, pl, hl⟩ := I.list hH
  obtain ⟨its2, r2, pl2, hl2⟩ := I.list hB
  obtain ⟨⟨c1, d1, t1, s1⟩, g1, k1, n1, m1⟩ := pl.isList
  obtain ⟨⟨c2, d2, t2, s2⟩, g2, k2, n2, m2⟩ := pl2.isList
  simp only at k1 m1 k2 m2
  subst k1 m1 k2 m2
  refine PySem.concat_meets ⟨_, g1, rfl⟩ ⟨_, g2, rfl⟩ PySem.noFill_list_add PySem.seq_list_add PySem.F.slot_list_add PySem.F.entry_list_add (PySem.F.args_list_add_2 _ _)
    (PyProof.Rows.list_addW l b its.toArray its2.toArray n1 n2 d1 d2 s1 s2 (by rw [List.size_toArray, List.size_toArray, ← r.length, ← r2.length]; exact hz)) ⟨g1, g2, ?_⟩
  have ea : its.toArray ++ its2.toArray = (its ++ its2).toArray := by simp
  rw [ea]
  exact ⟨.ref _, _, I.lnew (t' := s.toks) (r.append r2) (by rw [List.length_append]; omega), rfl, q _ I.fresh⟩
abbrev rAddAll (K : Kw) : R2 := fun x y H Q => rI0 (fun i j => .int (i + j)) x y H Q ∨ (fun x y H Q => (∃ i j, x = V.str i ∧ y = V.str j ∧ i.length + j.length ≤ sizeLine ∧ Q (.str (i ++ j)) H) ∨ (fun x y H Q => rCatA K x y H Q ∨ rCatL K x y H Q) x y H Q) x y H Q
theorem op_addAll : OpR X (binaryOp .Add) (rAddAll X.KK) := OpR.or op_add (OpR.or op_add_str (OpR.or op_catA op_catL))
def eBinO (g : D → D → Option Ow) (f h : Ev → R D) (env : Ev) : R Ow := (f env).bind fun x => (h env).bind fun y => R.of (g x y)
/-- two operands with frozen items, a new value -/
def OpG (K : Kw) (r : R2) (g : D → D → Option Ow) : Prop := ∀ F H x y dx dy o Q, Same F H → PSq K H dx x F H → PSq K H dy y F H → g dx dy = some o → (∀ v F' H', Ext F H F' H' → POw K H o v F' H' → Q v H') → r x y H Q
theorem opG_sm {r : R2} {g : D → D → Option Ow} (hs : OpG X.KK r g) {ta tb : TE} {f h : Ev → R D} (sa : Sm X W (PSq X.KK) ta f) (sb : Sm X W (PSq X.KK) tb h) : Sm X W (POw X.KK) (tOp r ta tb) (eBinO g f h) := by
  intro F H σ env fp Q sat hp
  refine sa.go sat hp fun d v F1 H1 sat1 q _ h1 => ?_
  refine sb.go sat1 h1 fun d' v' F2 H2 sat2 q' x2 h2 => ?_
  obtain ⟨z, hz, h3⟩ := post_of h2
  exact hs F2 H2 v v' d d' z Q sat2.fh (q.ext x2) q' hz h3
theorem de_bin {op : Operator} {r : R2} {g : D → D → Option Ow} (ho : OpR X (binaryOp op) r) (hs : OpG X.KK r g) {f h : Ev → R D} (ha : DL X W a f) (hb : DL X W b h) : DE X W (.BinOp a op b pos) (eBinO g f h) := by
  obtain ⟨ta, pa, sa⟩ := ha
  obtain ⟨tb, pb, sb⟩ := hb
  exact ⟨_, pe_op ho pa pb, opG_sm hs sa sb⟩
theorem own_d {K : Kw} {H0 F H : Hp} {v : V} {d : D} (h : Dp K F v d) : POw K H0 (.d d) v F H := ⟨[], .d h, List.nodup_nil, fun _ z => nomatch z⟩
theorem own_l {K : Kw} {F H : Hp} {p : Addr} {vs : List V} {ds : List D} (s : Same F H) (hp : H p = none) (h : DpAll K F vs ds) : POw K H (.l (ds.map Ow.d)) (.ref p) F (upd H p (.lst vs)) :=
  ⟨[p], .l (free_of s hp) upd_same (OwnAll.of_dp h), by simp, by simpa using hp⟩
theorem opG_add {K : Kw} : OpG K (rAddAll K) gAdd := by
  intro F H x y dx dy o Q s hx hy e q
  unfold gAdd at e
  split at e
  · cases e
    cases dp_int hx
    cases dp_int hy
    exact .inl ⟨_, _, rfl, rfl, q _ _ _ (.refl s) (own_d (.int _))⟩
  · split at e
    · cases e
      cases dp_str hx
      cases dp_str hy
      exact .inr (.inl ⟨_, _, rfl, rfl, ‹_›, q _ _ _ (.refl s) (own_d (.str _))⟩)
    · cases e
  · split at e
    · rename_i xs ys c
      cases e
      obtain ⟨a, vs, rfl, h1, h2⟩ := dp_tup hx
      obtain ⟨b, ws, rfl, g1, g2⟩ := dp_tup hy
      refine .inr (.inr (.inl ⟨a, b, vs, ws, rfl, rfl, SqT_mono s h1, SqT_mono s g1, by rw [DpAll.len h2, DpAll.len g2]; exact c, fun e0 => ?_, fun n0 e0 => ?_, fun n0 n1 p hp => ?_⟩))
      · have l := DpAll.len h2
        rw [e0] at l
        have z : xs = [] := List.length_eq_zero_iff.mp l.symm
        subst z
        exact q _ _ _ (.refl s) (own_d hy)
      · have l := DpAll.len g2
        rw [e0] at l
        have z : ys = [] := List.length_eq_zero_iff.mp l.symm
        subst z
        rw [List.append_nil] at q
        exact q _ _ _ (.refl s) (own_d hx)
      · have x := Ext.frz s hp (.tup (vs ++ ws))
        exact q _ _ _ x (own_d (.tup (SqT.of upd_same) (dpaUp (DpAll.append h2 g2) x.ff)))
    · cases e
  · split at e
    · rename_i xs ys c
      cases e
      obtain ⟨a, vs, rfl, h1, h2⟩ := hx
      obtain ⟨b, ws, rfl, g1, g2⟩ := hy
      refine .inr (.inr (.inr ⟨a, b, vs, ws, rfl, rfl, h1, g1, by rw [DpAll.len h2, DpAll.len g2]; exact c, fun p hp => ?_⟩))
      exact q _ _ _ (Ext.own s hp _) (own_l s hp (DpAll.append h2 g2))
    · cases e
  · cases e
theorem de_add (ha : DL X W a f) (hb : DL X W b g) : DE X W (.BinOp a .Add b pos) (eBinO gAdd f g) := de_bin op_addAll opG_add ha hb
end
end Mir
end
set_option Elab.async false
set_option linter.all false
set_option maxRecDepth 100000
set_option maxHeartbeats 4000000
noncomputable section
namespace Mir
open PySem PySem.Spec L2

section
variable {X : Cx} {W : WX} {e a b : Expr} {es : List Expr} {pos : Pos} {f g : Ev → R D}
theorem atI_dp {K : Kw} {F : Hp} {vs : List V} {ds : List D} {i : Int} {d : D} (h : DpAll K F vs ds) (e : atI ds i = some d) : ∃ v, atI vs i = some v ∧ Dp K F v d := by
  unfold atI at e ⊢
  rw [DpAll.len h]
  cases q : ixN ds.length i with
  | none => rw [q] at e; cases e
  | some j =>
    rw [q] at e
    exact DpAll.get h e
def gIx : D → D → Option D
  | .list ds, .int i => atI ds i
  | .tuple ds, .int i => atI ds i
  | .str z, .int i => if z.length ≤ sizeLine then (atI z.cps.toList i).map fun c => .str ⟨#[c]⟩ else none
  | _, _ => none
@[simp] theorem gIx_list (ds : List D) (i : Int) : gIx (.list ds) (.int i) = atI ds i := rfl
@[simp] theorem gIx_tup (ds : List D) (i : Int) : gIx (.tuple ds) (.int i) = atI ds i := rfl
theorem df_ix (ha : DL X W a f) (hb : DV X W b g) (hs : PlainIx b := by exact fun _ _ => rfl) : DF X W (.Subscript a b pos) (eBin gIx f g) := by
  obtain ⟨ta, pa, sa⟩ := ha
  obtain ⟨tb, pb, sb⟩ := hb
  refine ⟨_, pe_ix ix_seq pa pb hs, fun F H σ env fp Q sat hp => ?_⟩
  refine sa.go sat hp fun d v F1 H1 sat1 q _ h1 => ?_
  refine sb.go sat1 h1 fun d' v' F2 H2 sat2 q' x2 h2 => ?_
  obtain ⟨z, hz, h3⟩ := post_of h2
  unfold gIx at hz
  split at hz
  · rename_i ds i
    cases dp_int q'
    obtain ⟨p, vs, rfl, p1, p2⟩ := q
    obtain ⟨w, w1, w2⟩ := atI_dp p2 hz
    exact .inl ⟨p, vs, i, w, rfl, rfl, x2.hh.seq p1, w1, h3 _ _ _ (.refl sat2.fh) (dpUp w2 x2.ff)⟩
  · rename_i ds i
    cases dp_int q'
    obtain ⟨p, vs, rfl, p1, p2⟩ := dp_tup q
    obtain ⟨w, w1, w2⟩ := atI_dp p2 hz
    exact .inr (.inl ⟨p, vs, i, w, rfl, rfl, SqT_mono (x2.ff.trans sat2.fh) p1, w1, h3 _ _ _ (.refl sat2.fh) (dpUp w2 x2.ff)⟩)
  · split at hz
    · rename_i zz i c
      cases dp_int q'
      cases dp_str q
      obtain ⟨cc, c1, c2⟩ := Option.map_eq_some_iff.mp hz
      subst c2
      exact .inr (.inr ⟨_, _, cc, rfl, rfl, c, c1, h3 _ _ _ (.refl sat2.fh) (.str _)⟩)
    · cases hz
  · cases hz
/-- a slice's part -/
def DO (X : Cx) (W : WX) (e : Option Expr) (f : Ev → R (Option Int)) : Prop := ∃ t, PO X e t ∧ Sm X W (fun _ a v _ _ => v = a) t f
instance : Anti (fun (_ : Hp) (a v : Option Int) (_ _ : Hp) => v = a) := ⟨fun _ h => h⟩
def oNone (_ : Ev) : R (Option Int) := .ok none
def asI : D → R (Option Int)
  | .int i => .ok (some i)
  | _ => .no
@[simp] theorem asI_int (i : Int) : asI (.int i) = .ok (some i) := rfl
theorem do_none : DO X W none oNone := ⟨_, po_none, fun F H σ env fp Q sat hp => hp none F H (.refl sat.fh) rfl⟩
theorem do_some (h : DV X W e f) : DO X W (some e) (eB f asI) := by
  obtain ⟨t, p, s⟩ := h
  refine ⟨_, po_some p, fun F H σ env fp Q sat hp => ?_⟩
  refine s.go sat hp fun d v F1 H1 sat1 q _ h1 => ?_
  cases d with
  | int i => cases dp_int q; exact ⟨i, rfl, h1 _ F1 H1 (.refl sat1.fh) rfl⟩
  | _ => exact h1.elim
def cutL {α : Type} (xs : List α) (lo hi : Option Int) : List α := (xs.drop (HT.sIx xs.length 0 lo)).take (HT.sIx xs.length xs.length hi - HT.sIx xs.length 0 lo)
theorem cutL_dp {K : Kw} {F : Hp} {vs : List V} {ds : List D} {lo hi : Option Int} (h : DpAll K F vs ds) : DpAll K F (cutV vs lo hi) (cutL ds lo hi) := by
  unfold cutV cutL
  rw [DpAll.len h]
  exact DpAll.take _ (DpAll.drop _ h)
def gSl : D → Option Int → Option Int → Option Ow
  | .list ds, lo, hi => some (.l ((cutL ds lo hi).map Ow.d))
  | .tuple ds, lo, hi => some (.d (.tuple (cutL ds lo hi)))
  | .str z, lo, hi => if z.length ≤ sizeLine then some (.d (.str (cutS z lo hi))) else none
  | _, _, _ => none
@[simp] theorem gSl_list (ds : List D) (lo hi : Option Int) : gSl (.list ds) lo hi = some (.l ((cutL ds lo hi).map Ow.d)) := rfl
@[simp] theorem gSl_tup (ds : List D) (lo hi : Option Int) : gSl (.tuple ds) lo hi = some (.d (.tuple (cutL ds lo hi))) := rfl
def eSl (f : Ev → R D) (l h : Ev → R (Option Int)) (env : Ev) : R Ow := (f env).bind fun x => (l env).bind fun i => (h env).bind fun j => R.of (gSl x i j)
theorem de_slice {lo hi : Option Expr} {l h : Ev → R (Option Int)} {p2 : Pos} (ha : DL X W a f) (hl : DO X W lo l) (hh : DO X W hi h) : DE X W (.Subscript a (.Slice lo hi none p2) pos) (eSl f l h) := by
  obtain ⟨ta, pa, sa⟩ := ha
  obtain ⟨tl, pl, sl⟩ := hl
  obtain ⟨th, ph, sh⟩ := hh
  refine ⟨_, pe_slice (SlR.or sl_list (SlR.or sl_tupA sl_str)) pa pl ph, fun F H σ env fp Q sat hp => ?_⟩
  refine sa.go sat hp fun d v F1 H1 sat1 q _ h1 => ?_
  refine sl.go sat1 h1 fun i i' F2 H2 sat2 q' x2 h2 => ?_
  obtain rfl : i' = i := q'
  refine sh.go sat2 h2 fun j j' F3 H3 sat3 q' x3 h3 => ?_
  obtain rfl : j' = j := q'
  obtain ⟨z, hz, h4⟩ := post_of h3
  have x := x2.trans x3
  unfold gSl at hz
  split at hz
  · cases hz
    obtain ⟨p, vs, rfl, p1, p2⟩ := q
    refine .inl ⟨p, vs, rfl, x.hh.seq p1, fun r hr => ?_⟩
    exact h4 _ _ _ (Ext.own sat3.fh hr _) (own_l sat3.fh hr (cutL_dp (dpaUp p2 x.ff)))
  · cases hz
    obtain ⟨p, vs, rfl, p1, p2⟩ := dp_tup q
    have p3 := DpAll.len p2
    refine .inr (.inl ⟨p, vs, rfl, SqT_mono (x.ff.trans sat3.fh) p1, fun c => ?_, fun _ r hr => ?_⟩)
    · refine h4 _ _ _ (.refl sat3.fh) (own_d ?_)
      rename_i ds
      have e : cutL ds i' j' = ds := by
        unfold cutL
        rw [← p3, c.1, c.2, List.drop_zero, Nat.sub_zero, p3, List.take_length]
      rw [e]
      exact dpUp q x.ff
    · have y := Ext.frz sat3.fh hr (.tup (cutV vs i' j'))
      exact h4 _ _ _ y (own_d (.tup (SqT.of upd_same) (cutL_dp (dpaUp p2 (x.ff.trans y.ff)))))
  · split at hz
    · cases hz
      cases dp_str q
      exact .inr (.inr ⟨_, rfl, ‹_›, h4 _ _ _ (.refl sat3.fh) (own_d (.str _))⟩)
    · cases hz
  · cases hz

inductive PSqs (K : Kw) (F H : Hp) : List D → List V → Prop
  | nil : PSqs K F H [] []
  | cons {d : D} {ds : List D} {v : V} {vs : List V} : PSq K H d v F H → PSqs K F H ds vs → PSqs K F H (d :: ds) (v :: vs)
def PAl (K : Kw) (_ : Hp) (ds : List D) (vs : List V) (F' H' : Hp) : Prop := PSqs K F' H' ds vs
instance {K : Kw} : Anti (PAl K) := ⟨fun _ h => h⟩
def DAl (X : Cx) (W : WX) (es : List Expr) (f : Ev → R (List D)) : Prop := ∃ t, PA X es t ∧ Sm X W (PAl X.KK) t f
theorem dal_nil : DAl X W [] aNil := ⟨_, pa_nil, fun F H σ env fp Q sat h => h _ F H (.refl sat.fh) .nil⟩
theorem dal_cons {f : Ev → R D} {g : Ev → R (List D)} (hf : DL X W e f) (hg : DAl X W es g) (hs : starEach (e :: es) X.env = (false, eval e X.env) :: starEach es X.env := by rfl) : DAl X W (e :: es) (aCons f g) := by
  obtain ⟨t, p, s⟩ := hf
  obtain ⟨t', p', s'⟩ := hg
  refine ⟨_, pa_cons p p' hs, fun F H σ env fp Q sat h => ?_⟩
  refine s.go sat h fun d v F1 H1 sat1 q _ h1 => ?_
  refine s'.go sat1 h1 fun ds vs F2 H2 sat2 q' x2 h2 => ?_
  exact h2 _ F2 H2 (.refl sat2.fh) (.cons (q.ext x2) q')
def CaG (K : Kw) (r : List V → Hp → VK → Prop) (g : List D → Option Ow) : Prop := ∀ F H vs ds o Q, Same F H → PSqs K F H ds vs → g ds = some o → (∀ v F' H', Ext F H F' H' → POw K H o v F' H' → Q v H') → r vs H Q
def eCa (g : List D → Option Ow) (f : Ev → R (List D)) (env : Ev) : R Ow := (f env).bind fun ds => R.of (g ds)
theorem ca_sm {r : List V → Hp → VK → Prop} {g : List D → Option Ow} {t : TA} {f : Ev → R (List D)} (hs : CaG X.KK r g) (s : Sm X W (PAl X.KK) t f) : Sm X W (POw X.KK) (tCB r t) (eCa g f) := by
  intro F H σ env fp Q sat hp
  refine s.go sat hp fun ds vs F1 H1 sat1 q _ h1 => ?_
  obtain ⟨z, hz, h2⟩ := post_of h1
  exact hs F1 H1 vs ds z Q sat1.fh q hz h2
theorem de_callB {id : String} {r : List V → Hp → VK → Prop} {g : List D → Option Ow} {x : Str} {p : Pos} {f : Ev → R (List D)} (hc : CallR X (.builtin id) r) (hs : CaG X.KK r g) (hg : Gl X x) (hm : X.mg x = none) (hv : bootBuiltins x = some (.builtin id)) (ha : DAl X W (e :: es) f)
    (hn : x ≠ "__name__" := by decide) (hdb : (x == ("__debug__" : Str)) = false := by decide)
    (he : starEach (e :: es) X.env = (false, eval e X.env) :: starEach es X.env := by rfl) (hpl : (backTo pos (starEach es X.env)).any (·.1) = false := by rfl) : DE X W (.Call (.Name x p) (e :: es) [] pos) (eCa g f) := by
  obtain ⟨t, pa, s⟩ := ha
  exact ⟨_, pe_callB hc hg hm hv pa hn hdb he hpl, ca_sm hs s⟩
theorem de_callTy {T : String} {r : List V → Hp → VK → Prop} {g : List D → Option Ow} {x : Str} {p : Pos} {f : Ev → R (List D)} (hc : CallR X (.type T) r) (hs : CaG X.KK r g) (hg : Gl X x) (hm : X.mg x = none) (hv : bootBuiltins x = some (.type T)) (ha : DAl X W (e :: es) f)
    (hn : x ≠ "__name__" := by decide) (hdb : (x == ("__debug__" : Str)) = false := by decide)
    (he : starEach (e :: es) X.env = (false, eval e X.env) :: starEach es X.env := by rfl) (hpl : (backTo pos (starEach es X.env)).any (·.1) = false := by rfl) : DE X W (.Call (.Name x p) (e :: es) [] pos) (eCa g f) := by
  obtain ⟨t, pa, s⟩ := ha
  exact ⟨_, pe_callTy hc hg hm hv pa hn hdb he hpl, ca_sm hs s⟩
theorem psqs1 {K : Kw} {F H : Hp} {d : D} {vs : List V} (h : PSqs K F H [d] vs) : ∃ v, vs = [v] ∧ PSq K H d v F H := by
  cases h with | cons a b => cases b; exact ⟨_, rfl, a⟩
def gLen : List D → Option Ow
  | [.list ds] => some (.d (.int ds.length))
  | [.tuple ds] => some (.d (.int ds.length))
  | [.str z] => if z.length ≤ sizeLine then some (.d (.int z.length)) else none
  | _ => none
@[simp] theorem gLen_list (ds : List D) : gLen [.list ds] = some (.d (.int ds.length)) := rfl
@[simp] theorem gLen_tup (ds : List D) : gLen [.tuple ds] = some (.d (.int ds.length)) := rfl
theorem caG_len {K : Kw} : CaG K (fun xs H Q => ∃ x n, xs = [x] ∧ LenV K x H n ∧ Q (.int n) H) gLen := by
  intro F H vs ds o Q s h e q
  unfold gLen at e
  split at e
  · cases e
    obtain ⟨v, rfl, p, ws, rfl, p1, p2⟩ := psqs1 h
    exact ⟨_, _, rfl, .inl ⟨ws, p1, (DpAll.len p2).symm⟩, q _ _ _ (.refl s) (own_d (.int _))⟩
  · cases e
    obtain ⟨v, rfl, w⟩ := psqs1 h
    obtain ⟨p, ws, rfl, p1, p2⟩ := dp_tup w
    exact ⟨_, _, rfl, .inr ⟨ws, SqT_mono s p1, (DpAll.len p2).symm⟩, q _ _ _ (.refl s) (own_d (.int _))⟩
  · split at e
    · rename_i c
      cases e
      obtain ⟨v, rfl, w⟩ := psqs1 h
      cases dp_str w
      exact ⟨_, _, rfl, ⟨c, rfl⟩, q _ _ _ (.refl s) (own_d (.int _))⟩
    · cases e
  · cases e
def gMax2 : List D → Option Ow
  | [.int i, .int j] => some (.d (.int (if j > i then j else i)))
  | _ => none
def gMin2 : List D → Option Ow
  | [.int i, .int j] => some (.d (.int (if j < i then j else i)))
  | _ => none
@[simp] theorem gMax2_int (i j : Int) : gMax2 [.int i, .int j] = some (.d (.int (if j > i then j else i))) := rfl
@[simp] theorem gMin2_int (i j : Int) : gMin2 [.int i, .int j] = some (.d (.int (if j < i then j else i))) := rfl
def intsD : List D → Option (List Int)
  | [] => some []
  | .int i :: ds => (intsD ds).map fun is => i :: is
  | _ :: _ => none
@[simp] theorem intsD_map : ∀ ns : List Int, intsD (ns.map PyData.int) = some ns
  | [] => rfl
  | n :: ns => by simp [intsD, intsD_map ns]
theorem intsD_eq : ∀ {ds : List D} {ns : List Int}, intsD ds = some ns → ds = ns.map PyData.int
  | [], ns, h => by cases h; rfl
  | d :: ds, ns, h => by
    unfold intsD at h
    split at h
    · rename_i e; cases e
    · rename_i e
      cases e
      obtain ⟨is, h1, h2⟩ := Option.map_eq_some_iff.mp h
      subst h2
      rw [intsD_eq h1]; rfl
    · cases h
theorem PSq.ints {K : Kw} {F H H0 : Hp} {v : V} {ns : List Int} (h : PSq K H0 (.list (ns.map PyData.int)) v F H) : ∃ a, v = .ref a ∧ SqL K H a (ns.map V.int) := by
  obtain ⟨a, vs, rfl, h1, h2⟩ := h
  rw [DpAll.ints _ h2] at h1
  exact ⟨a, rfl, h1⟩
def gSum : List D → Option Ow
  | [.list ds] => (intsD ds).map fun ns => .d (.int ns.sum)
  | _ => none
theorem caG_sum {K : Kw} : CaG K (rSum K) gSum := by
  intro F H vs ds o Q s h e q
  unfold gSum at e
  split at e
  · obtain ⟨ns, e2, rfl⟩ := Option.map_eq_some_iff.mp e
    rw [intsD_eq e2] at h
    obtain ⟨v, rfl, w⟩ := psqs1 h
    obtain ⟨a, rfl, h1⟩ := w.ints
    exact ⟨a, ns, rfl, h1, q _ _ _ (.refl s) (own_d (.int _))⟩
  · cases e
def gList : List D → Option Ow
  | [.list ds] => some (.l (ds.map Ow.d))
  | [.tuple ds] => some (.l (ds.map Ow.d))
  | _ => none
@[simp] theorem gList_list (ds : List D) : gList [.list ds] = some (.l (ds.map Ow.d)) := rfl
@[simp] theorem gList_tup (ds : List D) : gList [.tuple ds] = some (.l (ds.map Ow.d)) := rfl
theorem caG_list {K : Kw} : CaG K (fun xs H Q => ∃ p ys, xs = [.ref p] ∧ (SqL K H p ys ∨ SqT K H p ys) ∧ ∀ l, H l = none → Q (.ref l) (upd H l (.lst ys))) gList := by
  intro F H vs ds o Q s h e q
  unfold gList at e
  split at e
  · cases e
    obtain ⟨v, rfl, p, ws, rfl, p1, p2⟩ := psqs1 h
    exact ⟨p, ws, rfl, .inl p1, fun l hl => q _ _ _ (Ext.own s hl _) (own_l s hl p2)⟩
  · cases e
    obtain ⟨v, rfl, w⟩ := psqs1 h
    obtain ⟨p, ws, rfl, p1, p2⟩ := dp_tup w
    exact ⟨p, ws, rfl, .inr (SqT_mono s p1), fun l hl => q _ _ _ (Ext.own s hl _) (own_l s hl p2)⟩
  · cases e
def gTuple : List D → Option Ow
  | [.list ds] => some (.d (.tuple ds))
  | [.tuple ds] => some (.d (.tuple ds))
  | _ => none
@[simp] theorem gTuple_list (ds : List D) : gTuple [.list ds] = some (.d (.tuple ds)) := rfl
@[simp] theorem gTuple_tup (ds : List D) : gTuple [.tuple ds] = some (.d (.tuple ds)) := rfl
theorem caG_tuple {K : Kw} : CaG K (fun xs H Q => ∃ p ys, xs = [.ref p] ∧ ((SqL K H p ys ∧ ∀ l, H l = none → Q (.ref l) (upd H l (.tup ys))) ∨ (SqT K H p ys ∧ Q (.ref p) H))) gTuple := by
  intro F H vs ds o Q s h e q
  unfold gTuple at e
  split at e
  · cases e
    obtain ⟨v, rfl, p, ws, rfl, p1, p2⟩ := psqs1 h
    refine ⟨p, ws, rfl, .inl ⟨p1, fun l hl => ?_⟩⟩
    have y := Ext.frz s hl (.tup ws)
    exact q _ _ _ y (own_d (.tup (SqT.of upd_same) (dpaUp p2 y.ff)))
  · cases e
    obtain ⟨v, rfl, w⟩ := psqs1 h
    obtain ⟨p, ws, rfl, p1, p2⟩ := dp_tup w
    exact ⟨p, ws, rfl, .inr ⟨SqT_mono s p1, q _ _ _ (.refl s) (own_d (.tup p1 p2))⟩⟩
  · cases e
def gInt : List D → Option Ow
  | [.int i] => some (.d (.int i))
  | [.bool b] => some (.d (.int (if b then 1 else 0)))
  | [.str z] => if z.length ≤ 640 then (PySem.intText? z).map fun n => .d (.int n) else none
  | _ => none
@[simp] theorem gInt_int (i : Int) : gInt [.int i] = some (.d (.int i)) := rfl
@[simp] theorem gInt_bool (b : Bool) : gInt [.bool b] = some (.d (.int (if b then 1 else 0))) := rfl
theorem caG_int {K : Kw} : CaG K (fun xs H Q => ((∃ i, xs = [.int i] ∧ Q (.int i) H) ∨ ∃ k, xs = [.bl k] ∧ Q (.int (if k then 1 else 0)) H) ∨ ∃ a n, xs = [.str a] ∧ PySem.intText? a = some n ∧ a.length ≤ 640 ∧ Q (.int n) H) gInt := by
  intro F H vs ds o Q s h e q
  unfold gInt at e
  split at e
  · cases e
    obtain ⟨v, rfl, w⟩ := psqs1 h
    cases dp_int w
    exact .inl (.inl ⟨_, rfl, q _ _ _ (.refl s) (own_d (.int _))⟩)
  · cases e
    obtain ⟨v, rfl, w⟩ := psqs1 h
    cases dp_bool w
    exact .inl (.inr ⟨_, rfl, q _ _ _ (.refl s) (own_d (.int _))⟩)
  · split at e
    · obtain ⟨n, e2, rfl⟩ := Option.map_eq_some_iff.mp e
      obtain ⟨v, rfl, w⟩ := psqs1 h
      cases dp_str w
      exact .inr ⟨_, n, rfl, e2, ‹_›, q _ _ _ (.refl s) (own_d (.int _))⟩
    · cases e
  · cases e
def gStr : List D → Option Ow
  | [.int i] => if i.natAbs.log2 < 1920 then some (.d (.str (toString i))) else none
  | _ => none
theorem caG_str {K : Kw} : CaG K (fun xs H Q => ∃ i, xs = [.int i] ∧ i.natAbs.log2 < 1920 ∧ Q (.str (toString i)) H) gStr := by
  intro F H vs ds o Q s h e q
  unfold gStr at e
  split at e
  · split at e
    · cases e
      obtain ⟨v, rfl, w⟩ := psqs1 h
      cases dp_int w
      exact ⟨_, rfl, ‹_›, q _ _ _ (.refl s) (own_d (.str _))⟩
    · cases e
  · cases e
theorem de_len {x : Expr} {p : Pos} {f : Ev → R (List D)} (hg : Gl X "len") (hm : X.mg "len" = none) (ha : DAl X W [x] f) (hpl : starEach [x] X.env = (false, eval x X.env) :: starEach [] X.env := by rfl) : DE X W (.Call (.Name "len" p) [x] [] pos) (eCa gLen f) :=
  de_callB call_len caG_len hg hm PySem.boot_len ha (he := hpl)
theorem de_sum {x : Expr} {p : Pos} {f : Ev → R (List D)} (hc : X.calm = true) (hg : Gl X "sum") (hm : X.mg "sum" = none) (ha : DAl X W [x] f) (he : starEach [x] X.env = (false, eval x X.env) :: starEach [] X.env := by rfl) : DE X W (.Call (.Name "sum" p) [x] [] pos) (eCa gSum f) :=
  de_callB (cr_sum hc) caG_sum hg hm (by decide +kernel) ha (he := he)
theorem de_list {x : Expr} {p : Pos} {f : Ev → R (List D)} (hg : Gl X "list") (hm : X.mg "list" = none) (ha : DAl X W [x] f) (he : starEach [x] X.env = (false, eval x X.env) :: starEach [] X.env := by rfl) : DE X W (.Call (.Name "list" p) [x] [] pos) (eCa gList f) :=
  de_callTy call_list_of caG_list hg hm (by decide +kernel) ha (he := he)
theorem de_tuple {x : Expr} {p : Pos} {f : Ev → R (List D)} (hg : Gl X "tuple") (hm : X.mg "tuple" = none) (ha : DAl X W [x] f) (he : starEach [x] X.env = (false, eval x X.env) :: starEach [] X.env := by rfl) : DE X W (.Call (.Name "tuple" p) [x] [] pos) (eCa gTuple f) :=
  de_callTy call_tuple_of caG_tuple hg hm (by decide +kernel) ha (he := he)
theorem de_int {x : Expr} {p : Pos} {f : Ev → R (List D)} (hg : Gl X "int") (hm : X.mg "int" = none) (ha : DAl X W [x] f) (he : starEach [x] X.env = (false, eval x X.env) :: starEach [] X.env := by rfl) : DE X W (.Call (.Name "int" p) [x] [] pos) (eCa gInt f) :=
  de_callTy (CallR.or call_int1 call_int_str) caG_int hg hm (by decide +kernel) ha (he := he)
theorem de_str {x : Expr} {p : Pos} {f : Ev → R (List D)} (hg : Gl X "str") (hm : X.mg "str" = none) (ha : DAl X W [x] f) (he : starEach [x] X.env = (false, eval x X.env) :: starEach [] X.env := by rfl) : DE X W (.Call (.Name "str" p) [x] [] pos) (eCa gStr f) :=
  de_callTy call_str_int caG_str hg hm (by decide +kernel) ha (he := he)

def dTy : D → String
  | .none => "NoneType"
  | .bool _ => "bool"
  | .int _ => "int"
  | .str _ => "str"
  | .list _ => "list"
  | .tuple _ => "tuple"
  | .dict _ => "dict"
theorem sqL_ty {K : Kw} {H : Hp} {a : Addr} {xs : List V} (h : SqL K H a xs) : TyX K H (.ref a) (.type "list") := by
  rcases h with (h | ⟨o, h⟩) | ⟨o, its, n, hk, hc, _⟩
  · exact .base (.lst h)
  · exact .base (.frz h)
  · exact .kList hk hc
theorem sqT_ty {K : Kw} {H : Hp} {a : Addr} {xs : List V} (h : SqT K H a xs) : TyX K H (.ref a) (.type "tuple") := by
  rcases h with (h | ⟨o, h⟩) | ⟨o, its, n, hk, hc, _⟩
  · exact .base (.tup h)
  · exact .fTuple h
  · exact .kTuple hk hc
def isDct : D → Bool
  | .dict _ => true
  | _ => false
def gIsi (T : String) (d : D) : R D := if isDct d = true then .no else match kitB (dTy d) T with
  | some b => .ok (.bool b)
  | none => .no
end
end Mir
end
set_option Elab.async false
set_option linter.all false
set_option maxRecDepth 100000
set_option maxHeartbeats 4000000
noncomputable section
namespace Mir
open PySem PySem.Spec L2

def ItP (t : Bool) (h : Heap) (it a : Addr) (i : Nat) : Prop := match t with
  | true => h.IsTupleIter it a i
  | false => h.IsListIter it a i
def CoP (t : Bool) (h : Heap) (a : Addr) (its : Array Value) : Prop := match t with
  | true => h.IsTuple a its
  | false => h.IsList a its
def Sqq (t : Bool) (K : PySem.W.Frag) (H : Hp) (a : Addr) (vs : List V) : Prop := match t with
  | true => SqT K H a vs
  | false => SqL K H a vs
theorem Sqq.mono {t : Bool} {K : PySem.W.Frag} {H H' : Hp} {a : Addr} {vs : List V} (s : Same H H') (h : Sqq t K H a vs) : Sqq t K H' a vs := by
  cases t with
  | true => exact SqT_mono s h
  | false => exact s.seq h
section
variable {X : Cx} {pins : List (Addr × Obj)} {σ : L2.St} {H : Hp} {s : Shared} {a : Addr} {xs ys : List V} {t : Bool}
theorem Sqq.at (I : Inv X pins σ H s) (h : Sqq t X.K H a xs) : ∃ its : List Value, Vals xs its ∧ CoP t s.heap a its.toArray := by
  cases t with
  | true =>
    obtain ⟨its, r, p, _⟩ := I.tuple h
    exact ⟨its, r, p⟩
  | false =>
    obtain ⟨its, r, p, _⟩ := I.list h
    exact ⟨its, r, p.isList⟩
theorem Sqq.inj (I : Inv X pins σ H s) (h : Sqq t X.K H a xs) (h' : Sqq t X.K H a ys) : xs = ys := by
  cases t with
  | true => exact I.tuple_inj h h'
  | false => exact I.list_inj h h'
end
theorem it_obj {t : Bool} {h : Heap} {it a : Addr} {i : Nat} (p : ItP t h it a i) : ∃ o, h.get? it = some o ∧ ∀ v, o.data ≠ .cell v := by
  cases t with
  | true => obtain ⟨o, e, _, d⟩ := p; exact ⟨o, e, fun v z => by rw [d] at z; cases z⟩
  | false => obtain ⟨o, e, _, d⟩ := p; exact ⟨o, e, fun v z => by rw [d] at z; cases z⟩
theorem ItP.at {t : Bool} {h h' : Heap} {it a : Addr} {i : Nat} (p : ItP t h it a i) (k : ∀ o, h.get? it = some o → h'.get? it = some o) : ItP t h' it a i := by
  cases t with
  | true => obtain ⟨o, e, q⟩ := p; exact ⟨o, k o e, q⟩
  | false => obtain ⟨o, e, q⟩ := p; exact ⟨o, k o e, q⟩
theorem drawsP {P : Program} {w : World} {A : Around} (hh : A.handled = none) (t : Bool) {it a : Addr} (hne : a ≠ it) (its : Array Value) :
    Draws P w A it [it, a] its.size (fun i v => its[i]? = some v) (fun i h => ItP t h it a i ∧ CoP t h a its) := by
  cases t with
  | true => exact Draws.tuple hh it a hne its
  | false => exact Draws.list hh it a hne its
def objP (t : Bool) (a : Addr) : Obj := match t with
  | true => { cls := .type "tuple_iterator", data := .fields #[.ref a, .int 0 0] }
  | false => { cls := .type "list_iterator", data := .fields #[.ref a, .int 0 0] }
theorem beginsP (t : Bool) (a : Addr) (its : Array Value) : Begins (.ref a) (objP t a) (fun h => CoP t h a its) := by
  cases t with
  | true => exact begins_tuple a its
  | false => exact begins_list a its
theorem itP_new {t : Bool} {h : Heap} {it a : Addr} (e : h.get? it = some (objP t a)) : ItP t h it a 0 := by
  cases t with
  | true => exact ⟨_, e, rfl, rfl⟩
  | false => exact ⟨_, e, rfl, rfl⟩

end Mir
end
set_option Elab.async false
set_option linter.all false
set_option maxRecDepth 100000
set_option maxHeartbeats 4000000
noncomputable section
namespace Mir
open PySem PySem.Spec L2

theorem fp_ne {X : Cx} {pins : List (Addr × Obj)} {σ : L2.St} {H : Hp} {s : Shared} {t : Bool} {a b : Addr} {xs : List V} (I : Inv X pins σ H s) (hf : FpOk X pins H b) (hq : Sqq t X.K H a xs) : a ≠ b := by
  rintro rfl
  have kk : ∀ o, X.K.lookup a = some o → False := fun o e => by
    have e1 := I.mod.kin a o e
    obtain ⟨_, _, _, q, _, _⟩ := hf
    rcases q with q | q
    · exact I.ok.noex a o e1 q
    · exact absurd (Nat.lt_of_lt_of_le (Heap.lt_size e1) (Nat.le_trans I.ok.bsz q)) (Nat.lt_irrefl _)
  cases t with
  | true =>
    rcases hq with (h | ⟨o, h⟩) | ⟨o, its, n, h, _⟩
    · rw [hf.1] at h; cases h
    · rw [hf.1] at h; cases h
    · exact kk o h
  | false =>
    rcases hq with (h | ⟨o, h⟩) | ⟨o, its, n, h, _⟩
    · rw [hf.1] at h; cases h
    · rw [hf.1] at h; cases h
    · exact kk o h

def Jzp (t u : Bool) (K : PySem.W.Frag) (a b : Addr) : It :=
  ⟨fun i H => ∃ xs ys x y, Sqq t K H a xs ∧ Sqq u K H b ys ∧ xs[i]? = some x ∧ ys[i]? = some y,
    fun i H v H' => ∃ T x y, v = .ref T ∧ H T = none ∧ H' = upd H T (.tup [x, y]) ∧ (∀ xs, Sqq t K H a xs → xs[i]? = some x) ∧ ∀ ys, Sqq u K H b ys → ys[i]? = some y,
    fun i H => ∃ xs ys, Sqq t K H a xs ∧ Sqq u K H b ys ∧ min xs.length ys.length = i⟩
theorem turn_zp {P : Program} {w : World} {K : PySem.W.Frag} {elts : List Expr} {kk : Nat} {tpos : Pos} (t u : Bool) (a b z TI TO i1 i2 : Addr) (nd : [z, TI, TO, i1, i2].Nodup) :
    Turn P w K (.Tuple elts kk tpos) (Jzp t u K a b) [z, TI, TO, i1, i2] z (fun i h => IsZip h z TI TO .none ∧ IsTupOf2 h TI (.ref i1) (.ref i2) ∧ (∃ a1 a2, IsTupOf2 h TO a1 a2) ∧ ItP t h i1 a i ∧ ItP u h i2 b i) := by
  have sep : a ∉ [z, TI, TO, i1, i2] → b ∉ [z, TI, TO, i1, i2] → ZipSep2 z TI TO i1 i2 [i1, a] [i2, b] := fun ha hb => by
    simp only [List.nodup_cons, List.mem_cons, List.not_mem_nil, or_false, not_or, List.nodup_nil, and_true, not_false_eq_true] at nd ha hb
    obtain ⟨⟨n1, n2, n3, n4⟩, ⟨n5, n6, n7⟩, ⟨n8, n9⟩, n10⟩ := nd
    obtain ⟨a1, a2, a3, a4, a5⟩ := ha
    obtain ⟨b1, b2, b3, b4, b5⟩ := hb
    refine ⟨Ne.symm n1, Ne.symm n2, n5, n6, by simp, ?_, ?_, n7, by simp, ?_, ?_, ?_, ?_⟩ <;> simp only [List.mem_cons, List.not_mem_nil, or_false, not_or]
    · exact ⟨n3, Ne.symm a1⟩
    · exact ⟨n8, Ne.symm a3⟩
    · exact ⟨n4, Ne.symm b1⟩
    · exact ⟨n9, Ne.symm b3⟩
    · exact ⟨n10, Ne.symm b4⟩
    · exact ⟨Ne.symm n10, Ne.symm a5⟩
  have live : ∀ {i : Nat} {h : Heap}, (IsZip h z TI TO .none ∧ IsTupOf2 h TI (.ref i1) (.ref i2) ∧ (∃ a1 a2, IsTupOf2 h TO a1 a2) ∧ ItP t h i1 a i ∧ ItP u h i2 b i) → ∀ c ∈ [z, TI, TO, i1, i2], ∃ o, h.get? c = some o ∧ ∀ v, o.data ≠ .cell v := fun st c hc => by
    obtain ⟨h1, h2, ⟨x1, x2, h3⟩, h4, h5⟩ := st
    simp only [List.mem_cons, List.not_mem_nil, or_false] at hc
    rcases hc with rfl | rfl | rfl | rfl | rfl
    · exact ⟨_, h1, fun v q => nomatch q⟩
    · exact ⟨_, h2, fun v q => nomatch q⟩
    · exact ⟨_, h3, fun v q => nomatch q⟩
    · exact it_obj h4
    · exact it_obj h5
  have wrs : ∀ c ∈ [z, TO, i1, i2], c ∈ [z, TI, TO, i1, i2] := fun c hc => by
    simp only [List.mem_cons, List.not_mem_nil, or_false] at hc ⊢
    rcases hc with rfl | rfl | rfl | rfl <;> simp
  refine ⟨by simp, fun i h st => live st, fun i h h' st k => ?_, ?_, ?_, fun A i s Q E st h => wpAny_pyIter_zip st.1 h⟩
  · obtain ⟨h1, h2, ⟨x1, x2, h3⟩, h4, h5⟩ := st
    exact ⟨k z (by simp) _ h1, k TI (by simp) _ h2, ⟨x1, x2, k TO (by simp) _ h3⟩, h4.at fun o q => k i1 (by simp) o q, h5.at fun o q => k i2 (by simp) o q⟩
  · intro X hP hw hK hc i pins s σ H E I hf st hg
    subst hP hw hK
    have hst := live st
    obtain ⟨h1, h2, h3, h4, h5⟩ := st
    obtain ⟨xs, ys, x, y, hq, hr, hx, hy⟩ := hg
    obtain ⟨its, rv, hco⟩ := hq.at I
    obtain ⟨jts, rw', hco'⟩ := hr.at I
    obtain ⟨u1, hu, ru⟩ := rv.get hx
    obtain ⟨u2, hu', ru'⟩ := rw'.get hy
    have S := sep (fun z => fp_ne I (hf a z) hq rfl) (fun z => fp_ne I (hf b z) hr rfl)
    have n1 : i < its.toArray.size := by rw [List.size_toArray]; exact (List.getElem?_eq_some_iff.mp hu).1
    have n2 : i < jts.toArray.size := by rw [List.size_toArray]; exact (List.getElem?_eq_some_iff.mp hu').1
    refine (GoesN.zip2 (prog := X.prog) (w := X.w) (elts := elts) (x1 := kk) (pos := tpos) S (drawsP (A := X.A.in1) (I.ok.hd hc) t (fp_ne I (hf i1 (by simp)) hq) its.toArray) (drawsP (A := X.A.in1) (I.ok.hd hc) u (fp_ne I (hf i2 (by simp)) hr) jts.toArray)).goes i s _ _ (by omega) ⟨h1, h2, h3, ⟨h4, hco⟩, h5, hco'⟩
      fun v h' tk ⟨T, p, q, ev, hT, hp, hq', hTup⟩ st' hk _ => ?_
    subst ev
    have e1 : p = u1 := by
      have hp' : its[i]? = some p := by simpa using hp
      rw [hu] at hp'
      exact (Option.some.inj hp').symm
    have e2 : q = u2 := by
      have hp' : jts[i]? = some q := by simpa using hq'
      rw [hu'] at hp'
      exact (Option.some.inj hp').symm
    subst e1 e2
    have new : ObjOk X.prog X.w (upd H T (.tup [x, y])) h' T (.tup [x, y]) := ⟨by show 2 ≤ sizeLine; decide, [p, q], .cons ru (.cons ru' .nil), hTup⟩
    refine ⟨.ref T, _, I.turnedNew (ch := [z, TI, TO, i1, i2]) (fun b o hb e => hk b o (fun m => hb (wrs b m)) e) hf hT new, rfl, ⟨T, x, y, rfl, I.hok.fresh hT, rfl, fun zs hz => by rw [hz.inj I hq]; exact hx, fun zs hz => by rw [hz.inj I hr]; exact hy⟩,
      ⟨st'.1, st'.2.1, st'.2.2.1, st'.2.2.2.1.1, st'.2.2.2.2.1⟩, fun c hc => ?_⟩
    obtain ⟨o, g, _⟩ := hst c hc
    rw [upd_ne (Nat.ne_of_lt (Nat.lt_of_lt_of_le (Heap.lt_size g) hT))]
    exact (hf c hc).1
  · intro X hP hw hK hc i pins s σ H E I hf st hg
    subst hP hw hK
    obtain ⟨h1, h2, h3, h4, h5⟩ := st
    obtain ⟨xs, ys, hq, hr, hl⟩ := hg
    obtain ⟨its, rv, hco⟩ := hq.at I
    obtain ⟨jts, rw', hco'⟩ := hr.at I
    have S := sep (fun z => fp_ne I (hf a z) hq rfl) (fun z => fp_ne I (hf b z) hr rfl)
    have hs : i = min its.toArray.size jts.toArray.size := by rw [List.size_toArray, List.size_toArray, ← rv.length, ← rw'.length]; exact hl.symm
    subst hs
    exact (GoesN.zip2 (prog := X.prog) (w := X.w) (elts := elts) (x1 := kk) (pos := tpos) S (drawsP (A := X.A.in1) (I.ok.hd hc) t (fp_ne I (hf i1 (by simp)) hq) its.toArray) (drawsP (A := X.A.in1) (I.ok.hd hc) u (fp_ne I (hf i2 (by simp)) hr) jts.toArray)).stops s _ _ ⟨h1, h2, h3, ⟨h4, hco⟩, h5, hco'⟩
      fun h' tk hk _ => I.turnedL (ch := [z, TI, TO, i1, i2]) (fun b o hb e => hk b o (fun m => hb (wrs b m)) e) hf
def iZp (K : PySem.W.Frag) (ta : TA) : TI := fun σ H R => ta σ H fun vs H1 => ∃ t u a b xs ys, vs = [.ref a, .ref b] ∧ Sqq t K H1 a xs ∧ Sqq u K H1 b ys ∧ R (Jzp t u K a b) H1
theorem pi_zp {X : Cx} {e e2 : Expr} {ta : TA} {p pos tpos : Pos} {elts : List Expr} {kk : Nat} (hg : Gl X "zip") (hm : X.mg "zip" = none) (ha : PA X [e, e2] ta) (hs : starEach [e, e2] X.env = (false, eval e X.env) :: starEach [e2] X.env := by rfl)
    (hpl : (backTo pos (starEach [e2] X.env)).any (·.1) = false := by rfl) : PI X (.Tuple elts kk tpos) (.Call (.Name "zip" p) [e, e2] [] pos) (iZp X.K ta) := by
  refine ⟨fun pins s σ H R I h => ?_⟩
  refine PyProof.Rows.Call_ (ld_blt I hg hm PyProof.Rows.boot_zip (PyProof.Rows.callWith_type1 (thn (ha.run pos pins s σ H _ I h) fun us s1 ⟨vs, H1, I1, r1, t, u, a, b, xs, ys, ex, hq, hr, q⟩ => ?_) hs hpl))
  subst ex
  cases r1 with
  | cons r rr =>
    cases rr with
    | cons r' rr =>
      cases rr
      cases r
      cases r'
      obtain ⟨its, rv, hco⟩ := hq.at I1
      obtain ⟨jts, rw', hco'⟩ := hr.at I1
      refine zip_begins2 (beginsP t a its.toArray) (beginsP u b jts.toArray) hco hco' fun h' hz hTI hTO g1 g2 _ hk => wpAny_pyIter_zip hz ?_
      have I2 : Inv X pins σ H1 { s1 with heap := h' } := I1.kept (t' := s1.toks) hk
      have le5 : ∀ c ∈ [s1.heap.objs.size + 4, s1.heap.objs.size + 2, s1.heap.objs.size + 3, s1.heap.objs.size, s1.heap.objs.size + 1], s1.heap.objs.size ≤ c := fun c hc => by
        simp only [List.mem_cons, List.not_mem_nil, or_false] at hc
        rcases hc with z | z | z | z | z <;> (rw [z]; first | exact Nat.le_refl _ | exact Nat.le_add_right _ _)
      have nd5 : ∀ n : Nat, [n + 4, n + 2, n + 3, n, n + 1].Nodup := fun n => by
        simp only [List.nodup_cons, List.mem_cons, List.not_mem_nil, or_false, not_or, List.nodup_nil, and_true, not_false_eq_true]
        omega
      exact ⟨_, _, _, _, H1, rfl, I2, turn_zp t u a b _ _ _ _ _ (nd5 s1.heap.objs.size), ⟨hz, hTI, ⟨_, _, hTO⟩, itP_new g1, itP_new g2⟩, fun c hc => I1.fpOk (le5 c hc) (I1.hok.fresh (le5 c hc)), q⟩
end Mir
end
set_option Elab.async false
set_option linter.all false
set_option maxRecDepth 100000
set_option maxHeartbeats 4000000
noncomputable section
namespace Mir
open PySem PySem.Spec L2

structure WalkF (K : Kw) (J : It) (F0 : Hp) (items : List D) : Prop where
  go : ∀ i F H, i < items.length → Same F0 F → Same F H → J.go i H
  yld : ∀ i F H x H', i < items.length → Same F0 F → Same F H → J.yld i H x H' → ∃ d F', items[i]? = some d ∧ Ext F H F' H' ∧ Dp K F' x d
  stop : ∀ F H, Same F0 F → Same F H → J.stop items.length H
def PIt (K : Kw) (_ : Hp) (items : List D) (J : It) (F' _ : Hp) : Prop := WalkF K J F' items
instance {K : Kw} : Anti (PIt K) := ⟨fun _ h => h⟩
def DI (X : Cx) (W : WX) (tg e : Expr) (f : Ev → R (List D)) : Prop := ∃ wi, PI X tg e wi ∧ Sm X W (PIt X.KK) wi f
section
variable {K : Kw} {F0 : Hp} {a b : Addr} {vs ws : List V} {ds es : List D}
theorem walkF_l (h1 : SqL K F0 a vs) (h2 : DpAll K F0 vs ds) : WalkF K (Itl K a) F0 ds where
  go := fun i F H hi s1 s2 => by
    rw [← DpAll.len h2] at hi
    exact ⟨vs, vs[i], (s1.trans s2).seq h1, by simp [hi]⟩
  yld := fun i F H x H' hi s1 s2 ⟨e, q⟩ => by
    subst e
    obtain ⟨d, e1, e2⟩ := DpAll.getV h2 (q vs ((s1.trans s2).seq h1))
    exact ⟨d, F, e1, .refl s2, dpUp e2 s1⟩
  stop := fun F H s1 s2 => ⟨vs, (s1.trans s2).seq h1, by rw [DpAll.len h2]; exact Nat.le_refl _⟩
theorem walkF_t (h1 : SqT K F0 a vs) (h2 : DpAll K F0 vs ds) : WalkF K (Itt K a) F0 ds where
  go := fun i F H hi s1 s2 => by
    rw [← DpAll.len h2] at hi
    exact ⟨vs, vs[i], SqT_mono (s1.trans s2) h1, by simp [hi]⟩
  yld := fun i F H x H' hi s1 s2 ⟨e, q⟩ => by
    subst e
    obtain ⟨d, e1, e2⟩ := DpAll.getV h2 (q vs (SqT_mono (s1.trans s2) h1))
    exact ⟨d, F, e1, .refl s2, dpUp e2 s1⟩
  stop := fun F H s1 s2 => ⟨vs, SqT_mono (s1.trans s2) h1, by rw [DpAll.len h2]; exact Nat.le_refl _⟩
def charsD (z : Str) : List D := z.cps.toList.map fun c => .str ⟨#[c]⟩
theorem walkF_s (z : Str) : WalkF K (Its z) F0 (charsD z) where
  go := fun i F H hi s1 s2 => walk_str.goes i H (by simpa [charsD] using hi) trivial
  yld := fun i F H x H' hi s1 s2 h => by
    have hi' : i < z.cps.size := by simpa [charsD] using hi
    obtain ⟨e, c, e1, e2⟩ := walk_str.yields i H x H' hi' trivial h
    subst e e2
    exact ⟨_, F, by simp [charsD, e1], .refl s2, .str _⟩
  stop := fun F H s1 s2 => by
    have := (walk_str (z := z)).stops H trivial
    simpa [charsD] using this
def rangeD (lo : Int) (n : Nat) : List D := (List.range n).map fun i => .int (lo + (i : Nat))
theorem walkF_r (lo : Int) (n : Nat) : WalkF K (Itr lo n) F0 (rangeD lo n) where
  go := fun i F H hi s1 s2 => walk_range.goes i H (by simpa [rangeD] using hi) trivial
  yld := fun i F H x H' hi s1 s2 h => by
    have hi' : i < n := by simpa [rangeD] using hi
    obtain ⟨e, e1⟩ := walk_range.yields i H x H' hi' trivial h
    subst e e1
    exact ⟨_, F, by simp [rangeD, hi'], .refl s2, .int _⟩
  stop := fun F H s1 s2 => by
    have := (walk_range (lo := lo) (n := n)).stops H trivial
    simpa [rangeD] using this
def enumD : Nat → List D → List D
  | _, [] => []
  | n, d :: ds => .tuple [.int n, d] :: enumD (n + 1) ds
def zipD : List D → List D → List D
  | x :: xs, y :: ys => .tuple [x, y] :: zipD xs ys
  | _, _ => []
@[simp] theorem zipD_nil (ys : List D) : zipD [] ys = [] := by cases ys <;> rfl
@[simp] theorem zipD_nil2 (ys : List D) : zipD ys [] = [] := by cases ys <;> rfl
@[simp] theorem zipD_cons (x y : D) (xs ys : List D) : zipD (x :: xs) (y :: ys) = .tuple [x, y] :: zipD xs ys := rfl
theorem zipD_len : ∀ (xs ys : List D), (zipD xs ys).length = min xs.length ys.length
  | [], ys => by simp
  | x :: xs, [] => by simp
  | x :: xs, y :: ys => by simp [zipD_len xs ys]
theorem zipD_get : ∀ (i : Nat) (xs ys : List D) (x y : D), xs[i]? = some x → ys[i]? = some y → (zipD xs ys)[i]? = some (.tuple [x, y])
  | i, [], ys, x, y, h, g => by simp at h
  | i, x :: xs, [], _, y, h, g => by simp at g
  | 0, a :: xs, b :: ys, x, y, h, g => by simp at h g; subst h g; rfl
  | i + 1, a :: xs, b :: ys, x, y, h, g => by
    have := zipD_get i xs ys x y (by simpa using h) (by simpa using g)
    simpa using this
theorem walkF_zp {t u : Bool} (h1 : Sqq t K F0 a vs) (h2 : DpAll K F0 vs ds) (g1 : Sqq u K F0 b ws) (g2 : DpAll K F0 ws es) : WalkF K (Jzp t u K a b) F0 (zipD ds es) where
  go := fun i F H hi s1 s2 => by
    rw [zipD_len, ← DpAll.len h2, ← DpAll.len g2] at hi
    exact ⟨vs, ws, vs[i]'(by omega), ws[i]'(by omega), h1.mono (s1.trans s2), g1.mono (s1.trans s2), by simp, by simp⟩
  yld := fun i F H x H' hi s1 s2 ⟨T, y, z, e, hT, eH, q, q'⟩ => by
    subst e eH
    obtain ⟨d, e1, e2⟩ := DpAll.getV h2 (q vs (h1.mono (s1.trans s2)))
    obtain ⟨d', e1', e2'⟩ := DpAll.getV g2 (q' ws (g1.mono (s1.trans s2)))
    have x := Ext.frz s2 hT (.tup [y, z])
    exact ⟨_, _, zipD_get i ds es d d' e1 e1', x, .tup (SqT.of upd_same) (.cons (dpUp e2 (s1.trans x.ff)) (.cons (dpUp e2' (s1.trans x.ff)) .nil))⟩
  stop := fun F H s1 s2 => ⟨vs, ws, h1.mono (s1.trans s2), g1.mono (s1.trans s2), by rw [zipD_len, DpAll.len h2, DpAll.len g2]⟩
end
section
variable {X : Cx} {W : WX} {tg e e2 : Expr} {es : List Expr} {pos p : Pos} {f g : Ev → R D}
theorem PI.or {wi wj : TI} (h : PI X tg e wi) (h' : PI X tg e wj) : PI X tg e (fun σ H R => wi σ H R ∨ wj σ H R) := ⟨fun pins s σ H R I q => by
  rcases q with q | q
  · exact h.run pins s σ H R I q
  · exact h'.run pins s σ H R I q⟩
def itD : D → R (List D)
  | .list ds => .ok ds
  | .tuple ds => .ok ds
  | .str z => .ok (charsD z)
  | _ => .no
@[simp] theorem itD_list (ds : List D) : itD (.list ds) = .ok ds := rfl
@[simp] theorem itD_tup (ds : List D) : itD (.tuple ds) = .ok ds := rfl
@[simp] theorem itD_str (z : Str) : itD (.str z) = .ok (charsD z) := rfl
/-- go on by what the first part is -/
theorem Sm.choose {α β γ δ : Type} {P : Hp → α → β → Hp → Hp → Prop} {P2 : Hp → γ → δ → Hp → Hp → Prop} [Anti P2] {t : L2.St → Hp → (β → Hp → Prop) → Prop} {f : Ev → R α} (s : Sm X W P t f) {g : α → R γ} {F H : Hp} {σ : L2.St} {env : Ev} {fp : List Addr} {Q : δ → Hp → Prop} {G : Prop}
    (sat : Sat X.KK F H σ env fp) (h : Post X W P2 F H σ ((f env).bind g) Q) (no : (∀ T, t σ H T) → G)
    (k : ∀ a, f env = .ok a → (∀ T, (∀ v F1 H1, Sat X.KK F1 H1 σ env fp → P H a v F1 H1 → Ext F H F1 H1 → Post X W P2 F1 H1 σ (g a) Q → T v H1) → t σ H T) → G) : G := by
  cases e : f env with
  | no => rw [e] at h; exact h.elim
  | ok a =>
    refine k a e fun T hT => s F H σ env fp T sat ?_
    rw [e] at h ⊢
    exact fun v F' H' x p => hT v F' H' (sat.ext x) p x (Post.ext (show Post X W P2 F H σ (g a) Q from h) x)
  | ex c =>
    refine no fun T => s F H σ env fp T sat ?_
    rw [e] at h ⊢
    exact h
theorem di_seq (h : DF X W e f) : DI X W tg e (eB f itD) := by
  obtain ⟨t, p, s⟩ := h
  refine ⟨_, PI.or (pi_list p) (PI.or (pi_tup p) (pi_str p)), fun F H σ env fp Q sat hp => ?_⟩
  refine s.choose sat hp (fun z => .inl (z _)) fun d e k => ?_
  cases d with
  | list ds =>
    refine .inl (k _ fun v F1 H1 sat1 q _ h1 => ?_)
    obtain ⟨a, vs, rfl, q1, q2⟩ := dp_lst q
    exact ⟨a, rfl, ⟨vs, sat1.fh.seq q1⟩, h1 _ F1 H1 (.refl sat1.fh) (walkF_l q1 q2)⟩
  | tuple ds =>
    refine .inr (.inl (k _ fun v F1 H1 sat1 q _ h1 => ?_))
    obtain ⟨a, vs, rfl, q1, q2⟩ := dp_tup q
    exact ⟨a, rfl, ⟨vs, SqT_mono sat1.fh q1⟩, h1 _ F1 H1 (.refl sat1.fh) (walkF_t q1 q2)⟩
  | str z =>
    refine .inr (.inr (k _ fun v F1 H1 sat1 q _ h1 => ?_))
    cases dp_str q
    exact ⟨z, rfl, h1 _ F1 H1 (.refl sat1.fh) (walkF_s z)⟩
  | _ =>
    refine .inl (k _ fun v F1 H1 sat1 q _ h1 => h1.elim)
def rg1 : List D → R (List D)
  | [.int j] => guard (-(2 ^ 62) ≤ j ∧ j < 2 ^ 62) (.ok (rangeD 0 j.toNat))
  | _ => .no
theorem daf1 {K : Kw} {F : Hp} {d : D} {vs : List V} (h : DpAll K F vs [d]) : ∃ v, vs = [v] ∧ Dp K F v d := by
  cases h with | cons a b => cases b; exact ⟨_, rfl, a⟩
theorem daf2 {K : Kw} {F : Hp} {d d' : D} {vs : List V} (h : DpAll K F vs [d, d']) : ∃ v w, vs = [v, w] ∧ Dp K F v d ∧ Dp K F w d' := by
  cases h with | cons a b => cases b with | cons a' b' => cases b'; exact ⟨_, _, rfl, a, a'⟩
variable {fa : Ev → R (List D)}
theorem di_range1 (hg : Gl X "range") (hm : X.mg "range" = none) (h : DA X W [e] fa) (hs : starEach [e] X.env = [(false, eval e X.env)] := by rfl) : DI X W tg (.Call (.Name "range" p) [e] [] pos) (eB fa rg1) := by
  obtain ⟨t, pa, s⟩ := h
  refine ⟨_, pi_range1 hg hm pa hs, fun F H σ env fp Q sat hp => ?_⟩
  refine s.go sat hp fun ds vs F1 H1 sat1 q _ h1 => ?_
  unfold rg1 at h1
  split at h1
  · obtain ⟨c, h2⟩ := guard_post h1
    obtain ⟨v, rfl, w⟩ := daf1 q
    cases dp_int w
    exact ⟨_, rfl, c.1, c.2, h2 _ F1 H1 (.refl sat1.fh) (walkF_r _ _)⟩
  · exact h1.elim
def sqqD : D → Option (Bool × List D)
  | .list ds => some (false, ds)
  | .tuple ds => some (true, ds)
  | _ => none
theorem sqq_dp {K : Kw} {F : Hp} {v : V} {d : D} {t : Bool} {ds : List D} (h : Dp K F v d) (e : sqqD d = some (t, ds)) : ∃ a vs, v = .ref a ∧ Sqq t K F a vs ∧ DpAll K F vs ds := by
  cases d with
  | list es => cases e; exact dp_lst h
  | tuple es => cases e; exact dp_tup h
  | _ => cases e
def enArg : List D → R (List D)
  | [d] => match sqqD d with
    | some (_, ds) => .ok (enumD 0 ds)
    | none => .no
  | _ => .no
@[simp] theorem enArg_list (ds : List D) : enArg [.list ds] = .ok (enumD 0 ds) := rfl
@[simp] theorem enArg_tup (ds : List D) : enArg [.tuple ds] = .ok (enumD 0 ds) := rfl
def zpArg : List D → R (List D)
  | [d, e] => match sqqD d, sqqD e with
    | some (_, ds), some (_, es) => .ok (zipD ds es)
    | _, _ => .no
  | _ => .no
theorem di_zip {elts : List Expr} {kk : Nat} {tpos : Pos} (hg : Gl X "zip") (hm : X.mg "zip" = none) (h : DA X W [e, e2] fa) (hs : starEach [e, e2] X.env = (false, eval e X.env) :: starEach [e2] X.env := by rfl)
    (hpl : (backTo pos (starEach [e2] X.env)).any (·.1) = false := by rfl) : DI X W (.Tuple elts kk tpos) (.Call (.Name "zip" p) [e, e2] [] pos) (eB fa zpArg) := by
  obtain ⟨t, pa, s⟩ := h
  refine ⟨_, pi_zp hg hm pa hs hpl, fun F H σ env fp Q sat hp => ?_⟩
  refine s.go sat hp fun ds vs F1 H1 sat1 q _ h1 => ?_
  unfold zpArg at h1
  split at h1
  · split at h1
    · rename_i t es u gs e2 e3
      obtain ⟨v, w, rfl, w1, w2⟩ := daf2 q
      obtain ⟨a, us, rfl, q1, q2⟩ := sqq_dp w1 e2
      obtain ⟨b, us', rfl, q3, q4⟩ := sqq_dp w2 e3
      exact ⟨t, u, a, b, us, us', rfl, q1.mono sat1.fh, q3.mono sat1.fh, h1 _ F1 H1 (.refl sat1.fh) (walkF_zp q1 q2 q3 q4)⟩
    · exact h1.elim
  · exact h1.elim
end
end Mir
end
set_option Elab.async false
set_option linter.all false
set_option maxRecDepth 100000
set_option maxHeartbeats 4000000
noncomputable section
namespace Mir
open PySem PySem.Spec L2

section
variable {K : Kw} {F H : Hp} {σ : L2.St} {env : Ev} {fp : List Addr}
/-- store an own value; fx: the value's new footprint -/
theorem Sat.put (s : Sat K F H σ env fp) {i : Nat} (hi : i < env.length) {v : V} {o : Ow} {fx : List Addr} (h : OwnAt K F H v o fx) (nd : fx.Nodup) (dj : ∀ b ∈ fx, b ∉ fp) :
    ∃ fp', Sat K F H (σ.set i (some v)) (env.set i (some o)) fp' ∧ ∀ b ∈ fp', b ∈ fx ∨ b ∈ fp := by
  obtain ⟨fr, fo, a1, a2, a3, a4, a5, a6, a7⟩ := s.en.put hi s.nd
  obtain ⟨fp', b1, b2, b3⟩ := (a7 F H [] [] (StepS.of_ext (.refl s.fh) []) fun _ _ => by simp).2 v o fx h nd fun b hb z => dj b hb (a1 b z)
  exact ⟨fp', ⟨s.fh, b3, b1⟩, fun b hb => (b2 b hb).imp id (a1 b)⟩
end

def Off (ix : List Nat) (σ σ' : L2.St) : Prop := σ'.length = σ.length ∧ ∀ j, j ∉ ix → σ'[j]? = σ[j]?
theorem Off.refl (σ : L2.St) (ix : List Nat) : Off ix σ σ := ⟨rfl, fun _ _ => rfl⟩
theorem Off.trans {ix jx : List Nat} {σ σ1 σ2 : L2.St} (a : Off ix σ σ1) (b : Off jx σ1 σ2) : Off (ix ++ jx) σ σ2 :=
  ⟨b.1.trans a.1, fun j h => (b.2 j fun z => h (List.mem_append_right _ z)).trans (a.2 j fun z => h (List.mem_append_left _ z))⟩
/-- the reading of a target, by its mirror -/
def tgOf (K : Kw) (ix : List Nat) (g : D → Ev → Option Ev) : TG := fun v σ H Q => ∃ F env fp d env', Sat K F H σ env fp ∧ Dp K F v d ∧ g d env = some env' ∧ ∀ σ' fp', Sat K F H σ' env' fp' → (∀ b ∈ fp', b ∈ fp) → Off ix σ σ' → Q σ' H
def tgsOf (K : Kw) (ix : List Nat) (g : List D → Ev → Option Ev) : TGs := fun v σ H Q => ∃ F env fp d env', Sat K F H σ env fp ∧ DpAll K F v d ∧ g d env = some env' ∧ ∀ σ' fp', Sat K F H σ' env' fp' → (∀ b ∈ fp', b ∈ fp) → Off ix σ σ' → Q σ' H
def DG (X : Cx) (tg : Expr) (ix : List Nat) (g : D → Ev → Option Ev) : Prop := PG X tg (tgOf X.KK ix g)
def DGs (X : Cx) (tg : List Expr) (ix : List Nat) (g : List D → Ev → Option Ev) : Prop := PGs X tg (tgsOf X.KK ix g)
theorem PG.imp {X : Cx} {tg : Expr} {t t' : TG} (h : PG X tg t) (k : ∀ v σ H Q, t' v σ H Q → t v σ H Q) : PG X tg t' := ⟨fun pins s σ H v u Q I r q => h.run pins s σ H v u Q I r (k v σ H Q q)⟩
theorem PGs.imp {X : Cx} {tg : List Expr} {t t' : TGs} (h : PGs X tg t) (k : ∀ v σ H Q, t' v σ H Q → t v σ H Q) : PGs X tg t' := ⟨fun pins s σ H v u Q I r q => h.run pins s σ H v u Q I r (k v σ H Q q)⟩
def gtName (i : Nat) (d : D) (env : Ev) : Option Ev := if i < env.length then some (env.set i (some (.d d))) else none
def gtNil : List D → Ev → Option Ev
  | [], env => some env
  | _, _ => none
def gtCons (g : D → Ev → Option Ev) (h : List D → Ev → Option Ev) : List D → Ev → Option Ev
  | d :: ds, env => (g d env).bind (h ds)
  | _, _ => none
def gtTup (n : Nat) (h : List D → Ev → Option Ev) : D → Ev → Option Ev
  | .tuple ds, env => if ds.length = n then h ds env else none
  | _, _ => none
section
variable {X : Cx} {e : Expr} {es : List Expr} {pos : Pos}
theorem dg_name (i : Nat) {x : Str} (hN : X.N.Nodup) (hi : X.N[i]? = some x := by rfl) (hx : Loc X.env.scope x := by first | exact Or.inl rfl | exact Or.inr rfl) (hf : X.fn x = true ∨ X.env.scope.names.lookup x = some .local := by first | exact .inl rfl | exact .inr rfl | assumption) : DG X (.Name x pos) [i] (gtName i) := by
  refine PG.imp (pg_name hN hi hx hf) ?_
  rintro v σ H Q ⟨F, env, fp, d, env', sat, hd, he, q⟩
  unfold gtName at he
  split at he
  · cases he
    obtain ⟨fp', s', h'⟩ := sat.put ‹_› (OwnAt.d hd) List.nodup_nil (fun _ z => nomatch z)
    exact q _ fp' s' (fun b hb => (h' b hb).elim (fun z => nomatch z) id) ⟨by simp, fun j hj => List.getElem?_set_ne (fun z => hj (by simp [z]))⟩
  · cases he
theorem dgs_nil : DGs X [] [] gtNil := by
  refine PGs.imp pgs_nil ?_
  rintro v σ H Q ⟨F, env, fp, d, env', sat, hd, he, q⟩
  cases d with
  | nil => cases hd; cases he; exact ⟨rfl, q σ fp sat (fun _ z => z) (.refl _ _)⟩
  | cons d ds => cases he
theorem dgs_cons {ix jx : List Nat} {g : D → Ev → Option Ev} {h : List D → Ev → Option Ev} (h1 : DG X e ix g) (h2 : DGs X es jx h) (hs : (assignEach (e :: es) X.env).map (·.2) = assign e X.env :: (assignEach es X.env).map (·.2) := by rfl) : DGs X (e :: es) (ix ++ jx) (gtCons g h) := by
  refine PGs.imp (pgs_cons h1 h2 hs) ?_
  rintro v σ H Q ⟨F, env, fp, d, env', sat, hd, he, q⟩
  cases d with
  | nil => cases he
  | cons d ds =>
    cases hd with
    | cons d1 d2 =>
      cases e1 : g d env with
      | none => unfold gtCons at he; simp only at he; rw [e1] at he; cases he
      | some env1 =>
        unfold gtCons at he; simp only at he; rw [e1] at he
        refine ⟨_, _, rfl, F, env, fp, d, env1, sat, d1, e1, fun σ1 fp1 sat1 sub1 o1 => ?_⟩
        exact ⟨F, env1, fp1, ds, env', sat1, d2, he, fun σ2 fp2 sat2 sub2 o2 => q σ2 fp2 sat2 (fun b hb => sub1 b (sub2 b hb)) (o1.trans o2)⟩
theorem dg_tup {k n : Nat} {ix : List Nat} {h : List D → Ev → Option Ev} (hc : X.calm = true) (hs : DGs X es ix h) (hn : (assignEach es X.env).length = n := by rfl) (hst : (assignEach es X.env).findIdx? (·.1) = none := by rfl) : DG X (.Tuple es k pos) ix (gtTup n h) := by
  refine PG.imp (pg_tup hc hs hn hst) ?_
  rintro v σ H Q ⟨F, env, fp, d, env', sat, hd, he, q⟩
  unfold gtTup at he
  split at he
  · split at he
    · rename_i ds c
      obtain ⟨a, vs, rfl, h1, h2⟩ := dp_tup hd
      exact ⟨a, vs, rfl, SqT_mono sat.fh h1, (DpAll.len h2).trans c, F, env, fp, ds, env', sat, h2, he, q⟩
    · cases he
  · cases he
end

inductive SR where
  | no
  | nx (env : Ev)
  | rt (r : Ow) (env : Ev)
  | bk (env : Ev)
  | ct (env : Ev)
  | ex (c : Str) (env : Ev)
def SR.andThen : SR → (Ev → SR) → SR
  | .nx env, f => f env
  | r, _ => r
@[simp] theorem SR.andThen_nx (env : Ev) (f : Ev → SR) : (SR.nx env).andThen f = f env := rfl
@[simp] theorem SR.andThen_rt (r : Ow) (env : Ev) (f : Ev → SR) : (SR.rt r env).andThen f = .rt r env := rfl
@[simp] theorem SR.andThen_ex (c : Str) (env : Ev) (f : Ev → SR) : (SR.ex c env).andThen f = .ex c env := rfl
@[simp] theorem SR.andThen_bk (env : Ev) (f : Ev → SR) : (SR.bk env).andThen f = .bk env := rfl
@[simp] theorem SR.andThen_ct (env : Ev) (f : Ev → SR) : (SR.ct env).andThen f = .ct env := rfl
@[simp] theorem SR.andThen_no (f : Ev → SR) : SR.no.andThen f = .no := rfl
/-- a pure part, then a statement's outcome -/
def R.st {α : Type} (env : Ev) : R α → (α → SR) → SR
  | .no, _ => .no
  | .ok a, f => f a
  | .ex c, _ => .ex c env
@[simp] theorem R.st_ok {α : Type} (env : Ev) (a : α) (f : α → SR) : (R.ok a).st env f = f a := rfl
@[simp] theorem R.st_ex {α : Type} (env : Ev) (c : Str) (f : α → SR) : (R.ex c : R α).st env f = .ex c env := rfl
/-- S: the slots that may be stored -/
def OffS (S : Nat → Bool) (σ σ' : L2.St) : Prop := ∀ j, S j = false → σ'[j]? = σ[j]?
theorem OffS.refl (S : Nat → Bool) (σ : L2.St) : OffS S σ σ := fun _ _ => rfl
theorem OffS.trans {S : Nat → Bool} {σ σ1 σ2 : L2.St} (a : OffS S σ σ1) (b : OffS S σ1 σ2) : OffS S σ σ2 := fun j h => (b j h).trans (a j h)
theorem OffS.set {S : Nat → Bool} {σ : L2.St} {i : Nat} (h : S i = true) (x : Option V) : OffS S σ (σ.set i x) := fun j hj => List.getElem?_set_ne fun z => by rw [z, hj] at h; cases h
theorem OffS.of {S : Nat → Bool} {σ σ' : L2.St} {ix : List Nat} (h : Off ix σ σ') (k : ix.all S = true) : OffS S σ σ' := fun j hj => h.2 j fun z => by
  rw [List.all_eq_true] at k
  rw [k j z] at hj; cases hj
def PostS (X : Cx) (W : WX) (S : Nat → Bool) (σ0 : L2.St) (F H : Hp) (fp : List Addr) (D : Ends) : SR → Prop
  | .no => False
  | .nx env => ∀ σ F' H' fp', OffS S σ0 σ → StepS F H fp F' H' fp' → Sat X.KK F' H' σ env fp' → D.nx σ H'
  | .bk env => ∀ σ F' H' fp', OffS S σ0 σ → StepS F H fp F' H' fp' → Sat X.KK F' H' σ env fp' → D.bk σ H'
  | .ct env => ∀ σ F' H' fp', OffS S σ0 σ → StepS F H fp F' H' fp' → Sat X.KK F' H' σ env fp' → D.ct σ H'
  | .rt r env => ∀ v σ F' H' fx fp', OffS S σ0 σ → StepS F H fp F' H' (fx ++ fp') → Sat X.KK F' H' σ env fp' → OwnAt X.KK F' H' v r fx → (fx ++ fp').Nodup → D.rt v H'
  | .ex c env => ∀ C σ F' H' fp', X.mg c = some (.ref C) → OffS S σ0 σ → StepS F H fp F' H' fp' → Sat X.KK F' H' σ env fp' → W (.ref C) none σ H'
def SmS (X : Cx) (W : WX) (S : Nat → Bool) (t : TS) (f : Ev → SR) : Prop := ∀ F H σ env fp D, Sat X.KK F H σ env fp → PostS X W S σ F H fp D (f env) → t D σ H
def DS (X : Cx) (W : WX) (S : Nat → Bool) (st : Stmt) (f : Ev → SR) : Prop := ∃ t, PS X st t ∧ SmS X W S t f
def DSs (X : Cx) (W : WX) (S : Nat → Bool) (st : List Stmt) (f : Ev → SR) : Prop := ∃ t, PSs X st t ∧ SmS X W S t f
section
variable {X : Cx} {W : WX} {S : Nat → Bool} {σ0 σ1 : L2.St} {F H F1 H1 : Hp} {fp fp1 : List Addr} {D : Ends}
theorem PostS.step {r : SR} (h : PostS X W S σ0 F H fp D r) (o : OffS S σ0 σ1) (s : StepS F H fp F1 H1 fp1) : PostS X W S σ1 F1 H1 fp1 D r := by
  cases r with
  | no => exact h
  | nx env => exact fun σ F' H' fp' o' s' => h σ F' H' fp' (o.trans o') (s.trans s')
  | bk env => exact fun σ F' H' fp' o' s' => h σ F' H' fp' (o.trans o') (s.trans s')
  | ct env => exact fun σ F' H' fp' o' s' => h σ F' H' fp' (o.trans o') (s.trans s')
  | rt r env => exact fun v σ F' H' fx fp' o' s' => h v σ F' H' fx fp' (o.trans o') (s.trans s')
  | ex c env => exact fun C σ F' H' fp' m o' s' => h C σ F' H' fp' m (o.trans o') (s.trans s')
theorem PostS.ext {r : SR} (h : PostS X W S σ0 F H fp D r) (e : Ext F H F1 H1) : PostS X W S σ0 F1 H1 fp D r := h.step (.refl _ _) (StepS.of_ext e fp)
theorem PostS.sub {S' : Nat → Bool} {r : SR} (h : PostS X W S σ0 F H fp D r) (k : ∀ j, S j = false → S' j = false) : PostS X W S' σ0 F H fp D r := by
  have o : ∀ {σ : L2.St}, OffS S' σ0 σ → OffS S σ0 σ := fun o j hj => o j (k j hj)
  cases r with
  | no => exact h
  | nx env => exact fun σ F' H' fp' o' s' => h σ F' H' fp' (o o') s'
  | bk env => exact fun σ F' H' fp' o' s' => h σ F' H' fp' (o o') s'
  | ct env => exact fun σ F' H' fp' o' s' => h σ F' H' fp' (o o') s'
  | rt r env => exact fun v σ F' H' fx fp' o' s' => h v σ F' H' fx fp' (o o') s'
  | ex c env => exact fun C σ F' H' fp' m o' s' => h C σ F' H' fp' m (o o') s'
/-- a pure part within a statement -/
theorem Sm.st {α β : Type} {P : Hp → α → β → Hp → Hp → Prop} {t : L2.St → Hp → (β → Hp → Prop) → Prop} {f : Ev → R α} (s : Sm X W P t f) {g : α → SR} {σ : L2.St} {env : Ev} {T : β → Hp → Prop} (sat : Sat X.KK F H σ env fp)
    (h : PostS X W S σ F H fp D ((f env).st env g)) (k : ∀ a v F1 H1, Sat X.KK F1 H1 σ env fp → P H a v F1 H1 → Ext F H F1 H1 → PostS X W S σ F1 H1 fp D (g a) → T v H1) : t σ H T := by
  refine s F H σ env fp T sat ?_
  cases e : f env with
  | no => rw [e] at h; exact h
  | ok a =>
    rw [e] at h
    exact fun v F' H' x p => k a v F' H' (sat.ext x) p x (PostS.ext (show PostS X W S σ F H fp D (g a) from h) x)
  | ex c =>
    rw [e] at h
    exact fun C F' H' m x => h C σ F' H' fp m (.refl _ _) (StepS.of_ext x fp) (sat.ext x)
end
section
variable {X : Cx} {W : WX} {S : Nat → Bool} {st : Stmt} {sts : List Stmt} {e : Expr} {pos : Pos} {fs gs : Ev → SR}
def sSkip (env : Ev) : SR := .nx env
def sSeq (f g : Ev → SR) (env : Ev) : SR := (f env).andThen g
theorem dss_nil : DSs X W S [] sSkip := ⟨_, pss_nil, fun F H σ env fp D sat h => h σ F H fp (.refl _ _) (StepS.of_ext (.refl sat.fh) fp) sat⟩
theorem dss_one (h : DS X W S st fs) : DSs X W S [st] fs := by
  obtain ⟨t, p, s⟩ := h
  exact ⟨_, pss_one p, s⟩
theorem seq_sm {t u : TS} (s : SmS X W S t fs) (s' : SmS X W S u gs) : SmS X W S (tSeq t u) (sSeq fs gs) := by
  intro F H σ env fp D sat h
  refine s F H σ env fp _ sat ?_
  unfold sSeq at h
  cases e : fs env with
  | no => rw [e] at h; exact h
  | nx env1 =>
    rw [e] at h
    exact fun σ1 F1 H1 fp1 o1 st1 sat1 => s' F1 H1 σ1 env1 fp1 D sat1 (PostS.step (show PostS X W S σ F H fp D (gs env1) from h) o1 st1)
  | bk env1 => rw [e] at h; exact h
  | ct env1 => rw [e] at h; exact h
  | rt r env1 => rw [e] at h; exact h
  | ex c env1 => rw [e] at h; exact h
theorem dss_cons (h : DS X W S st fs) (h2 : DSs X W S sts gs) : DSs X W S (st :: sts) (sSeq fs gs) := by
  obtain ⟨t, p, s⟩ := h
  obtain ⟨t', p', s'⟩ := h2
  exact ⟨_, pss_cons p p', seq_sm s s'⟩
def sCont (env : Ev) : SR := .ct env
theorem ds_cont : DS X W S (.Continue pos) sCont := ⟨_, ps_continue, fun F H σ env fp D sat h => h σ F H fp (.refl _ _) (StepS.of_ext (.refl sat.fh) fp) sat⟩
/-- name = e -/
def sSet (i : Nat) (f : Ev → R Ow) (env : Ev) : SR := (f env).st env fun r => if i < env.length then .nx (env.set i (some r)) else .no
theorem fresh_dj {K : Kw} {H F' H' : Hp} {F : Hp} {σ : L2.St} {env : Ev} {fp fx : List Addr} (sat : Sat K F H σ env fp) (n : ∀ b ∈ fx, H b = none) : ∀ b ∈ fx, b ∉ fp := fun b hb z => by
  obtain ⟨_, vs, e⟩ := sat.en.there b z
  rw [n b hb] at e
  cases e
theorem put_step {K : Kw} {F H F1 H1 : Hp} {σ : L2.St} {env : Ev} {fp fx : List Addr} {i : Nat} {v : V} {r : Ow} (sat : Sat K F H σ env fp) (x : Ext F H F1 H1) (h : OwnAt K F1 H1 v r fx) (nd : fx.Nodup) (n : ∀ b ∈ fx, H b = none) (hi : i < env.length) :
    ∃ fp', StepS F H fp F1 H1 fp' ∧ Sat K F1 H1 (σ.set i (some v)) (env.set i (some r)) fp' := by
  obtain ⟨fp', s', h'⟩ := (sat.ext x).put hi h nd (fresh_dj (F' := F) (H' := H) sat n)
  exact ⟨fp', ⟨x.ff, fun b o e _ => x.hh b o e, fun b o e => (x.fn b o e).imp id .inr, fun b hb => (h' b hb).elim (fun z => .inr (n b z)) .inl⟩, s'⟩
theorem ds_set {f : Ev → R Ow} {x : Str} {pos' : Pos} (i : Nat) (hN : X.N.Nodup) (he : DE X W e f) (hi : X.N[i]? = some x := by rfl) (hx : Loc X.env.scope x := by first | exact Or.inl rfl | exact Or.inr rfl)
    (hs : swapsWith e (some (.Name x pos')) pos.line X.env = pure false := by rfl) (hf : X.fn x = true ∨ X.env.scope.names.lookup x = some .local := by first | exact .inl rfl | exact .inr rfl | assumption) (hS : S i = true := by rfl) : DS X W S (.Assign [.Name x pos'] e pos) (sSet i f) := by
  obtain ⟨t, p, s⟩ := he
  refine ⟨_, ps_set hN hi hx p hs hf, fun F H σ env fp D sat h => ?_⟩
  refine s F H σ env fp _ sat ?_
  unfold sSet at h
  cases e : f env with
  | no => rw [e] at h; exact h
  | ex c => rw [e] at h; exact fun C F' H' m x => h C σ F' H' fp m (.refl _ _) (StepS.of_ext x fp) (sat.ext x)
  | ok r =>
    rw [e] at h
    intro v F' H' x ⟨fx, q, nd, n⟩
    have h' : PostS X W S σ F H fp D (if i < env.length then .nx (env.set i (some r)) else .no) := h
    split at h'
    · obtain ⟨fp', s1, s2⟩ := put_step sat x q nd n ‹_›
      exact h' _ F' H' fp' (.set hS _) s1 s2
    · exact h'.elim
/-- targets = e, e frozen -/
def sAsg (g : D → Ev → Option Ev) (f : Ev → R D) (env : Ev) : SR := (f env).st env fun d => match g d env with
  | some env' => .nx env'
  | none => .no
theorem ds_asg {f : Ev → R D} {g : D → Ev → Option Ev} {tg : Expr} {ix : List Nat} (he : DF X W e f) (hg : DG X tg ix g) (hs : swapsWithSole [tg] e pos.line X.env = pure false := by rfl) (hw : swappedStores [tg] e X.env = pure none := by rfl)
    (h1 : (assignEach [tg] X.env).map (·.2) = [assign tg X.env] := by rfl) (hS : ix.all S = true := by rfl) : DS X W S (.Assign [tg] e pos) (sAsg g f) := by
  obtain ⟨t, p, s⟩ := he
  refine ⟨_, ps_asg p hg hs hw h1, fun F H σ env fp D sat h => ?_⟩
  refine s.st sat h fun d v F1 H1 sat1 q _ h1 => ?_
  split at h1
  · rename_i env' e
    exact ⟨F1, env, fp, d, env', sat1, q, e, fun σ' fp' sat' sub off => h1 σ' F1 H1 fp' (.of off hS) ((StepS.of_ext (.refl sat1.fh) fp).subset sub) sat'⟩
  · exact h1.elim
/-- an expression whose value is dropped -/
def sDrop (f : Ev → R D) (env : Ev) : SR := (f env).st env fun _ => .nx env
theorem ds_expr {f : Ev → R D} (he : DF X W e f) (hs : swapsWith e none pos.line X.env = pure false := by rfl) : DS X W S (.Expr e pos) (sDrop f) := by
  obtain ⟨t, p, s⟩ := he
  refine ⟨_, ps_expr p hs, fun F H σ env fp D sat h => ?_⟩
  exact s.st sat h fun d v F1 H1 sat1 q _ h1 => h1 σ F1 H1 fp (.refl _ _) (StepS.of_ext (.refl sat1.fh) fp) sat1
def sRet (f : Ev → R Ow) (env : Ev) : SR := (f env).st env fun r => .rt r env
theorem ds_ret {f : Ev → R Ow} (he : DE X W e f) : DS X W S (.Return (some e) pos) (sRet f) := by
  obtain ⟨t, p, s⟩ := he
  refine ⟨_, ps_ret p, fun F H σ env fp D sat h => ?_⟩
  refine s F H σ env fp _ sat ?_
  unfold sRet at h
  cases e : f env with
  | no => rw [e] at h; exact h
  | ex c => rw [e] at h; exact fun C F' H' m x => h C σ F' H' fp m (.refl _ _) (StepS.of_ext x fp) (sat.ext x)
  | ok r =>
    rw [e] at h
    intro v F' H' x ⟨fx, q, nd, n⟩
    have dj := fresh_dj (F' := F) (H' := H) sat n
    refine h v σ F' H' fx fp (.refl _ _) ⟨x.ff, fun b o e _ => x.hh b o e, fun b o e => (x.fn b o e).imp id .inr, fun b hb => ?_⟩ (sat.ext x) q ?_
    · rcases List.mem_append.mp hb with z | z
      · exact .inr (n b z)
      · exact .inl z
    · rw [List.nodup_append]; exact ⟨nd, sat.nd, fun a ha b hb e => dj a ha (e ▸ hb)⟩
def sRetN (env : Ev) : SR := .rt (.d .none) env
/-- return x, x given away -/
def sRetV (i : Nat) (env : Ev) : SR := match env[i]? with
  | some (some o) => .rt o (env.set i none)
  | _ => .no
theorem ds_retV (i : Nat) {x : Str} {pos' : Pos} (hN : X.N[i]? = some x := by rfl) (hv : Vis X.env.scope x := by first | exact Or.inl rfl | exact Or.inr (Or.inl rfl) | exact Or.inr (Or.inr rfl)) (hd : (x == ("__debug__" : Str)) = false := by decide)
    (hcd : (x == ("__classdict__" : Str)) = false := by decide) : DS X W S (.Return (some (.Name x pos')) pos) (sRetV i) := by
  refine ⟨_, ps_ret (pe_var hN hv hd hcd), fun F H σ env fp D sat h => ?_⟩
  unfold sRetV at h
  split at h
  · rename_i o he
    have hi : i < env.length := (List.getElem?_eq_some_iff.mp he).1
    obtain ⟨fr, fo, a1, a2, a3, a3', a4, a5, a6⟩ := sat.en.put hi sat.nd
    obtain ⟨v, e1, e2⟩ := a5 o he
    have e3 := (a6 F H [] [] (StepS.of_ext (.refl sat.fh) []) fun _ _ => by simp).1 (some v)
    have es : σ.set i (some v) = σ := by
      refine List.ext_getElem? fun j => ?_
      by_cases hj : i = j
      · subst hj
        rw [List.getElem?_set_self (List.getElem?_eq_some_iff.mp e1).1]
        exact e1.symm
      · rw [List.getElem?_set_ne hj]
    rw [es] at e3
    refine ⟨v, e1, h v _ F H fo fr (.refl _ _) ((StepS.of_ext (.refl sat.fh) fp).subset fun b hb => ?_) ⟨sat.fh, e3, a3⟩ e2 ?_⟩
    · exact (List.mem_append.mp hb).elim (a2 b) (a1 b)
    · rw [List.nodup_append]; exact ⟨a3', a3, fun a ha b hb e => a4 a ha (e ▸ hb)⟩
  · exact h.elim
/-- a def's own list made data, ahead of a statement -/
def frzV (i : Nat) (env : Ev) : Ev := match env[i]? with
  | some (some o) => env.set i (some (.d (viewD o)))
  | _ => env
theorem frz_sat {K : Kw} {F H : Hp} {σ : L2.St} {env : Ev} {fp : List Addr} (i : Nat) (sat : Sat K F H σ env fp) : ∃ F' fp', StepS F H fp F' H fp' ∧ Sat K F' H σ (frzV i env) fp' := by
  unfold frzV
  split
  · rename_i o he
    have hi : i < env.length := (List.getElem?_eq_some_iff.mp he).1
    obtain ⟨fr, fo, a1, a2, a3, a3', a4, a5, a6⟩ := sat.en.put hi sat.nd
    obtain ⟨v, e1, e2⟩ := a5 o he
    have nx : ∀ b ∈ fo, F b = none := fun b hb => (OwnAt.there _ _ _ e2 b hb).1
    have st : StepS F H fo (frzAt F H fo) H [] := ⟨frzAt_same nx, fun b o e _ => e, fun b o e => (frzAt_of e).imp id .inl, fun b z => nomatch z⟩
    obtain ⟨fp', b1, b2, b3⟩ := (a6 (frzAt F H fo) H fo [] st fun b hb z => a4 b z hb).2 v _ [] (.d (OwnAt.frz nx _ _ _ e2 fun _ z => z)) List.nodup_nil (fun _ z => nomatch z)
    have es : σ.set i (some v) = σ := by
      refine List.ext_getElem? fun j => ?_
      by_cases hj : i = j
      · subst hj
        rw [List.getElem?_set_self (by rw [sat.en.len]; exact hi)]
        exact e1.symm
      · rw [List.getElem?_set_ne hj]
    rw [es] at b3
    exact ⟨_, fp', ⟨frzAt_same nx, fun b o e _ => e, fun b o e => (frzAt_of e).imp id fun z => .inl (a2 b z), fun b hb => .inl ((b2 b hb).elim (fun z => nomatch z) (a1 b))⟩, ⟨frzAt_in sat.fh, b3, b1⟩⟩
  · exact ⟨F, fp, StepS.of_ext (.refl sat.fh) fp, sat⟩
def sFrz (i : Nat) (f : Ev → SR) (env : Ev) : SR := f (frzV i env)
theorem frz_sm {t : TS} (i : Nat) (s : SmS X W S t fs) : SmS X W S t (sFrz i fs) := by
  intro F H σ env fp D sat h
  obtain ⟨F', fp', s1, s2⟩ := frz_sat i sat
  exact s F' H σ _ fp' D s2 (PostS.step h (.refl _ _) s1)
theorem ds_frz (i : Nat) (h : DS X W S st fs) : DS X W S st (sFrz i fs) := by
  obtain ⟨t, p, s⟩ := h
  exact ⟨t, p, frz_sm i s⟩
def sIf (c : Ev → R Bool) (f g : Ev → SR) (env : Ev) : SR := (c env).st env fun b => if b = true then f env else g env
theorem ds_if {c : Expr} {a b : List Stmt} {fc : Ev → R Bool} (hc : DT X W c fc) (ha : DSs X W S a fs) (hb : DSs X W S b gs) : DS X W S (.If c a b pos) (sIf fc fs gs) := by
  obtain ⟨t, p, s⟩ := hc
  obtain ⟨ta, pa, sa⟩ := ha
  obtain ⟨tb, pb, sb⟩ := hb
  refine ⟨_, ps_if p pa pb, fun F H σ env fp D sat h => ?_⟩
  refine s.st sat h fun k v F1 H1 sat1 q _ h1 => ?_
  obtain rfl : v = k := q
  cases v with
  | true => exact sa F1 H1 σ env fp D sat1 h1
  | false => exact sb F1 H1 σ env fp D sat1 h1
/-- for target in ..: body -/
def forL (g : D → Ev → Option Ev) (f : Ev → SR) : List D → Ev → SR
  | [], env => .nx env
  | d :: ds, env => match g d env with
    | none => .no
    | some env1 => match f env1 with
      | .nx env2 => forL g f ds env2
      | .ct env2 => forL g f ds env2
      | .bk env2 => .nx env2
      | .rt r env2 => .rt r env2
      | .ex c env2 => .ex c env2
      | .no => .no
def sFor (it : Ev → R (List D)) (g : D → Ev → Option Ev) (f : Ev → SR) (env : Ev) : SR := (it env).st env fun ds => forL g f ds env
theorem ds_for {tg iter : Expr} {body : List Stmt} {fi : Ev → R (List D)} {g : D → Ev → Option Ev} (hp : PassesOwn (model X.prog X.w) X.A X.env X.xe) (hc : X.calm = true) {ix : List Nat} (hi : DI X W tg iter fi) (hg : DG X tg ix g) (hb : DSs X W S body fs)
    (hs : ∀ x, foldedSetIterable iter X.env x = pure x := by intro _; rfl) (hS : ix.all S = true := by rfl) : DS X W S (.For tg iter body [] pos) (sFor fi g fs) := by
  obtain ⟨wi, pi, si⟩ := hi
  obtain ⟨tb, pb, sb⟩ := hb
  refine ⟨_, ps_for hp hc pi hg pb hs, fun F H σ env fp D sat h => ?_⟩
  refine si.st sat h fun items J F1 H1 sat1 wk _ h1 => ?_
  have wk : WalkF X.KK J F1 items := wk
  refine ⟨fun i m σ' H' => m = items.length - i ∧ i ≤ items.length ∧ ∃ F' env' fp', Same F1 F' ∧ Sat X.KK F' H' σ' env' fp' ∧ PostS X W S σ' F' H' fp' D (forL g fs (items.drop i) env'),
    ⟨items.length, by simp, Nat.zero_le _, F1, env, fp, Same.refl _, sat1, h1⟩, ?_⟩
  rintro i m σ' H' ⟨rfl, hi, F', env', fp', st, sat', h2⟩
  by_cases hlt : i < items.length
  · refine .inr ⟨wk.go i F' H' hlt st sat'.fh, fun σ2 H2 => ∃ F2 env2 fp2, Same F1 F2 ∧ Sat X.KK F2 H2 σ2 env2 fp2 ∧ PostS X W S σ2 F2 H2 fp2 D (forL g fs (items.drop (i + 1)) env2), ?_, ?_⟩
    · rintro σ2 H2 ⟨F2, env2, fp2, a, b, c⟩
      exact ⟨items.length - (i + 1), by omega, rfl, hlt, F2, env2, fp2, a, b, c⟩
    · intro x H3 y
      obtain ⟨d, F3, e1, x3, dp⟩ := wk.yld i F' H' x H3 hlt st sat'.fh y
      have ed : items.drop i = d :: items.drop (i + 1) := by
        rw [List.drop_eq_getElem_cons hlt]
        have : items[i] = d := by rw [List.getElem?_eq_getElem hlt] at e1; exact Option.some.inj e1
        rw [this]
      rw [ed] at h2
      unfold forL at h2
      cases eg : g d env' with
      | none => rw [eg] at h2; exact h2.elim
      | some env1 =>
        rw [eg] at h2
        simp only at h2
        refine ⟨F3, env', fp', d, env1, sat'.ext x3, dp, eg, fun σ4 fp4 sat4 sub4 off4 => ?_⟩
        have st4 : StepS F' H' fp' F3 H3 fp4 := (StepS.of_ext x3 fp').subset sub4
        have h4 := PostS.step h2 (.of off4 hS) st4
        refine sb F3 H3 σ4 env1 fp4 _ sat4 ?_
        cases ef : fs env1 with
        | no => rw [ef] at h4; exact h4
        | nx env2 => rw [ef] at h4; exact fun σ5 F5 H5 fp5 o5 s5 sat5 => ⟨F5, env2, fp5, st.trans (x3.ff.trans s5.ff), sat5, PostS.step h4 o5 s5⟩
        | ct env2 => rw [ef] at h4; exact fun σ5 F5 H5 fp5 o5 s5 sat5 => ⟨F5, env2, fp5, st.trans (x3.ff.trans s5.ff), sat5, PostS.step h4 o5 s5⟩
        | bk env2 => rw [ef] at h4; exact h4
        | rt r env2 => rw [ef] at h4; exact h4
        | ex c env2 => rw [ef] at h4; exact h4
  · have e : i = items.length := by omega
    subst e
    rw [List.drop_length] at h2
    exact .inl ⟨wk.stop F' H' st sat'.fh, h2 σ' F' H' fp' (.refl _ _) (StepS.of_ext (.refl sat'.fh) fp') sat'⟩
/-- while c: body, at most n turns -/
def whileN (c : Ev → R Bool) (f : Ev → SR) : Nat → Ev → SR
  | 0, _ => .no
  | n + 1, env => (c env).st env fun b => if b = true then (match f env with
      | .nx env2 => whileN c f n env2
      | .ct env2 => whileN c f n env2
      | .bk env2 => .nx env2
      | .rt r env2 => .rt r env2
      | .ex c env2 => .ex c env2
      | .no => .no) else .nx env
theorem ds_while {c : Expr} {body : List Stmt} {fc : Ev → R Bool} (n : Nat) (hp : PassesOwn (model X.prog X.w) X.A X.env X.xe) (hc : DT X W c fc) (hb : DSs X W S body fs) : DS X W S (.While c body [] pos) (whileN fc fs n) := by
  obtain ⟨tc, pc, sc⟩ := hc
  obtain ⟨tb, pb, sb⟩ := hb
  refine ⟨_, ps_while hp pc pb, fun F H σ env fp D sat h => ?_⟩
  refine ⟨fun m σ' H' => ∃ F' env' fp', Sat X.KK F' H' σ' env' fp' ∧ PostS X W S σ' F' H' fp' D (whileN fc fs m env'), ⟨n, F, env, fp, sat, h⟩, ?_⟩
  rintro m σ' H' ⟨F', env', fp', sat', h2⟩
  cases m with
  | zero => exact h2.elim
  | succ m =>
    unfold whileN at h2
    refine sc.st sat' h2 fun k v F1 H1 sat1 q x1 h3 => ?_
    obtain rfl : v = k := q
    cases v with
    | false => exact h3 σ' F1 H1 fp' (.refl _ _) (StepS.of_ext (.refl sat1.fh) fp') sat1
    | true =>
      rw [if_pos rfl] at h3 ⊢
      refine ⟨fun σ5 H5 => ∃ F5 env2 fp5, Sat X.KK F5 H5 σ5 env2 fp5 ∧ PostS X W S σ5 F5 H5 fp5 D (whileN fc fs m env2), fun σ5 H5 z => ⟨m, Nat.lt_succ_self m, z⟩, ?_⟩
      refine sb F1 H1 σ' env' fp' _ sat1 ?_
      cases ef : fs env' with
      | no => rw [ef] at h3; exact h3
      | nx env2 => rw [ef] at h3; exact fun σ5 F5 H5 fp5 o5 s5 sat5 => ⟨F5, env2, fp5, sat5, PostS.step h3 o5 s5⟩
      | ct env2 => rw [ef] at h3; exact fun σ5 F5 H5 fp5 o5 s5 sat5 => ⟨F5, env2, fp5, sat5, PostS.step h3 o5 s5⟩
      | bk env2 => rw [ef] at h3; exact h3
      | rt r env2 => rw [ef] at h3; exact h3
      | ex c env2 => rw [ef] at h3; exact h3
end
end Mir
end
set_option Elab.async false
set_option linter.all false
set_option maxRecDepth 100000
set_option maxHeartbeats 4000000
noncomputable section
namespace Mir
open PySem PySem.Spec L2

def PostF (K : Kw) (mg : Str → Option Value) (F H : Hp) : R Ow → VK → XK → Prop
  | .no, _, _ => False
  | .ok r, Q, _ => ∀ v F' H', Ext F H F' H' → POw K H r v F' H' → Q v H'
  | .ex c, _, E => ∀ C F' H', mg c = some (.ref C) → Ext F H F' H' → E (.ref C) none H'
def spM (K : Kw) (mg : Str → Option Value) (n : Nat) (m : List D → R Ow) : Sp := fun vs H Q E => ∃ F ds, Same F H ∧ DpAll K F vs ds ∧ ds.length = n ∧ PostF K mg F H (m ds) Q E
theorem spM_len {K : Kw} {mg : Str → Option Value} {n : Nat} {m : List D → R Ow} {vs : List V} {H : Hp} {Q : VK} {E : XK} (h : spM K mg n m vs H Q E) : vs.length = n := by
  obtain ⟨F, ds, _, h1, h2, _⟩ := h
  rw [DpAll.len h1, h2]
def envOf (k : Nat) (ds : List D) : Ev := ds.map (fun d => some (Ow.d d)) ++ List.replicate k none
def runB (k : Nat) (f : Ev → SR) (ds : List D) : R Ow := match f (envOf k ds) with
  | .nx _ => .ok (.d .none)
  | .rt r _ => .ok r
  | .ex c _ => .ex c
  | _ => .no
theorem env_start {K : Kw} {F H : Hp} (k : Nat) : ∀ {vs : List V} {ds : List D}, DpAll K F vs ds → EnvAt K F H (vs.map some ++ List.replicate k none) (envOf k ds) []
  | vs, [], h => by
    cases h
    show EnvAt K F H (List.replicate k none) (List.replicate k none) []
    induction k with
    | zero => exact .nil
    | succ k ih => exact .non ih
  | vs, d :: ds, h => by
    cases h with
    | cons h1 h2 => exact .som (fp := []) (.d h1) (env_start k h2)
section
variable {P : Program} {w : World} {K : PySem.W.Frag} {mg : Str → Option Value} {base : Heap}
theorem mk_fn {x qual : Str} {st : Stmt} {f : Addr} {fd : FuncData} {N ps : List Str} {k l : Nat} {fb : Ev → SR} {m : List D → R Ow} (F : Fun K x qual st f fd) (S : FnScope N ps (defScope st)) (hl : N.length = ps.length + l) (hm : ∀ ds, m ds = runB l fb ds)
    (hb : ∀ (cdv : Value) (A : Around) (outer : List Env) (s : Shared) (H : Hp) (E : XK), Room k (A.deeper (PyProof.Rows.envOfC qual (defScope st) s.heap.objs.size f cdv)) →
      DSs (cxOf (L2.CX P w) P w K mg base N qual (defScope st) f cdv A outer s H E) (fun cls d _ H => E cls d H) (fun _ => true) (defBody st) fb) : FnOk P w K mg base (L2.CX P w) (k + 1) f fd ps (spM ⟨K, w⟩ mg ps.length m) := by
  refine F.okX S (fun vs H Q E h => spM_len h) (fun cdv A outer s H vs Q E hr h => ?_)
  obtain ⟨t, p, sm⟩ := hb cdv A outer s H E hr
  refine ⟨t, p, ?_⟩
  have hlen := spM_len h
  obtain ⟨F0, ds, s1, s2, s3, s4⟩ := h
  have e0 : start N vs = vs.map some ++ List.replicate l none := by
    show vs.map some ++ List.replicate (N.length - vs.length) none = _
    rw [hl, hlen, Nat.add_sub_cancel_left]
  rw [e0]
  have sat : Sat ⟨K, w⟩ F0 H (vs.map some ++ List.replicate l none) (envOf l ds) [] := ⟨s1, env_start l s2, List.nodup_nil⟩
  rw [hm] at s4
  unfold runB at s4
  have ext : ∀ {F' H' : Hp} {fp' : List Addr}, StepS F0 H [] F' H' fp' → Same F' H' → Ext F0 H F' H' := fun st sf => ⟨st.ff, fun b o e => st.fr b o e (by simp), fun b o e => (st.fn b o e).imp id fun z => z.elim (fun z => nomatch z) id, sf⟩
  refine sm F0 H _ _ [] _ sat ?_
  cases e : fb (envOf l ds) with
  | no => rw [e] at s4; exact s4
  | bk env => rw [e] at s4; exact s4.elim
  | ct env => rw [e] at s4; exact s4.elim
  | nx env => rw [e] at s4; exact fun σ' F' H' fp' _ st sat' => s4 .non F' H' (ext st sat'.fh) (own_d .non)
  | rt r env =>
    rw [e] at s4
    intro v σ' F' H' fx fp' _ st sat' ow nd
    refine s4 v F' H' (ext st sat'.fh) ⟨fx, ow, (List.nodup_append.mp nd).1, fun b hb => ?_⟩
    exact (st.sub b (List.mem_append_left _ hb)).elim (fun z => nomatch z) id
  | ex c env => rw [e] at s4; exact fun C σ' F' H' fp' m _ st sat' => s4 C F' H' m (ext st sat'.fh)
end
section
variable {X : Cx} {W : WX} {e : Expr} {es : List Expr} {pos p : Pos}
theorem de_call {k n : Nat} {f : Addr} {fd : FuncData} {ps : List Str} {x : Str} {m : List D → R Ow} {fa : Ev → R (List D)} (F : FnOk X.prog X.w X.K X.mg X.base (L2.CX X.prog X.w) k f fd ps (spM X.KK X.mg n m)) (tk : Takes X W) (hr : Room k X.A) (hg : Gl X x) (hm : X.mg x = some (.ref f))
    (hk : PySem.W.keepIn X.K (.ref f) = true) (hb : Binds X.K fd ps []) (ha : DA X W (e :: es) fa) (hn : ∀ ds env, fa env = .ok ds → ds.length = n)
    (hdb : (x == ("__debug__" : Str)) = false := by decide) (he : starEach (e :: es) X.env = (false, eval e X.env) :: starEach es X.env := by rfl) (hpl : (backTo pos (starEach es X.env)).any (·.1) = false := by rfl) :
    DE X W (.Call (.Name x p) (e :: es) [] pos) (eB fa m) := by
  obtain ⟨t, pa, s⟩ := ha
  refine ⟨_, pe_callS F hr hg hm hk hb (fun σ => passAt tk σ) pa hdb he hpl, fun F0 H σ env fp Q sat hp => ?_⟩
  refine s.choose sat hp (fun z => z _) fun ds ed k => k _ fun vs F1 H1 sat1 q _ h1 => ?_
  refine ⟨F1, ds, sat1.fh, q, hn ds env ed, ?_⟩
  cases em : m ds with
  | no => rw [em] at h1; exact h1
  | ok r => rw [em] at h1; exact h1
  | ex c => rw [em] at h1; exact h1
theorem aNil_len {ds : List D} {env : Ev} (h : aNil env = .ok ds) : ds.length = 0 := by cases h; rfl
theorem aCons_len {n : Nat} {f : Ev → R D} {g : Ev → R (List D)} (ih : ∀ ds env, g env = .ok ds → ds.length = n) : ∀ ds env, aCons f g env = .ok ds → ds.length = n + 1 := fun ds env h => by
  unfold aCons at h
  cases e1 : f env with
  | no => rw [e1] at h; cases h
  | ex c => rw [e1] at h; cases h
  | ok d =>
    rw [e1] at h
    have h' : (g env).map (fun ds => d :: ds) = .ok ds := h
    cases e2 : g env with
    | no => rw [e2] at h'; cases h'
    | ex c => rw [e2] at h'; cases h'
    | ok es =>
      rw [e2] at h'
      cases h'
      simp [ih es env e2]

/-- the reading that a mirror is -/
def tOf (K : Kw) (Pst : Hp → Hp → L2.St → R α → (β → Hp → Prop) → Prop) (f : Ev → R α) : L2.St → Hp → (β → Hp → Prop) → Prop := fun σ H Q => ∃ F env fp, Sat K F H σ env fp ∧ Pst F H σ (f env) Q
def W0 : WX := fun _ _ _ _ => False
theorem PE.imp {X : Cx} {e : Expr} {t t' : TE} (h : PE X e t) (k : ∀ σ H Q, t' σ H Q → t σ H Q) : PE X e t' := ⟨fun pins s σ H Q I q => h.run pins s σ H Q I (k σ H Q q)⟩
theorem PTs.imp {X : Cx} {e : List Expr} {t t' : TT} (h : PTs X e t) (k : ∀ σ H Q, t' σ H Q → t σ H Q) : PTs X e t' := ⟨fun pins s σ H Q I q => h.run pins s σ H Q I (k σ H Q q)⟩
theorem DE.can {X : Cx} {W : WX} {e : Expr} {f : Ev → R Ow} (h : DE X W e f) : PE X e (tOf X.KK (Post X W (POw X.KK)) f) := by
  obtain ⟨t, p, s⟩ := h
  refine PE.imp p ?_
  rintro σ H Q ⟨F, env, fp, sat, h⟩
  exact s F H σ env fp Q sat h
/-- a clause's tests -/
def DTs (X : Cx) (W : WX) (ifs : List Expr) (f : Ev → R Bool) : Prop := ∃ t, PTs X ifs t ∧ Sm X W PTb t f
def cYes (_ : Ev) : R Bool := .ok true
theorem dts_nil : DTs X W [] cYes := ⟨_, pts_nil, fun F H σ env fp Q sat h => h true F H (.refl sat.fh) rfl⟩
theorem DTs.can {X : Cx} {W : WX} {e : List Expr} {f : Ev → R Bool} (h : DTs X W e f) : L2.PTs X e (tOf X.KK (Post X W PTb) f) := by
  obtain ⟨t, p, s⟩ := h
  refine PTs.imp p ?_
  rintro σ H Q ⟨F, env, fp, sat, h⟩
  exact s F H σ env fp Q sat h
def wipeE (env : Ev) : List Nat → Ev
  | [] => env
  | v :: vs => (wipeE env vs).set v none
theorem set_none_len {α : Type} {l : List (Option α)} {i : Nat} (h : ¬ i < l.length) (x : Option α) : l.set i x = l := List.set_eq_of_length_le (by omega)
theorem wipe_sat {K : Kw} {F H : Hp} {σ : L2.St} {env : Ev} {fp : List Addr} (sat : Sat K F H σ env fp) : ∀ vs : List Nat, ∃ fp', Sat K F H (wipe σ vs) (wipeE env vs) fp' ∧ ∀ b ∈ fp', b ∈ fp
  | [] => ⟨fp, sat, fun _ z => z⟩
  | v :: vs => by
    obtain ⟨fp1, s1, h1⟩ := wipe_sat sat vs
    by_cases hi : v < (wipeE env vs).length
    · obtain ⟨fr, fo, a1, a2, a3, a3', a4, a5, a6⟩ := s1.en.put hi s1.nd
      have e3 := (a6 F H [] [] (StepS.of_ext (.refl sat.fh) []) fun _ _ => by simp).1 none
      exact ⟨fr, ⟨sat.fh, e3, a3⟩, fun b hb => h1 b (a1 b hb)⟩
    · refine ⟨fp1, ?_, h1⟩
      show Sat K F H ((wipe σ vs).set v none) ((wipeE env vs).set v none) fp1
      rw [set_none_len hi, set_none_len (by rw [s1.en.len]; exact hi)]
      exact s1
theorem wipe_get : ∀ (σ : L2.St) (vs : List Nat) (j : Nat), (wipe σ vs)[j]? = if j ∈ vs then (σ[j]?).map (fun _ => none) else σ[j]?
  | σ, [], j => by simp [wipe]
  | σ, v :: vs, j => by
    show ((wipe σ vs).set v none)[j]? = _
    by_cases hj : v = j
    · subst hj
      by_cases hl : v < (wipe σ vs).length
      · rw [List.getElem?_set_self hl]
        rw [wipe_length] at hl
        simp [List.getElem?_eq_getElem hl]
      · rw [set_none_len hl, wipe_get σ vs v]
        rw [wipe_length] at hl
        have e : σ[v]? = none := List.getElem?_eq_none (by omega)
        simp [e]
    · rw [List.getElem?_set_ne hj, wipe_get σ vs j]
      simp [Ne.symm hj]
theorem wipe_off {σ σ' : L2.St} {ix vs : List Nat} (h : Off ix (wipe σ vs) σ') (hs : ∀ i ∈ ix, i ∈ vs) : wipe σ' vs = wipe σ vs := by
  refine List.ext_getElem? fun j => ?_
  rw [wipe_get σ', wipe_get σ]
  by_cases hj : j ∈ vs
  · rw [if_pos hj, if_pos hj]
    have hl := h.1
    rw [wipe_length] at hl
    by_cases hb : j < σ.length
    · rw [List.getElem?_eq_getElem hb, List.getElem?_eq_getElem (by omega : j < σ'.length)]; rfl
    · rw [List.getElem?_eq_none (by omega), List.getElem?_eq_none (by omega)]
  · rw [if_neg hj, if_neg hj, h.2 j fun z => hj (hs j z), wipe_get σ, if_neg hj]
def noEx {α : Type} : R α → R α
  | .ex _ => .no
  | r => r
@[simp] theorem noEx_ok {α : Type} (a : α) : noEx (.ok a) = .ok a := rfl
def lcR (g : D → Ev → Option Ev) (c : Ev → R Bool) (e : Ev → R Ow) (env : Ev) : List D → R (List Ow)
  | [] => .ok []
  | d :: ds => match g d env with
    | none => .no
    | some env1 => (noEx (c env1)).bind fun b => if b = true then (noEx (e env1)).bind fun r => (lcR g c e env ds).map fun rs => r :: rs else lcR g c e env ds
def eLc (it : Ev → R (List D)) (g : D → Ev → Option Ev) (c : Ev → R Bool) (e : Ev → R Ow) (vs : List Nat) (env : Ev) : R Ow := (it env).bind fun ds => guard (ds.length ≤ sizeLine) ((noEx (lcR g c e (wipeE env vs) ds)).map Ow.l)
theorem OwnAll.snoc {K : Kw} {F H : Hp} {v : V} {r : Ow} {fr : List Addr} : ∀ {os : List Ow} {vs : List V} {fp : List Addr}, OwnAll K F H vs os fp → OwnAt K F H v r fr → fp.Nodup → fr.Nodup → (∀ b ∈ fr, b ∉ fp) → ∃ fp', OwnAll K F H (vs ++ [v]) (os ++ [r]) fp' ∧ fp'.Nodup ∧ ∀ b ∈ fp', b ∈ fp ∨ b ∈ fr
  | [], _, _, h, g, n1, n2, dj => by
    cases h
    exact ⟨fr ++ [], .cons g .nil, by simpa using n2, fun b hb => .inr (by simpa using hb)⟩
  | o :: os, _, _, h, g, n1, n2, dj => by
    cases h with
    | @cons _ _ _ _ f1 fs h1 h2 =>
      rw [List.nodup_append] at n1
      obtain ⟨m1, m2, m3⟩ := n1
      obtain ⟨fp', a, b, c⟩ := OwnAll.snoc h2 g m2 n2 fun b hb z => dj b hb (List.mem_append_right _ z)
      refine ⟨f1 ++ fp', .cons h1 a, ?_, fun x hx => ?_⟩
      · rw [List.nodup_append]
        refine ⟨m1, b, fun x hx y hy e => ?_⟩
        subst e
        rcases c x hy with z | z
        · exact m3 x hx x z rfl
        · exact dj x z (List.mem_append_left _ hx)
      · rcases List.mem_append.mp hx with z | z
        · exact .inl (List.mem_append_left _ z)
        · exact (c x z).imp (List.mem_append_right _) id
theorem de_lc_core {wi : TI} {g : D → Ev → Option Ev} {fi : Ev → R (List D)} {fc : Ev → R Bool} {fe : Ev → R Ow} {ix vs : List Nat} (si : Sm X W (PIt X.KK) wi fi) (hix : ∀ i ∈ ix, i ∈ vs) :
    Sm X W (POw X.KK) (tLc wi (tgOf X.KK ix g) (tOf X.KK (Post X W0 PTb) fc) (tOf X.KK (Post X W0 (POw X.KK)) fe) vs) (eLc fi g fc fe vs) := by
  intro F H σ env fp Q sat hp
  refine si.go sat hp fun items J F1 H1 sat1 wk _ h1 => ?_
  have wk : WalkF X.KK J F1 items := wk
  obtain ⟨hz, h2⟩ := guard_post h1
  intro Dd hD
  have hD1 : F1 Dd = none := free_of sat1.fh hD
  cases el : lcR g fc fe (wipeE env vs) items with
  | no => rw [el] at h2; exact h2.elim
  | ex c => rw [el] at h2; exact h2.elim
  | ok all =>
  rw [el] at h2
  have h2 : ∀ v F' H', Ext F1 H1 F' H' → POw X.KK H1 (.l all) v F' H' → Q v H' := h2
  let Iv : Nat → Hp → Prop := fun i H' => ∃ F' acc accO fa rest, Ext F1 H1 F' H' ∧ F' Dd = none ∧ H' Dd = some (.lst acc) ∧ OwnAll X.KK F' H' acc accO fa ∧ fa.Nodup ∧ Dd ∉ fa ∧ accO.length ≤ i ∧ (∀ b ∈ fa, H1 b = none) ∧ lcR g fc fe (wipeE env vs) (items.drop i) = .ok rest ∧ all = accO ++ rest
  refine ⟨fun i m H' => m = items.length - i ∧ i ≤ items.length ∧ Iv i H', ⟨items.length, by simp, Nat.zero_le _, F1, [], [], [], all, Ext.own sat1.fh hD _, hD1, upd_same, .nil, List.nodup_nil, by simp, Nat.le_refl _, (fun b z => nomatch z), el, rfl⟩, ?_⟩
  rintro i m H' ⟨rfl, hi, F', acc, accO, fa, rest, x, fD, hDd, ow, nd, nD, hl, fr, er, ea⟩
  by_cases hlt : i < items.length
  · refine .inr ⟨wk.go i F' H' hlt x.ff x.fh, Iv (i + 1), fun H2 z => ⟨items.length - (i + 1), by omega, rfl, hlt, z⟩, fun v H3 y => ?_⟩
    obtain ⟨d, F3, e1, x3, dp⟩ := wk.yld i F' H' v H3 hlt x.ff x.fh y
    have ed : items.drop i = d :: items.drop (i + 1) := by
      rw [List.drop_eq_getElem_cons hlt]
      have : items[i] = d := by rw [List.getElem?_eq_getElem hlt] at e1; exact Option.some.inj e1
      rw [this]
    rw [ed] at er
    unfold lcR at er
    cases eg : g d (wipeE env vs) with
    | none => rw [eg] at er; cases er
    | some env1 =>
    rw [eg] at er
    simp only at er
    obtain ⟨fpw, satw, subw⟩ := wipe_sat (sat1.ext (x.trans x3)) vs
    refine ⟨F3, _, fpw, d, env1, satw, dp, eg, fun σ2 fp2 sat2 sub2 off2 => ⟨wipe_off off2 hix, F3, env1, fp2, sat2, ?_⟩⟩
    cases ec : fc env1 with
    | no => rw [ec] at er; cases er
    | ex c => rw [ec] at er; cases er
    | ok b =>
    rw [ec] at er
    simp only [noEx_ok, R.bind_ok] at er
    intro v4 F4 H4 x4 ev4
    obtain rfl : v4 = b := ev4
    have xx4 := x3.trans x4
    cases v4 with
    | false =>
      rw [if_neg Bool.false_ne_true] at er ⊢
      have g1 := x.trans xx4
      refine ⟨F4, acc, accO, fa, rest, g1, ?_, xx4.hh _ _ hDd, ow.ext xx4, nd, nD, Nat.le_succ_of_le hl, fr, er, ea⟩
      cases q : F4 Dd with
      | none => rfl
      | some u =>
        rcases xx4.fn Dd u q with z | z
        · rw [fD] at z; cases z
        · rw [hDd] at z; cases z
    | true =>
      rw [if_pos rfl] at er ⊢
      refine ⟨F4, env1, fp2, sat2.ext x4, ?_⟩
      cases ee : fe env1 with
      | no => rw [ee] at er; cases er
      | ex c => rw [ee] at er; cases er
      | ok r =>
      rw [ee] at er
      simp only [noEx_ok, R.bind_ok] at er
      intro y5 F5 H5 x5 ⟨fr5, ow5, nd5, fresh5⟩
      have xx := xx4.trans x5
      have hD5 : H5 Dd = some (.lst acc) := xx.hh _ _ hDd
      have fD5 : F5 Dd = none := by
        cases q : F5 Dd with
        | none => rfl
        | some u =>
          rcases xx.fn Dd u q with z | z
          · rw [fD] at z; cases z
          · rw [hDd] at z; cases z
      have nD5 : Dd ∉ fr5 := fun z => by
        have := fresh5 Dd z
        rw [xx4.hh _ _ hDd] at this; cases this
      cases er2 : lcR g fc fe (wipeE env vs) (items.drop (i + 1)) with
      | no => rw [er2] at er; cases er
      | ex c => rw [er2] at er; cases er
      | ok rest2 =>
      rw [er2] at er
      cases er
      have la := OwnAll.len ow
      have stp : StepS F5 H5 [Dd] F5 (upd H5 Dd (.lst (acc ++ [y5]))) [] := ⟨Same.refl _, fun b o e n => by rw [upd_ne (fun z => n (by simp [z]))]; exact e, fun b o e => .inl e, fun b z => nomatch z⟩
      obtain ⟨fa', ow', nd', sub'⟩ := OwnAll.snoc (OwnAll.keep stp _ _ _ (ow.ext xx) fun b hb => by simp; exact fun z => nD (z ▸ hb)) (OwnAt.keep stp _ _ _ ow5 fun b hb => by simp; exact fun z => nD5 (z ▸ hb)) nd nd5 fun b hb z => by
        obtain ⟨_, vs', e⟩ := OwnAll.there _ _ _ ow b z
        have := xx4.hh.free (fresh5 b hb)
        rw [e] at this; cases this
      refine ⟨acc, hD5, by omega, F5, acc ++ [y5], accO ++ [r], fa', rest2, ⟨(x.trans xx).ff, fun b o e => ?_, (x.trans xx).fn, fun b o e => ?_⟩, fD5, upd_same, ow', nd', ?_, by simp; omega, fun b hb => ?_, er2, by simp [ea]⟩
      · rw [upd_ne (ne_of_none e hD)]; exact (x.trans xx).hh b o e
      · rw [upd_ne (ne_of_none e fD5)]; exact xx.fh b o e
      · intro z
        rcases sub' _ z with q | q
        · exact nD q
        · exact nD5 q
      · rcases sub' b hb with q | q
        · exact fr b q
        · exact x.hh.free (xx4.hh.free (fresh5 b q))
  · have e : i = items.length := by omega
    subst e
    rw [List.drop_length] at er
    cases er
    refine .inl ⟨wk.stop F' H' x.ff x.fh, h2 _ F' H' x ⟨Dd :: fa, ?_, List.nodup_cons.mpr ⟨nD, nd⟩, fun b hb => ?_⟩⟩
    · rw [ea, List.append_nil]; exact .l fD hDd ow
    · rcases List.mem_cons.mp hb with z | z
      · rw [z]; exact hD
      · exact fr b z
theorem de_lc {elt tg iter : Expr} {ifs : List Expr} {scope : Scope} {own : List (Str × Nat)} {g : D → Ev → Option Ev} {fi : Ev → R (List D)} {fc : Ev → R Bool} {fe : Ev → R Ow} {ix : List Nat} (hc : X.calm = true) (hN : X.N.Nodup) (hi : DI X W tg iter fi) (ok : BlkOk X.N X.env.scope scope own)
    (hg : ∀ (s : Shared) (H : Hp) (C : Addr) (cl : List (Str × Addr)) (fp : List Addr), DG (X.blk s H scope (compEnvC scope cl C X.env) fp) tg ix g) (ht : ∀ (s : Shared) (H : Hp) (C : Addr) (cl : List (Str × Addr)) (fp : List Addr), DTs (X.blk s H scope (compEnvC scope cl C X.env) fp) W0 ifs fc)
    (he : ∀ (s : Shared) (H : Hp) (C : Addr) (cl : List (Str × Addr)) (fp : List Addr), DE (X.blk s H scope (compEnvC scope cl C X.env) fp) W0 elt fe) (hix : ∀ i ∈ ix, i ∈ own.map (·.2) := by decide) (hs : ∀ x, foldedSetIterable iter X.env x = pure x := by intro _; rfl) :
    DE X W (.ListComp elt [⟨tg, iter, ifs, 0⟩] scope pos) (eLc fi g fc fe (own.map (·.2))) := by
  obtain ⟨wi, pi, si⟩ := hi
  exact ⟨_, pe_lc (g := tgOf X.KK ix g) hc hN pi ok (fun s H C cl fp => hg s H C cl fp) (fun s H C cl fp => (ht s H C cl fp).can) (fun s H C cl fp => (he s H C cl fp).can) hs, de_lc_core si hix⟩
end
end Mir
end
set_option Elab.async false
set_option linter.all false
set_option maxRecDepth 100000
set_option maxHeartbeats 4000000
noncomputable section
namespace Mir
open PySem PySem.Spec L2

section
variable {K : Kw} {F H : Hp} {σ : L2.St} {env : Ev} {fp : List Addr}
theorem set_self {σ : L2.St} {i : Nat} {v : V} (h : σ[i]? = some (some v)) : σ.set i (some v) = σ := by
  refine List.ext_getElem? fun j => ?_
  by_cases hj : i = j
  · subst hj
    rw [List.getElem?_set_self (List.getElem?_eq_some_iff.mp h).1]
    exact h.symm
  · rw [List.getElem?_set_ne hj]
theorem mut_step {F H F1 H1 : Hp} {a : Addr} {vs vs' : List V} (x : Ext F H F1 H1) (h : H a = some (.lst vs)) : StepS F H [a] F1 (upd H1 a (.lst vs')) [] :=
  ⟨x.ff, fun b o e n => by rw [upd_ne (fun z => n (by simp [z]))]; exact x.hh b o e, fun b o e => (x.fn b o e).imp id .inr, fun b z => nomatch z⟩
theorem mut_free {F H F1 H1 : Hp} {a : Addr} {vs : List V} (x : Ext F H F1 H1) (hf : F a = none) (h : H a = some (.lst vs)) : F1 a = none := by
  cases q : F1 a with
  | none => rfl
  | some u =>
    rcases x.fn a u q with z | z
    · rw [hf] at z; cases z
    · rw [h] at z; cases z
theorem mut_same {F1 H1 : Hp} {a : Addr} {o : HO} (s : Same F1 H1) (hf : F1 a = none) : Same F1 (upd H1 a o) := fun b u e => by
  rw [upd_ne (ne_of_none e hf)]; exact s b u e
/-- the list in slot i, and what is left when it is changed -/
theorem Sat.mut (sat : Sat K F H σ env fp) {i : Nat} {os : List Ow} (hi : env[i]? = some (some (.l os))) : ∃ a vs fo, σ[i]? = some (some (.ref a)) ∧ F a = none ∧ H a = some (.lst vs) ∧ OwnAll K F H vs os fo ∧ fo.Nodup ∧ a ∉ fo ∧ (∀ b ∈ a :: fo, b ∈ fp) ∧
    ∀ F1 H1 vs' os' fo', Ext F H F1 H1 → OwnAll K F1 (upd H1 a (.lst vs')) vs' os' fo' → fo'.Nodup → (∀ b ∈ fo', b ∈ fo ∨ H b = none) → ∃ fp', StepS F H fp F1 (upd H1 a (.lst vs')) fp' ∧ Sat K F1 (upd H1 a (.lst vs')) σ (env.set i (some (.l os'))) fp' := by
  have hl : i < env.length := (List.getElem?_eq_some_iff.mp hi).1
  obtain ⟨fr, fo0, a1, a2, a3, a3', a4, a5, a6⟩ := sat.en.put hl sat.nd
  obtain ⟨v, e1, e2⟩ := a5 _ hi
  cases e2 with
  | @l a vs _ fo h1 h2 h3 =>
    obtain ⟨nd1, nd2⟩ := List.nodup_cons.mp a3'
    refine ⟨a, vs, fo, e1, h1, h2, h3, nd2, nd1, a2, fun F1 H1 vs' os' fo' x ow nd sub => ?_⟩
    have hf1 := mut_free x h1 h2
    have na' : a ∉ fo' := fun z => by
      rcases sub a z with q | q
      · exact nd1 q
      · rw [h2] at q; cases q
    have fresh : ∀ b, H b = none → b ∉ fr := fun b q z => by
      obtain ⟨_, w, e⟩ := sat.en.there b (a1 b z)
      rw [q] at e; cases e
    obtain ⟨fp', b1, b2, b3⟩ := (a6 F1 (upd H1 a (.lst vs')) [a] [] (mut_step x h2) fun b hb z => a4 b (by rw [List.mem_singleton.mp z]; exact List.mem_cons_self) hb).2 (.ref a) (.l os') (a :: fo') (.l hf1 upd_same ow) (List.nodup_cons.mpr ⟨na', nd⟩) fun b hb z => by
      rcases List.mem_cons.mp hb with q | q
      · subst q; exact a4 b List.mem_cons_self z
      · rcases sub b q with q | q
        · exact a4 b (List.mem_cons_of_mem _ q) z
        · exact fresh b q z
    rw [set_self e1] at b3
    refine ⟨fp', (mut_step x h2).mono (fun b hb => by rw [List.mem_singleton.mp hb]; exact a2 a List.mem_cons_self) |> fun s => ⟨s.ff, s.fr, s.fn, fun b hb => ?_⟩, mut_same x.fh hf1, b3, b1⟩
    rcases b2 b hb with q | q
    · rcases List.mem_cons.mp q with q | q
      · rw [q]; exact .inl (a2 a List.mem_cons_self)
      · rcases sub b q with q | q
        · exact .inl (a2 b (List.mem_cons_of_mem _ q))
        · exact .inr q
    · exact .inl (a1 b q)
/-- the items of an own list, behind a change at the list itself -/
theorem own_mut {F1 H1 : Hp} {a : Addr} {vs vs' : List V} {os : List Ow} {fo : List Addr} (x : Ext F H F1 H1) (h : H a = some (.lst vs)) (ow : OwnAll K F H vs os fo) (na : a ∉ fo) : OwnAll K F1 (upd H1 a (.lst vs')) vs os fo :=
  OwnAll.keep (mut_step x h) _ _ _ ow fun b hb z => na (by rw [← List.mem_singleton.mp z]; exact hb)
theorem own_mut1 {F1 H1 : Hp} {a : Addr} {vs vs' : List V} {v : V} {r : Ow} {fx : List Addr} (s : Same F1 H1) (hf : F1 a = none) (h : H1 a = some (.lst vs)) (ow : OwnAt K F1 H1 v r fx) (na : a ∉ fx) : OwnAt K F1 (upd H1 a (.lst vs')) v r fx :=
  OwnAt.keep (mut_step (.refl s) h) _ _ _ ow fun b hb z => na (by rw [← List.mem_singleton.mp z]; exact hb)
theorem OwnAll.get {F H : Hp} : ∀ {os : List Ow} {vs : List V} {fp : List Addr} {k : Nat} {o : Ow}, OwnAll K F H vs os fp → fp.Nodup → os[k]? = some o → ∃ (v : V) (fo fr : List Addr), vs[k]? = some v ∧ OwnAt K F H v o fo ∧ fo.Nodup ∧ fr.Nodup ∧ (∀ b ∈ fo, b ∈ fp) ∧ (∀ b ∈ fr, b ∈ fp) ∧ (∀ b ∈ fo, b ∉ fr) ∧
    ∀ F' H' fx fy v' o' fn, StepS F H fx F' H' fy → (∀ b ∈ fr, b ∉ fx) → OwnAt K F' H' v' o' fn → fn.Nodup → (∀ b ∈ fn, b ∉ fr) → ∃ fp', OwnAll K F' H' (vs.set k v') (os.set k o') fp' ∧ fp'.Nodup ∧ ∀ b ∈ fp', b ∈ fn ∨ b ∈ fr
  | [], _, _, k, o, h, nd, e => by simp at e
  | x :: os, _, _, 0, o, h, nd, e => by
    cases h with
    | @cons v vs _ _ f1 fs h1 h2 =>
      simp at e; subst e
      obtain ⟨n1, n2, n3⟩ := List.nodup_append.mp nd
      refine ⟨v, f1, fs, rfl, h1, n1, n2, fun b z => List.mem_append_left _ z, fun b z => List.mem_append_right _ z, fun b z q => n3 b z b q rfl, fun F' H' fx fy v' o' fn st dj ow nf df => ?_⟩
      refine ⟨fn ++ fs, .cons ow (OwnAll.keep st _ _ _ h2 dj), ?_, fun b hb => List.mem_append.mp hb⟩
      rw [List.nodup_append]
      exact ⟨nf, n2, fun a ha b hb e => df a ha (e ▸ hb)⟩
  | x :: os, _, _, k + 1, o, h, nd, e => by
    cases h with
    | @cons v vs _ _ f1 fs h1 h2 =>
      obtain ⟨n1, n2, n3⟩ := List.nodup_append.mp nd
      obtain ⟨v0, fo, fr, g1, g2, g3, g4, g5, g6, g7, g8⟩ := OwnAll.get (k := k) h2 n2 (by simpa using e)
      refine ⟨v0, fo, f1 ++ fr, by simpa using g1, g2, g3, ?_, fun b z => List.mem_append_right _ (g5 b z), fun b z => ?_, fun b z q => ?_, fun F' H' fx fy v' o' fn st dj ow nf df => ?_⟩
      · rw [List.nodup_append]; exact ⟨n1, g4, fun a ha b hb e => n3 a ha b (g6 b hb) e⟩
      · exact (List.mem_append.mp z).elim (List.mem_append_left _) fun z => List.mem_append_right _ (g6 b z)
      · rcases List.mem_append.mp q with q | q
        · exact n3 b q b (g5 b z) rfl
        · exact g7 b z q
      · obtain ⟨fp', c1, c2, c3⟩ := g8 F' H' fx fy v' o' fn st (fun b hb => dj b (List.mem_append_right _ hb)) ow nf fun b hb z => df b hb (List.mem_append_right _ z)
        refine ⟨f1 ++ fp', .cons (OwnAt.keep st _ _ _ h1 fun b hb => dj b (List.mem_append_left _ hb)) c1, ?_, fun b hb => ?_⟩
        · rw [List.nodup_append]
          refine ⟨n1, c2, fun a ha b hb e => ?_⟩
          subst e
          rcases c3 a hb with z | z
          · exact df a z (List.mem_append_left _ ha)
          · exact n3 a ha a (g6 a z) rfl
        · rcases List.mem_append.mp hb with z | z
          · exact .inr (List.mem_append_left _ z)
          · exact (c3 b z).imp id (List.mem_append_right _)
end
section
variable {X : Cx} {W : WX} {S : Nat → Bool} {e e1 e2 : Expr} {pos cpos apos npos : Pos} {x : Str}
def ownL (i : Nat) (env : Ev) (k : List Ow → SR) : SR := match env[i]? with
  | some (some (.l os)) => k os
  | _ => .no
theorem ownL_post {σ : L2.St} {F H : Hp} {fp : List Addr} {D : Ends} {i : Nat} {env : Ev} {k : List Ow → SR} (h : PostS X W S σ F H fp D (ownL i env k)) : ∃ os, env[i]? = some (some (.l os)) ∧ PostS X W S σ F H fp D (k os) := by
  unfold ownL at h
  split at h
  · exact ⟨_, ‹_›, h⟩
  · exact h.elim
/-- x.append(e) -/
def sApp (i : Nat) (f : Ev → R Ow) (env : Ev) : SR := ownL i env fun os => (f env).st env fun r => if os.length < sizeLine then .nx (env.set i (some (.l (os ++ [r])))) else .no
theorem ds_app {f : Ev → R Ow} (i : Nat) (he : DE X W e f) (hN : X.N[i]? = some x := by rfl) (hv : Vis X.env.scope x := by first | exact Or.inl rfl | exact Or.inr (Or.inl rfl) | exact Or.inr (Or.inr rfl)) (hd : (x == ("__debug__" : Str)) = false := by decide) (hcd : (x == ("__classdict__" : Str)) = false := by decide)
    (hbase : attributeBase (.Name x npos) "append" X.env (eval (.Name x npos) X.env) = eval (.Name x npos) X.env := by rfl)
    (hfew : ((backTo cpos (starEach [e] X.env)).all (fun x => !x.1) && (backToKw cpos (keywordEach [] X.env)).all (fun x => x.1.isSome) && decide ([e].length + ([] : List Keyword).length + (if ([] : List Keyword).isEmpty then 0 else 1) < 30)) = true := by rfl)
    (hline : (apos.endLine == cpos.line) = true := by rfl) (hs : starEach [e] X.env = (false, eval e X.env) :: starEach [] X.env := by rfl) (hplain : (backTo cpos (starEach [] X.env)).any (·.1) = false := by rfl)
    (hsw : swapsWith (.Call (.Attribute (.Name x npos) "append" apos) [e] [] cpos) none pos.line X.env = pure false := by rfl) : DS X W S (.Expr (.Call (.Attribute (.Name x npos) "append" apos) [e] [] cpos) pos) (sApp i f) := by
  obtain ⟨t, p, s⟩ := he
  refine ⟨_, ps_expr (pe_bm PySem.F.plainAttrs_list PySem.F.slot_list_append PySem.F.type_list_append mt_append (pe_var hN hv hd hcd) (pa_cons p pa_nil hs) hbase hfew hline hs hplain) hsw, fun F H σ env fp D sat h => ?_⟩
  obtain ⟨os, eo, h⟩ := ownL_post h
  obtain ⟨a, vs, fo, c1, c0, c2, c3, c4, c5, c6, c7⟩ := sat.mut eo
  refine ⟨.ref a, c1, .inl ⟨rfl, vs, SqL.of c2⟩, ?_⟩
  refine s F H σ env fp _ sat ?_
  cases ef : f env with
  | no => rw [ef] at h; exact h
  | ex c => rw [ef] at h; exact fun C F' H' m x => h C σ F' H' fp m (.refl _ _) (StepS.of_ext x fp) (sat.ext x)
  | ok r =>
    rw [ef] at h
    intro v F1 H1 x1 ⟨fx, ow, nx, fr⟩
    have h2 : PostS X W S σ F H fp D (if os.length < sizeLine then .nx (env.set i (some (.l (os ++ [r])))) else .no) := h
    split at h2
    · have la := OwnAll.len c3
      have hb := x1.hh _ _ c2
      obtain ⟨fo', g1, g2, g3⟩ := OwnAll.snoc (own_mut (vs' := vs ++ [v]) x1 c2 c3 c5) (own_mut1 x1.fh (mut_free x1 c0 c2) hb ow fun z => by rw [fr a z] at c2; cases c2) c4 nx fun b hb z => by
        obtain ⟨_, w, e⟩ := OwnAll.there _ _ _ c3 b z
        rw [fr b hb] at e; cases e
      obtain ⟨fp', st, sat'⟩ := c7 F1 H1 (vs ++ [v]) (os ++ [r]) fo' x1 g1 g2 fun b hb => (g3 b hb).imp id (fr b)
      exact ⟨a, vs, v, rfl, rfl, hb, by omega, h2 σ F1 _ fp' (.refl _ _) st sat'⟩
    · exact h2.elim
/-- x.extend(e) -/
theorem list_extW (l b : Addr) (its jts : Array Value) (n n2 : Nat) (dd2 : Option Addr) (sl2 : Array (Option Value)) (h0 : ¬(!its.isEmpty && Builtin.List.listTooLong (its.size + jts.size)) = true) (h1 : its.size ≤ sizeLine) (h2 : its.size + jts.size ≤ sizeLine + 1) :
    Meets (Builtin.«list.extend» ⟨[.ref l, .ref b], []⟩) (fun _ R s => s.heap.get? l = some { cls := .type "list", data := .seq its n } ∧ s.heap.get? b = some { cls := .type "list", dict := dd2, data := .seq jts n2, slots := sl2 } ∧ R (.ok (.ret Value.none)) { s with heap := s.heap.update l (Obj.mapSeq fun x => x ++ jts), toks := s.toks }) :=
  .of_wp fun prog w A R s h => by
    obtain ⟨hp, g, d, tk, os⟩ := s; obtain ⟨hl, hb, h⟩ := h; have f1 := AutoSeq1.idx_int; have f2 := AutoSeq1.sub_tuple_tuple; have f3 := AutoSeq1.sub_list_list; have f4 := AutoSeq1.sub_tuple_list; have f5 := AutoSeq1.sub_list_tuple; have hz' : (its ++ jts).size ≤ sizeLine + 1 := by rw [Array.size_append]; exact h2
    wp_walk using (wpAny_updateSeq hl rfl (hz := h1) (_hz' := hz')), wpAny_loadPart' hl, wpAny_loadPart' hb; exact ⟨_, rfl, h⟩
def rExtA (K : Kw) : V → List V → Hp → VK → Prop := fun x vs H Q => ∃ l b xs zs, x = .ref l ∧ vs = [.ref b] ∧ H l = some (.lst xs) ∧ SqL K H b zs ∧ xs.length + zs.length ≤ sizeLine ∧ Q .non (upd H l (.lst (xs ++ zs)))
theorem mt_extA : MtR X "list.extend" (rExtA X.KK) := by
  intro pins s σ H x vs v us Q I rx rv h
  obtain ⟨l, b, xs, zs, rfl, rfl, hH, hB, hz, q⟩ := h
  cases rx
  obtain ⟨u, rfl, ru⟩ := rv.one
  cases ru
  obtain ⟨z, its, n, r, hl, e⟩ := I.lstM hH
  obtain ⟨jts, r2, pl2, hl2⟩ := I.list hB
  obtain ⟨⟨c2, d2, t2, s2⟩, g2, k2, n2, m2⟩ := pl2.isList
  simp only at k2 m2
  subst k2 m2
  have lz := r2.length
  have hsz : its.toArray.size + jts.toArray.size ≤ sizeLine := by rw [List.size_toArray, List.size_toArray]; omega
  have hlong : ¬ (!its.toArray.isEmpty && Builtin.List.listTooLong (its.toArray.size + jts.toArray.size)) = true := by rw [notLongL hsz, Bool.and_false]; exact Bool.false_ne_true
  refine call_meets F.slot_list_extend ⟨_, e, rfl⟩ F.entry_list_extend (F.args_list_extend_2 _ _) (list_extW l b its.toArray jts.toArray n n2 d2 s2 hlong (by rw [List.size_toArray]; omega) (by omega)) ⟨e, g2, ?_⟩
  refine ⟨.non, _, I.lset (its' := its ++ jts) hH e (by simp) (r.append r2) ?_, rfl, q⟩
  rw [List.length_append]; omega
def asL : D → R (List D)
  | .list ds => .ok ds
  | _ => .no
@[simp] theorem asL_list (ds : List D) : asL (.list ds) = .ok ds := rfl
theorem OwnAll.app_d {K : Kw} {F H : Hp} {ws : List V} {es : List D} : ∀ {os : List Ow} {vs : List V} {fp : List Addr}, OwnAll K F H vs os fp → DpAll K F ws es → OwnAll K F H (vs ++ ws) (os ++ es.map Ow.d) fp
  | [], _, _, h, g => by cases h; exact OwnAll.of_dp g
  | o :: os, _, _, h, g => by
    cases h with
    | cons h1 h2 => exact .cons h1 (OwnAll.app_d h2 g)
def sExt (i : Nat) (f : Ev → R D) (env : Ev) : SR := ownL i env fun os => (f env).st env fun d => (asL d).st env fun ds => if os.length + ds.length ≤ sizeLine then .nx (env.set i (some (.l (os ++ ds.map Ow.d)))) else .no
theorem ds_ext {f : Ev → R D} (i : Nat) (he : DL X W e f) (hN : X.N[i]? = some x := by rfl) (hv : Vis X.env.scope x := by first | exact Or.inl rfl | exact Or.inr (Or.inl rfl) | exact Or.inr (Or.inr rfl)) (hd : (x == ("__debug__" : Str)) = false := by decide) (hcd : (x == ("__classdict__" : Str)) = false := by decide)
    (hbase : attributeBase (.Name x npos) "extend" X.env (eval (.Name x npos) X.env) = eval (.Name x npos) X.env := by rfl)
    (hfew : ((backTo cpos (starEach [e] X.env)).all (fun x => !x.1) && (backToKw cpos (keywordEach [] X.env)).all (fun x => x.1.isSome) && decide ([e].length + ([] : List Keyword).length + (if ([] : List Keyword).isEmpty then 0 else 1) < 30)) = true := by rfl)
    (hline : (apos.endLine == cpos.line) = true := by rfl) (hs : starEach [e] X.env = (false, eval e X.env) :: starEach [] X.env := by rfl) (hplain : (backTo cpos (starEach [] X.env)).any (·.1) = false := by rfl)
    (hsw : swapsWith (.Call (.Attribute (.Name x npos) "extend" apos) [e] [] cpos) none pos.line X.env = pure false := by rfl) : DS X W S (.Expr (.Call (.Attribute (.Name x npos) "extend" apos) [e] [] cpos) pos) (sExt i f) := by
  obtain ⟨t, p, s⟩ := he
  refine ⟨_, ps_expr (pe_bm PySem.F.plainAttrs_list PySem.F.slot_list_extend PySem.F.type_list_extend mt_extA (pe_var hN hv hd hcd) (pa_cons p pa_nil hs) hbase hfew hline hs hplain) hsw, fun F H σ env fp D sat h => ?_⟩
  obtain ⟨os, eo, h⟩ := ownL_post h
  obtain ⟨a, vs, fo, c1, c0, c2, c3, c4, c5, c6, c7⟩ := sat.mut eo
  refine ⟨.ref a, c1, .inl ⟨rfl, vs, SqL.of c2⟩, ?_⟩
  refine s F H σ env fp _ sat ?_
  cases ef : f env with
  | no => rw [ef] at h; exact h
  | ex c => rw [ef] at h; exact fun C F' H' m x => h C σ F' H' fp m (.refl _ _) (StepS.of_ext x fp) (sat.ext x)
  | ok d =>
    rw [ef] at h
    intro v F1 H1 x1 q
    have h1 : PostS X W S σ F H fp D ((asL d).st env fun ds => if os.length + ds.length ≤ sizeLine then .nx (env.set i (some (.l (os ++ ds.map Ow.d)))) else .no) := h
    cases d with
    | list ds =>
      have h2 : PostS X W S σ F H fp D (if os.length + ds.length ≤ sizeLine then .nx (env.set i (some (.l (os ++ ds.map Ow.d)))) else .no) := h1
      split at h2
      · obtain ⟨b, ws, rfl, q1, q2⟩ := q
        have la := OwnAll.len c3
        have lb := DpAll.len q2
        obtain ⟨fp', st, sat'⟩ := c7 F1 H1 (vs ++ ws) (os ++ ds.map Ow.d) fo x1 (OwnAll.app_d (own_mut (vs' := vs ++ ws) x1 c2 c3 c5) q2) c4 fun b hb => .inl hb
        exact ⟨a, b, vs, ws, rfl, rfl, x1.hh _ _ c2, q1, by omega, h2 σ F1 _ fp' (.refl _ _) st sat'⟩
      · exact h2.elim
    | _ => exact h1.elim
/-- x[k] = e -/
def putAt (i : Nat) (env : Ev) (os : List Ow) (r : Ow) : D → SR
  | .int k => match ixN os.length k with
    | some j => .nx (env.set i (some (.l (os.set j r))))
    | none => .no
  | _ => .no
def sPut (i : Nat) (f : Ev → R Ow) (g : Ev → R D) (env : Ev) : SR := (f env).st env fun r => ownL i env fun os => (g env).st env (putAt i env os r)
theorem OwnAll.set {K : Kw} {F H : Hp} {os : List Ow} {vs : List V} {fp : List Addr} {j : Nat} {v : V} {r : Ow} {fx : List Addr} (s : Same F H) (h : OwnAll K F H vs os fp) (nd : fp.Nodup) (hj : j < os.length) (ow : OwnAt K F H v r fx) (nx : fx.Nodup) (dj : ∀ b ∈ fx, b ∉ fp) :
    ∃ fp', OwnAll K F H (vs.set j v) (os.set j r) fp' ∧ fp'.Nodup ∧ ∀ b ∈ fp', b ∈ fp ∨ b ∈ fx := by
  obtain ⟨v0, fo, fr, g1, g2, g3, g4, g5, g6, g7, g8⟩ := OwnAll.get (k := j) h nd (List.getElem?_eq_getElem hj)
  obtain ⟨fp', a, b, c⟩ := g8 F H [] [] v r fx (StepS.of_ext (.refl s) []) (fun _ _ => by simp) ow nx fun b hb z => dj b hb (g6 b z)
  exact ⟨fp', a, b, fun b hb => (c b hb).elim .inr fun z => .inl (g6 b z)⟩
end
end Mir
end
set_option Elab.async false
set_option linter.all false
set_option maxRecDepth 100000
set_option maxHeartbeats 4000000
noncomputable section
namespace Mir
open PySem PySem.Spec L2

def PAs (K : Kw) (_ : Hp) (r : Ow) (v : V) (F' H' : Hp) : Prop := ∃ fp, OwnAt K F' H' v r fp
instance {K : Kw} : Anti (PAs K) := ⟨fun _ h => h⟩
def DP (X : Cx) (W : WX) (e : Expr) (f : Ev → R Ow) : Prop := ∃ t, PE X e t ∧ Sm X W (PAs X.KK) t f
section
variable {X : Cx} {W : WX} {S : Nat → Bool} {e a b : Expr} {pos cpos apos npos : Pos} {x : Str}
theorem dp_var (i : Nat) {x : Str} (hN : X.N[i]? = some x := by rfl) (hv : Vis X.env.scope x := by first | exact Or.inl rfl | exact Or.inr (Or.inl rfl) | exact Or.inr (Or.inr rfl)) (hd : (x == ("__debug__" : Str)) = false := by decide)
    (hcd : (x == ("__classdict__" : Str)) = false := by decide) : DP X W (.Name x pos) (eVarO i) := by
  refine ⟨_, pe_var hN hv hd hcd, fun F H σ env fp Q sat h => ?_⟩
  have h' : Post X W (PAs X.KK) F H σ ((eVarO i env).bind fun o => .ok o) Q := by
    cases e : eVarO i env <;> rw [e] at h <;> exact h
  obtain ⟨o, he, _, h2⟩ := eVarO_ok h'
  obtain ⟨v, fo, h1, h3, _⟩ := sat.en.get he
  exact ⟨v, h1, h2 v F H (.refl sat.fh) ⟨fo, h3⟩⟩
def ixO : Ow → D → R Ow
  | .l os, .int k => match atI os k with
    | some o => .ok o
    | none => .no
  | _, _ => .no
def eIxO (f : Ev → R Ow) (g : Ev → R D) (env : Ev) : R Ow := (f env).bind fun o => (g env).bind fun d => ixO o d
theorem OwnAll.at {K : Kw} {F H : Hp} {os : List Ow} {vs : List V} {fp : List Addr} {k : Int} {o : Ow} (h : OwnAll K F H vs os fp) (e : atI os k = some o) : ∃ v fo, atI vs k = some v ∧ OwnAt K F H v o fo := by
  have hl := OwnAll.len h
  unfold atI at e ⊢
  rw [hl]
  cases hj : ixN os.length k with
  | none => rw [hj] at e; cases e
  | some j =>
    rw [hj] at e
    have e : os[j]? = some o := e
    have : ∀ {os : List Ow} {vs : List V} {fp : List Addr} {j : Nat}, OwnAll K F H vs os fp → os[j]? = some o → ∃ v fo, vs[j]? = some v ∧ OwnAt K F H v o fo := by
      intro os
      induction os with
      | nil => intro vs fp j h e; simp at e
      | cons q os ih =>
        intro vs fp j h e
        cases h with
        | cons h1 h2 =>
          cases j with
          | zero => simp at e; subst e; exact ⟨_, _, rfl, h1⟩
          | succ j =>
            obtain ⟨v, fo, a, b⟩ := ih h2 (by simpa using e)
            exact ⟨v, fo, by simpa using a, b⟩
    exact this h e
theorem dl_dp {f : Ev → R Ow} (h : DP X W e f) : DL X W e (eB f shD) := by
  obtain ⟨t, p, s⟩ := h
  refine ⟨t, p, fun F H σ env fp Q sat h => s F H σ env fp Q sat (Post.thru h fun d _ h' v F' H' x ⟨fp, q⟩ => ?_)⟩
  obtain ⟨r, e2⟩ := shD_ok h'
  rw [e2] at h'
  exact h' v F' H' x (own_seq x.fh q e2)
theorem dv_dp {f : Ev → R Ow} (h : DP X W e f) : DV X W e (eM f viewD) := by
  obtain ⟨t, p, s⟩ := h
  refine ⟨t, p, Sm.map s fun H o v F' H' sm ⟨fp, q⟩ => ⟨viewD o, rfl, OwnAt.view sm o v fp q⟩⟩

def repO : Ow → D → R Ow
  | .l os, .int k => match unDs os with
    | some ds => guard (-(2 ^ 63) ≤ k ∧ k < 2 ^ 63 ∧ os.length * k.toNat ≤ sizeLine) (.ok (.l ((List.replicate k.toNat ds).flatten.map Ow.d)))
    | none => .no
  | _, _ => .no
def eRep (f : Ev → R Ow) (g : Ev → R D) (env : Ev) : R Ow := (f env).bind fun o => (g env).bind fun d => repO o d
def eAug (h : D → D → Option D) (i : Nat) (f : Ev → R D) (env : Ev) : R D := (eVar i env).bind fun x => (f env).bind fun y => R.of (h x y)
def sAug (h : D → D → Option D) (i : Nat) (f : Ev → R D) (env : Ev) : SR := (eAug h i f env).st env fun d => if i < env.length then .nx (env.set i (some (.d d))) else .no
theorem ds_aug {f : Ev → R D} {g : D → D → Option D} {op : Operator} {r : R2} (i : Nat) (ho : OpR X (inplaceOp op) r) (hs : OpS X.KK r g) (hN : X.N.Nodup) (he : DV X W e f) (hi : X.N[i]? = some x := by rfl) (hx : Loc X.env.scope x := by first | exact Or.inl rfl | exact Or.inr rfl)
    (hf : X.fn x = true ∨ X.env.scope.names.lookup x = some .local := by first | exact .inl rfl | exact .inr rfl | assumption) (hS : S i = true := by rfl) : DS X W S (.AugAssign (.Name x npos) op e pos) (sAug g i f) := by
  obtain ⟨t, p, s⟩ := he
  refine ⟨_, ps_aug hN hi hx p ho hf, fun F H σ env fp D sat h => ?_⟩
  unfold sAug eAug at h
  cases e1 : eVar i env with
  | no => rw [e1] at h; exact h.elim
  | ex c => exact absurd e1 (by unfold eVar; split <;> intro z <;> cases z)
  | ok dx =>
    rw [e1] at h
    have e2 : env[i]? = some (some (.d dx)) := by
      unfold eVar at e1
      split at e1
      · rename_i d he; cases e1; exact he
      · cases e1
    obtain ⟨v, fo, h1, h2, _⟩ := sat.en.get e2
    refine ⟨v, h1, ?_⟩
    refine s F H σ env fp _ sat ?_
    cases ef : f env with
    | no => rw [ef] at h; exact h
    | ex c => rw [ef] at h; exact fun C F' H' m x => h C σ F' H' fp m (.refl _ _) (StepS.of_ext x fp) (sat.ext x)
    | ok dy =>
      rw [ef] at h
      have h : PostS X W S σ F H fp D ((R.of (g dx dy)).st env fun d => if i < env.length then .nx (env.set i (some (.d d))) else .no) := h
      intro u F1 H1 x1 q
      cases eg : g dx dy with
      | none => rw [eg] at h; exact h.elim
      | some dz =>
        rw [eg] at h
        have h : PostS X W S σ F H fp D (if i < env.length then .nx (env.set i (some (.d dz))) else .no) := h
        split at h
        · cases h2 with
          | d hd =>
            refine hs H1 v u dx dy dz _ (dpUp (dpUp hd x1.ff) x1.fh) q eg fun z q2 => ?_
            obtain ⟨fp', s1, s2⟩ := put_step sat x1 (.d (q2 F1)) List.nodup_nil (fun _ z => nomatch z) ‹_›
            exact h _ F1 H1 fp' (.set hS _) s1 s2
        · exact h.elim
end
end Mir
end
set_option Elab.async false
set_option linter.all false
set_option maxRecDepth 100000
set_option maxHeartbeats 4000000
noncomputable section
namespace Mir
open PySem PySem.Spec L2

section
variable {K : Kw} {F H : Hp} {σ : L2.St} {env : Ev} {fp : List Addr}
theorem set_selfV {vs : List V} {j : Nat} {v : V} (h : vs[j]? = some v) : vs.set j v = vs := by
  refine List.ext_getElem? fun k => ?_
  by_cases hk : j = k
  · subst hk
    rw [List.getElem?_set_self (List.getElem?_eq_some_iff.mp h).1]
    exact h.symm
  · rw [List.getElem?_set_ne hk]
theorem Sat.mut1 (sat : Sat K F H σ env fp) {i j : Nat} {os os1 : List Ow} (hi : env[i]? = some (some (.l os))) (hj : os[j]? = some (.l os1)) : ∃ a0 vs0 a vs fo, σ[i]? = some (some (.ref a0)) ∧ H a0 = some (.lst vs0) ∧ vs0.length = os.length ∧ vs0[j]? = some (.ref a) ∧ F a = none ∧ H a = some (.lst vs) ∧ OwnAll K F H vs os1 fo ∧ fo.Nodup ∧ a ∉ fo ∧
    ∀ F1 H1 vs' os' fo', Ext F H F1 H1 → OwnAll K F1 (upd H1 a (.lst vs')) vs' os' fo' → fo'.Nodup → (∀ b ∈ fo', b ∈ fo ∨ H b = none) → ∃ fp', StepS F H fp F1 (upd H1 a (.lst vs')) fp' ∧ Sat K F1 (upd H1 a (.lst vs')) σ (env.set i (some (.l (os.set j (.l os'))))) fp' := by
  have hl : i < env.length := (List.getElem?_eq_some_iff.mp hi).1
  obtain ⟨fr, fo0, a1, a2, a3, a3', a4, a5, a6⟩ := sat.en.put hl sat.nd
  obtain ⟨v, e1, e2⟩ := a5 _ hi
  cases e2 with
  | @l a0 vs0 _ fI h1 h2 h3 =>
    obtain ⟨nd1, nd2⟩ := List.nodup_cons.mp a3'
    obtain ⟨vj, fo1, fr1, g1, g2, g3, g4, g5, g6, g7, g8⟩ := OwnAll.get h3 nd2 hj
    cases g2 with
    | @l a vs _ fo m1 m2 m3 =>
      obtain ⟨nd3, nd4⟩ := List.nodup_cons.mp g3
      refine ⟨a0, vs0, a, vs, fo, e1, h2, OwnAll.len h3, g1, m1, m2, m3, nd4, nd3, fun F1 H1 vs' os' fo' x ow nd sub => ?_⟩
      have hf1 := mut_free x m1 m2
      have na' : a ∉ fo' := fun z => by
        rcases sub a z with q | q
        · exact nd3 q
        · rw [m2] at q; cases q
      have fresh : ∀ b, H b = none → b ∉ fr := fun b q z => by
        obtain ⟨_, w, e⟩ := sat.en.there b (a1 b z)
        rw [q] at e; cases e
      have fresh1 : ∀ b, H b = none → b ∉ fr1 := fun b q z => by
        obtain ⟨_, w, e⟩ := OwnAll.there _ _ _ h3 b (g6 b z)
        rw [q] at e; cases e
      have st := mut_step (vs' := vs') x m2
      obtain ⟨f1, k1, k2, k3⟩ := g8 F1 (upd H1 a (.lst vs')) [a] [] (.ref a) (.l os') (a :: fo') st (fun b hb z => g7 b (by rw [List.mem_singleton.mp z]; exact List.mem_cons_self) hb) (.l hf1 upd_same ow) (List.nodup_cons.mpr ⟨na', nd⟩) fun b hb z => by
        rcases List.mem_cons.mp hb with q | q
        · subst q; exact g7 b List.mem_cons_self z
        · rcases sub b q with q | q
          · exact g7 b (List.mem_cons_of_mem _ q) z
          · exact fresh1 b q z
      rw [set_selfV g1] at k1
      have sub1 : ∀ b ∈ f1, b ∈ fI ∨ H b = none := fun b hb => by
        rcases k3 b hb with q | q
        · rcases List.mem_cons.mp q with q | q
          · subst q; exact .inl (g5 b List.mem_cons_self)
          · exact (sub b q).imp (fun z => g5 b (List.mem_cons_of_mem _ z)) id
        · exact .inl (g6 b q)
      have ne : a ≠ a0 := fun e => nd1 (e ▸ g5 a List.mem_cons_self)
      have hf0 : F1 a0 = none := mut_free x h1 h2
      have n0 : a0 ∉ f1 := fun z => by
        rcases sub1 a0 z with q | q
        · exact nd1 q
        · rw [h2] at q; cases q
      have aIn : a ∈ a0 :: fI := List.mem_cons_of_mem _ (g5 a List.mem_cons_self)
      obtain ⟨fp', b1, b2, b3⟩ := (a6 F1 (upd H1 a (.lst vs')) [a] [] st fun b hb z => a4 b (by rw [List.mem_singleton.mp z]; exact aIn) hb).2 (.ref a0) (.l (os.set j (.l os'))) (a0 :: f1) (.l hf0 ((upd_ne (Ne.symm ne)).trans (x.hh _ _ h2)) k1) (List.nodup_cons.mpr ⟨n0, k2⟩) fun b hb z => by
        rcases List.mem_cons.mp hb with q | q
        · subst q; exact a4 b List.mem_cons_self z
        · rcases sub1 b q with q | q
          · exact a4 b (List.mem_cons_of_mem _ q) z
          · exact fresh b q z
      rw [set_self e1] at b3
      refine ⟨fp', (st.mono (fun b hb => by rw [List.mem_singleton.mp hb]; exact a2 a aIn)) |> fun s => ⟨s.ff, s.fr, s.fn, fun b hb => ?_⟩, mut_same x.fh hf1, b3, b1⟩
      rcases b2 b hb with q | q
      · rcases List.mem_cons.mp q with q | q
        · rw [q]; exact .inl (a2 a0 List.mem_cons_self)
        · exact (sub1 b q).imp (fun z => a2 b (List.mem_cons_of_mem _ z)) id
      · exact .inl (a1 b q)
end
section
variable {X : Cx} {W : WX} {S : Nat → Bool} {e k : Expr} {pos cpos apos npos tpos : Pos} {x : Str}
/-- x[k].m(args) at an own list of own lists: the item's place, and how it is changed -/
def own1 (i : Nat) (g : Ev → R D) (env : Ev) (c : List Ow → Nat → List Ow → SR) : SR := ownL i env fun os => (g env).st env fun d => match d with
  | .int k => match ixN os.length k with
    | some j => match os[j]? with
      | some (.l os1) => c os j os1
      | _ => .no
    | none => .no
  | _ => .no
def sApp1 (i : Nat) (g : Ev → R D) (f : Ev → R Ow) (env : Ev) : SR := own1 i g env fun os j os1 => (f env).st env fun r => if os1.length < sizeLine then .nx (env.set i (some (.l (os.set j (.l (os1 ++ [r])))))) else .no
/-- the base x[k] read: the rest is asked of the inner list -/
theorem own1_go {σ : L2.St} {F H : Hp} {fp : List Addr} {DD : Ends} {i : Nat} {env : Ev} {g : Ev → R D} {t : TE} {c : List Ow → Nat → List Ow → SR} {T : VK} (s : Sm X W (PVw X.KK) t g) (sat : Sat X.KK F H σ env fp) (h : PostS X W S σ F H fp DD (own1 i g env c))
    (q : ∀ os j os1 a F1 H1, env[i]? = some (some (.l os)) → os[j]? = some (.l os1) → Sat X.KK F1 H1 σ env fp → (∃ a0 vs0, σ[i]? = some (some (.ref a0)) ∧ H1 a0 = some (.lst vs0) ∧ vs0[j]? = some (.ref a)) → PostS X W S σ F1 H1 fp DD (c os j os1) → T (.ref a) H1) : tOp (rIxL X.KK) (tVar i) t σ H T := by
  obtain ⟨os, eo, h1⟩ := ownL_post h
  obtain ⟨v, fo, e1, e2, _⟩ := sat.en.get eo
  refine ⟨v, e1, ?_⟩
  cases e2 with
  | @l a0 vs0 _ f0 m1 m2 m3 =>
  refine s.st sat h1 fun d u F1 H1 sat1 q1 x1 h2 => ?_
  cases d with
  | int k =>
    cases dp_int q1
    cases hj : ixN os.length k with
    | none => simp only [hj] at h2; exact h2.elim
    | some j =>
      simp only [hj] at h2
      cases ho : os[j]? with
      | none => simp only [ho] at h2; exact h2.elim
      | some o =>
        cases o with
        | d _ => simp only [ho] at h2; exact h2.elim
        | m _ | t _ | k _ _ | n _ _ | o _ _ _ => simp only [ho] at h2; exact h2.elim
        | l os1 =>
          simp only [ho] at h2
          obtain ⟨a0', vs0', a, vs, fo', b1, b2, b3, b4, _⟩ := sat1.mut1 eo ho
          rw [e1] at b1
          cases b1
          have b2' := (x1.hh _ _ m2).symm.trans b2
          cases b2'
          refine ⟨_, _, _, _, rfl, rfl, SqL.of b2, ?_, q os j os1 a F1 H1 eo ho sat1 ⟨_, _, e1, b2, b4⟩ h2⟩
          unfold atI
          rw [b3, hj]
          exact b4
  | _ => exact h2.elim
theorem ds_app1 {g : Ev → R D} {f : Ev → R Ow} (i : Nat) (hk : DV X W k g) (he : DE X W e f) (hN : X.N[i]? = some x := by rfl) (hv : Vis X.env.scope x := by first | exact Or.inl rfl | exact Or.inr (Or.inl rfl) | exact Or.inr (Or.inr rfl)) (hd : (x == ("__debug__" : Str)) = false := by decide) (hcd : (x == ("__classdict__" : Str)) = false := by decide)
    (hs : PlainIx k := by exact fun _ _ => rfl)
    (hbase : attributeBase (.Subscript (.Name x npos) k tpos) "append" X.env (eval (.Subscript (.Name x npos) k tpos) X.env) = eval (.Subscript (.Name x npos) k tpos) X.env := by rfl)
    (hfew : ((backTo cpos (starEach [e] X.env)).all (fun x => !x.1) && (backToKw cpos (keywordEach [] X.env)).all (fun x => x.1.isSome) && decide ([e].length + ([] : List Keyword).length + (if ([] : List Keyword).isEmpty then 0 else 1) < 30)) = true := by rfl)
    (hline : (apos.endLine == cpos.line) = true := by rfl) (hst : starEach [e] X.env = (false, eval e X.env) :: starEach [] X.env := by rfl) (hplain : (backTo cpos (starEach [] X.env)).any (·.1) = false := by rfl)
    (hsw : swapsWith (.Call (.Attribute (.Subscript (.Name x npos) k tpos) "append" apos) [e] [] cpos) none pos.line X.env = pure false := by rfl) : DS X W S (.Expr (.Call (.Attribute (.Subscript (.Name x npos) k tpos) "append" apos) [e] [] cpos) pos) (sApp1 i g f) := by
  obtain ⟨t, p, s⟩ := he
  obtain ⟨t', p', s'⟩ := hk
  refine ⟨_, ps_expr (pe_bm PySem.F.plainAttrs_list PySem.F.slot_list_append PySem.F.type_list_append mt_append (pe_ix ix_list (pe_var hN hv hd hcd) p' hs) (pa_cons p pa_nil hst) hbase hfew hline hst hplain) hsw, fun F H σ env fp D sat h => ?_⟩
  refine own1_go s' sat h fun os j os1 a F1 H1 eo ho sat1 ⟨z0, zs, w1, w2, w3⟩ h2 => ?_
  obtain ⟨a0, vs0, a', vs, fo, c1, c2, c3, c4, c5, c6, c7, c8, c9, c10⟩ := sat1.mut1 eo ho
  rw [w1] at c1; cases c1
  rw [w2] at c2; cases c2
  rw [w3] at c4; cases c4
  refine ⟨.inl ⟨rfl, vs, SqL.of c6⟩, ?_⟩
  refine s F1 H1 σ env fp _ sat1 ?_
  cases ef : f env with
  | no => rw [ef] at h2; exact h2
  | ex c => rw [ef] at h2; exact fun C F' H' m x => h2 C σ F' H' fp m (.refl _ _) (StepS.of_ext x fp) (sat1.ext x)
  | ok r =>
    rw [ef] at h2
    intro v F2 H2 x2 ⟨fx, ow, nx, fr⟩
    simp only [R.st_ok] at h2
    split at h2
    · have hb := x2.hh _ _ c6
      have la := OwnAll.len c7
      obtain ⟨fo', g1, g2, g3⟩ := OwnAll.snoc (own_mut (vs' := vs ++ [v]) x2 c6 c7 c9) (own_mut1 x2.fh (mut_free x2 c5 c6) hb ow fun z => by rw [fr a z] at c6; cases c6) c8 nx fun b hb z => by
        obtain ⟨_, w, e⟩ := OwnAll.there _ _ _ c7 b z
        rw [fr b hb] at e; cases e
      obtain ⟨fp', st, sat'⟩ := c10 F2 H2 _ _ fo' x2 g1 g2 fun b hb => (g3 b hb).imp id (fr b)
      exact ⟨a, vs, v, rfl, rfl, hb, by omega, h2 σ F2 _ fp' (.refl _ _) st sat'⟩
    · exact h2.elim

end
end Mir
end
set_option Elab.async false
set_option linter.all false
set_option maxRecDepth 100000
set_option maxHeartbeats 4000000
noncomputable section
namespace Mir
open PySem PySem.Spec PySem.W PySem.Calls PyProof.Rows PySem.SeqAt

section
variable {prog : Program} {w : World} {A : Around} {E : Value → Shared → Prop} {s : Shared}
theorem call_tuple_lt {Q : Value → Shared → Prop} {l b : Addr} {items items2 : Array Value} {e r : Nat → Bool} (hl : s.heap.IsTuple l items) (hb : s.heap.IsTuple b items2)
    (he : ∀ j (h1 : j < items.size) (h2 : j < items2.size), SeqAt.EqAt A.in1 s items[j] items2[j] (e j)) (hr : ∀ j (h1 : j < items.size) (h2 : j < items2.size), e j = false → RcLt A.in1 s items[j] items2[j] (r j))
    (h : Q (.bool (firstLt e r (decide (items.size < items2.size)) (List.range (min items.size items2.size)))) s) : wpAny (model prog w) A (call (.builtin "tuple.__lt__") [.ref l, .ref b]) Q E s := by
  obtain ⟨⟨cls, dd, data, sl⟩, ho, hc, n, hd⟩ := id hl
  obtain ⟨⟨cls2, dd2, data2, sl2⟩, ho2, hc2, n2, hd2⟩ := id hb
  simp only at hc hd hc2 hd2
  subst hc hd hc2 hd2
  exact call_meets F.slot_tuple_lt ⟨_, ho, rfl⟩ F.entry_tuple_lt (F.args_tuple_lt_2 _ _) (tuple_ltAt l b items items2 n n2 dd dd2 sl sl2 e r)
    ⟨ho, ho2, he, hr, h⟩
theorem oneLt_tuples {xs ys : List PyData} {a b : Value} {as bs : List Addr} {Q : Bool → Shared → Prop} (ra : Reads s.heap a (.tuple xs) as) (rb : Reads s.heap b (.tuple ys) bs) (hal : alikeAll xs ys = true)
    (hu : A.units + min (PyData.tuple xs).depth (PyData.tuple ys).depth < cLine) (hq : Q (dataLt (.tuple xs) (.tuple ys)) s) : wpAny (model prog w) A (oneLt' true a b) Q E s := by
  cases ra with
  | @tuple l o vs n _ as₁ h1 h2 h3 h4 =>
    cases rb with
    | @tuple l' o' vs' n' _ bs₁ k1 k2 k3 k4 =>
      have n1 : vs.size = xs.length := by simpa using SeqAt.ReadsAll.length _ _ _ h4
      have n2 : vs'.size = ys.length := by simpa using SeqAt.ReadsAll.length _ _ _ k4
      rw [dataLt_tuple, ← firstLt_toks xs ys hal, ← n1, ← n2] at hq
      rw [oneLt'_eq]
      simp only [if_true]
      refine wpAny_bind (wpAny_cRoomFor (SeqAt.room_here hu) ?_)
      refine wpAny_bind (wpAny_callSpecialIfBound?_slot (T := "tuple") ⟨_, h1, h2⟩ F.slot_tuple_lt (call_tuple_lt (e := SeqAt.pairEq xs ys) (r := fun j => dataLt (xs.getD j .none) (ys.getD j .none)) ⟨_, h1, h2, _, h3⟩ ⟨_, k1, k2, _, k3⟩ (fun j j1 j2 => ?_) (fun j j1 j2 hj => ?_) ?_))
      · have := eqAt_alikeAll xs ys A.in1 s vs.toList vs'.toList _ _ h4 k4 hal (SeqAt.room_in hu) j (by simpa using j1) (by simpa using j2)
        simpa using this
      · have := rcLt_alikeAll xs ys A.in1 s vs.toList vs'.toList _ _ h4 k4 hal (SeqAt.room_in hu) j (by simpa using j1) (by simpa using j2) hj
        simpa using this
      · exact wpAny_truthy_bool hq
end
section
variable {prog : Program} {w : World} {A : Around} {s : Shared}
def neD : PyData → Bool
  | .tuple [] => false
  | _ => true
theorem firsts_tup {M : Model} : ∀ {vs : List Value} {ds : List PyData}, EachIs (fun v d => ∃ as, Reads s.heap v d as) vs ds → (∀ d, d ∈ ds → ∃ xs, d = .tuple xs) → ∃ fs : List (Option Value), fs.map Option.isSome = ds.map neD ∧ ∀ (A : Around) (E : Value → Shared → Prop) (Q : List (Option Value) → Shared → Prop), Q fs s → wpAny M A (vs.mapM firstOfTuple') Q E s
  | _, _, .nil, _ => ⟨[], rfl, fun A E Q h => by rw [List.mapM_nil]; exact wpAny_pure h⟩
  | _, _, .cons (a := v) (b := d) (as := vs) (bs := ds) ⟨as, r⟩ t, ht => by
    obtain ⟨fs, h1, h2⟩ := firsts_tup (M := M) t fun d hd => ht d (List.mem_cons_of_mem _ hd)
    obtain ⟨xs, rfl⟩ := ht d List.mem_cons_self
    cases r with
    | @tuple a o ys n _ _ ho hc hd hr =>
      refine ⟨ys[0]? :: fs, ?_, fun A E Q h => ?_⟩
      · rw [List.map_cons, List.map_cons, h1]
        congr 1
        cases xs with
        | nil =>
          have e : ys.toList = [] := by cases q : ys.toList with | nil => rfl | cons u us => rw [q] at hr; cases hr
          have e2 : ys[0]? = none := by rw [← Array.getElem?_toList, e]; rfl
          rw [e2]; rfl
        | cons x r =>
          cases q : ys.toList with
          | nil => rw [q] at hr; cases hr
          | cons u us =>
            have e2 : ys[0]? = some u := by rw [← Array.getElem?_toList, q]; rfl
            rw [e2]; rfl
      · rw [List.mapM_cons]
        refine wpAny_bind ?_
        rw [kas_first_eq]
        refine wpAny_bind (Looks.here (show Looks M s.heap (typeOf (.ref a)) o.cls from (Looks.ld ho).andThen .now) ?_)
        rw [hc, if_neg (by first | decide | simp)]
        refine wpAny_bind (listItems_at ho hd (wpAny_pure ?_))
        exact wpAny_bind (h2 A E (fun bs s' => wpAny M A (pure (ys[0]? :: bs)) Q E s') (wpAny_pure h))
/-- tuples that read as alike data can be sorted -/
theorem sortsAt_tuples {vs : List Value} {ds : List PyData} (e : EachIs (fun v d => ∃ as, Reads s.heap v d as) vs ds) (hal : AllAlike ds) (ht : ∀ d, d ∈ ds → ∃ xs, d = .tuple xs) (hu : ∀ d, d ∈ ds → A.units + d.depth < cLine) : SortsAt prog w A s (dataKind s.heap ds) vs := by
  by_cases hne : ∀ d, d ∈ ds → ∃ x r, d = .tuple (x :: r)
  · exact SortsAt.data e hal (.inl hne) hu
  have room : ∀ {d d' : PyData}, d ∈ ds → A.units + min d.depth d'.depth < cLine := fun {d d'} hd => Nat.lt_of_le_of_lt (Nat.add_le_add_left (Nat.min_le_left _ _) _) (hu d hd)
  obtain ⟨fs, h1, h2⟩ := firsts_tup (M := model prog w) e ht
  have hnall : (fs.toArray.all fun x => x.isSome) = false := by
    rw [List.all_toArray, Bool.eq_false_iff]
    intro hall
    refine hne fun d hd => ?_
    obtain ⟨xs, rfl⟩ := ht d hd
    cases xs with
    | cons x r => exact ⟨x, r, rfl⟩
    | nil =>
      have : neD (.tuple []) ∈ ds.map neD := List.mem_map_of_mem hd
      rw [← h1] at this
      obtain ⟨f, f1, f2⟩ := List.mem_map.mp this
      have := List.all_eq_true.mp hall f f1
      rw [f2] at this
      cases this
  have hkeys : ∀ v, v ∈ vs → ∃ a, (dataKind s.heap ds).keyOf v = some a := fun v hv => by
    obtain ⟨d, hd, as, r⟩ := e.left v hv
    exact ⟨_, dataKind_some hal hd r⟩
  have hty : ∀ v ∈ vs, Looks (model prog w) s.heap (typeOf v) (.type "tuple") := fun v hv => by
    obtain ⟨d, hd, as, r⟩ := e.left v hv
    obtain ⟨xs, rfl⟩ := ht d hd
    exact looks_reads r
  by_cases hf : ((fs.toArray)[0]?.bind id).isSome = true
  · refine ⟨hkeys, general', ?_, fun h2' E Q hq => ?_⟩
    · intro E x y a b Q ha hb hq
      obtain ⟨d, as, hd, ra, rfl⟩ := dataKind_inv ha
      obtain ⟨d', as', hd', rb, rfl⟩ := dataKind_inv hb
      obtain ⟨xs, rfl⟩ := ht d hd
      show wpAny (model prog w) A (oneLt' false x y) Q E s
      exact oneLt_alike (fun z => by cases z) ra rb (hal _ hd d' hd') (by intro z; cases z) (room hd) hq
    · rw [kat_kind_eq, List.mapM_toArray, map_eq_pure_bind]
      refine wpAny_bind (wpAny_bind (h2 A E _ (wpAny_pure ?_)))
      rw [if_neg (by rw [hnall]; exact Bool.false_ne_true), if_pos hf]
      exact wpAny_pure hq
  · refine ⟨hkeys, oneType', ?_, fun h2' E Q hq => ?_⟩
    · intro E x y a b Q ha hb hq
      obtain ⟨d, as, hd, ra, rfl⟩ := dataKind_inv ha
      obtain ⟨d', as', hd', rb, rfl⟩ := dataKind_inv hb
      have hdd := hal d hd d' hd'
      have hroom := room (d' := d') hd
      obtain ⟨xs, rfl⟩ := ht d hd
      obtain ⟨ys, rfl⟩ := ht d' hd'
      rw [keyLt'_oneType]
      exact oneLt_tuples ra rb (by simpa [alike] using hdd) hroom hq
    · rw [kat_kind_eq, List.mapM_toArray, map_eq_pure_bind]
      refine wpAny_bind (wpAny_bind (h2 A E _ (wpAny_pure ?_)))
      rw [if_neg (by rw [hnall]; exact Bool.false_ne_true), if_neg hf]
      rw [oneTypeOnly'_eq, List.mapM_toArray, map_eq_pure_bind]
      refine wpAny_bind (wpAny_bind (wpAny_bind (kas_mapM (r := Value.type "tuple") _ (fun v hv Q' hq => (hty v hv).here hq) (wpAny_pure ?_))))
      obtain ⟨v0, vr, rfl⟩ : ∃ v0 vr, vs = v0 :: vr := by
        match vs, h2' with
        | [], h2 => simp at h2
        | v :: r, _ => exact ⟨v, r, rfl⟩
      have hall : ((List.map (fun _ => Value.type "tuple") (v0 :: vr)).toArray.all fun x => x == Value.type "tuple") = true := by
        simp only [List.all_toArray, List.all_map, List.all_eq_true]
        intro _ _
        exact beq_self_eq_true _
      have h0 : (List.map (fun _ => Value.type "tuple") (v0 :: vr)).toArray[0]? = some (Value.type "tuple") := by simp
      rw [h0]
      simp only [hall, if_true]
      exact wpAny_pure (wpAny_pure hq)
end
end Mir
namespace Mir
open PySem PySem.Spec L2
abbrev sortedD (ds : List D) : List D := ds.mergeSort (PySem.W.dataLe false id)
def tupB : D → Bool
  | .tuple _ => true
  | _ => false
def plainB : D → Bool
  | .tuple _ => false
  | .none => false
  | _ => true
def sortOk (ds : List D) : Bool := (ds.all fun d => ds.all fun e => PySem.W.alike d e) && (ds.all tupB || ds.all plainB) && (ds.all fun d => decide (d.depth ≤ 130))
def gSorted : List D → Option Ow
  | [.list ds] => if sortOk ds = true then some (.l ((sortedD ds).map Ow.d)) else none
  | _ => none
def rSortD (K : Kw) : List V → Hp → VK → Prop := fun vs H Q => ∃ (a : Addr) (xs : List V) (ds : List D) (T : V → D → Prop), vs = [V.ref a] ∧ SqL K H a xs ∧ DpAll K H xs ds ∧ sortOk ds = true ∧ PySem.W.EachIs T xs ds ∧
  ∀ (ys : List V) (p : Addr), H p = none → PySem.W.EachIs T ys (sortedD ds) → Q (.ref p) (upd H p (.lst ys))
section
variable {X : Cx} {W : WX}
theorem each_vals {T : V → D → Prop} : ∀ {xs : List V} {vs : List Value} {ds : List D}, Vals xs vs → PySem.W.EachIs T xs ds → PySem.W.EachIs (fun v d => ∃ x, RelV x v ∧ T x d) vs ds
  | _, _, _, .nil, .nil => .nil
  | _, _, _, .cons r t, .cons h g => .cons ⟨_, r, h⟩ (each_vals t g)
theorem vals_each {T : V → D → Prop} : ∀ {vs : List Value} {ds : List D}, PySem.W.EachIs (fun v d => ∃ x, RelV x v ∧ T x d) vs ds → ∃ xs, Vals xs vs ∧ PySem.W.EachIs T xs ds
  | _, _, .nil => ⟨[], .nil, .nil⟩
  | _, _, .cons ⟨x, r, h⟩ g => by
    obtain ⟨xs, a, b⟩ := vals_each g
    exact ⟨x :: xs, .cons r a, .cons h b⟩
mutual
theorem Dp.kit_alike {K : Kw} {H : Hp} : ∀ (d : D) (v : V), Dp K H v d → PySem.W.alike d d = true → L2.Dp K H v d
  | .none, _, h, _ => by cases h; exact .non
  | .bool b, _, h, _ => by cases h; exact .bl b
  | .int b, _, h, _ => by cases h; exact .int b
  | .str b, _, h, _ => by cases h; exact .str b
  | .list ds, _, h, c => by
    cases h with
    | lst hs ha => exact .lst hs (DpAll.kit_alike ds _ ha (by rw [PySem.W.alike] at c; exact c))
  | .tuple ds, _, h, c => by
    cases h with
    | tup hs ha => exact .tup hs (DpAll.kit_alike ds _ ha (by rw [PySem.W.alike] at c; exact c))
  | .dict _, _, _, c => by simp [PySem.W.alike] at c
theorem DpAll.kit_alike {K : Kw} {H : Hp} : ∀ (ds : List D) (vs : List V), DpAll K H vs ds → PySem.W.alikeAll ds ds = true → L2.DpAll K H vs ds
  | [], _, h, _ => by cases h; exact .nil
  | d :: ds, _, h, c => by
    rw [PySem.W.alikeAll, Bool.and_eq_true] at c
    cases h with
    | cons h1 h2 => exact .cons (Dp.kit_alike d _ h1 c.1) (DpAll.kit_alike ds _ h2 c.2)
end
theorem each_reads {pins : List (Addr × Obj)} {s : Shared} {σ : L2.St} {H : Hp} (I : Inv X pins σ H s) : ∀ {xs : List V} {vs : List Value} {ds : List D}, Vals xs vs → DpAll X.KK H xs ds → (∀ d ∈ ds, PySem.W.alike d d = true) → PySem.W.EachIs (fun v d => ∃ as, PySem.Reads s.heap v d as) vs ds
  | _, _, _, .nil, h, _ => by cases h; exact .nil
  | _, _, _, .cons r t, h, c => by
    cases h with
    | cons h1 h2 => exact .cons (L2.Dp.reads I _ _ _ (Dp.kit_alike _ _ h1 (c _ List.mem_cons_self)) r) (each_reads I t h2 fun d hd => c d (List.mem_cons_of_mem _ hd))
theorem sortOk_cases {ds : List D} (h : sortOk ds = true) : PySem.W.AllAlike ds ∧ ((∀ d, d ∈ ds → ∃ xs, d = .tuple xs) ∨ ∀ d, d ∈ ds → d ≠ .none ∧ ∀ xs, d ≠ .tuple xs) ∧ ∀ d, d ∈ ds → d.depth ≤ 130 := by
  unfold sortOk at h
  simp only [Bool.and_eq_true, Bool.or_eq_true, List.all_eq_true, decide_eq_true_eq] at h
  obtain ⟨⟨h1, h2⟩, h3⟩ := h
  refine ⟨h1, h2.imp (fun h d hd => ?_) (fun h d hd => ?_), h3⟩
  · have := h d hd
    cases d <;> first | exact ⟨_, rfl⟩ | cases this
  · have := h d hd
    cases d with
    | none => cases this
    | tuple _ => cases this
    | _ => exact ⟨nofun, nofun⟩
theorem cr_sortD (hu : X.A.units + 140 < cLine) : CallR X (.builtin "sorted") (rSortD X.KK) := by
  intro pins s σ H vs us Q I r h
  obtain ⟨a, xs, ds, T, rfl, hs, hx, ok, hT, q⟩ := h
  obtain ⟨its, rv, hl, hz⟩ := I.list hs
  rw [Vals.ref1 r]
  obtain ⟨hal, hk, hd⟩ := sortOk_cases ok
  have er := each_reads I rv hx fun d hd => hal d hd d hd
  have e := each_vals rv hT
  have hL : its.length ≤ sizeLine := by rw [← rv.length]; exact hz
  have fin : ∀ out, out.length = ds.length → PySem.W.EachIs (fun v d => ∃ x, RelV x v ∧ T x d) out (sortedD ds) → EP X pins σ Q (.ref (s.heap.objs.size + 1)) { s with heap := PyProof.Rows.sortedAll s.heap its out.toArray } := fun out h1 h2 => by
    obtain ⟨ys, h3, h4⟩ := vals_each h2
    have hn : H (s.heap.objs.size + 1) = none := I.hok.fresh (Nat.le_succ _)
    obtain ⟨n, hn2⟩ := PyProof.Rows.sortedAll_at s.heap its out.toArray
    refine ⟨.ref (s.heap.objs.size + 1), upd H (s.heap.objs.size + 1) (.lst ys), I.laid (t' := s.toks) (fun b o e => PyProof.Rows.sortedAll_old e) (Nat.le_succ _) ⟨?_, out, n, h3, hn2⟩, rfl, q ys _ hn h4⟩
    rw [h3.length, h1, ← er.length]
    exact hL
  have er' : PySem.W.EachIs (fun v b => ∃ as, PySem.Reads (PySem.W.sortingHeap (PySem.W.copyHeap s.heap its) (s.heap.objs.size + 1) its) v (id b) as) its ds := er.mono fun _ _ ⟨as, r⟩ => ⟨as, PyProof.Rows.Reads.keeps (fun _ _ => PySem.W.sorting_copy_old) r⟩
  have hb : ∀ d, d ∈ ds → X.A.in1.in1.units + d.depth < cLine := fun d m => by
    have := hd d m
    show X.A.units + 1 + 1 + d.depth < cLine
    omega
  refine PySem.W.sorted_vals (κ := PySem.W.dataKind (PySem.W.sortingHeap (PySem.W.copyHeap s.heap its) (s.heap.objs.size + 1) its) ds) hl.isList ?_ hL (fin _ ?_ ?_)
  · rcases hk with hk | hk
    · exact sortsAt_tuples (s := { s with heap := PySem.W.sortingHeap (PySem.W.copyHeap s.heap its) (s.heap.objs.size + 1) its }) er' hal hk hb
    · exact PySem.W.SortsAt.data (s := { s with heap := PySem.W.sortingHeap (PySem.W.copyHeap s.heap its) (s.heap.objs.size + 1) its }) er' hal (.inr hk) hb
  · rw [PySem.W.sortVals_length false rfl]; exact er.length
  · have z := PySem.W.sortVals_data (enc := (id : D → D)) (bs := ds) false e er' (by simpa using hal)
    simpa using z
theorem each_dpAll {F : Hp} : ∀ {xs : List V} {ds : List D}, DpAll X.KK F xs ds → PySem.W.EachIs (Dp X.KK F) xs ds
  | _, [], h => by cases h; exact .nil
  | _, d :: ds, h => by
    cases h with
    | cons h1 h2 => exact .cons h1 (each_dpAll h2)
theorem dpAll_each {F : Hp} : ∀ {xs : List V} {ds : List D}, PySem.W.EachIs (Dp X.KK F) xs ds → DpAll X.KK F xs ds
  | _, _, .nil => .nil
  | _, _, .cons h g => .cons h (dpAll_each g)
theorem caG_sorted : CaG X.KK (rSortD X.KK) gSorted := by
  intro F H vs ds o Q s h e q
  unfold gSorted at e
  split at e
  · split at e
    · rename_i es c
      cases e
      obtain ⟨v, rfl, p, ws, rfl, p1, p2⟩ := psqs1 h
      refine ⟨p, ws, es, Dp X.KK F, rfl, p1, dpaUp p2 s, c, each_dpAll p2, fun ys a ha hy => ?_⟩
      exact q _ _ _ (Ext.own s ha _) (own_l s ha (dpAll_each hy))
    · cases e
  · cases e
theorem de_sorted {x : Expr} {p pos : Pos} {f : Ev → R (List D)} (hu : X.A.units + 140 < cLine) (hg : Gl X "sorted") (hm : X.mg "sorted" = none) (ha : DAl X W [x] f) (he : starEach [x] X.env = (false, eval x X.env) :: starEach [] X.env := by rfl) : DE X W (.Call (.Name "sorted" p) [x] [] pos) (eCa gSorted f) :=
  de_callB (cr_sortD hu) caG_sorted hg hm (by first | rfl | decide +kernel) ha (he := he)
end
end Mir
end
set_option Elab.async false
set_option linter.all false
set_option maxRecDepth 100000
set_option maxHeartbeats 4000000
noncomputable section
namespace Mir
open PySem PySem.Spec L2

open Classical in
section
variable {X : Cx} {W : WX} {S : Nat → Bool} {pos npos : Pos} {x : Str} {fs : Ev → SR}
end
end Mir
end
set_option Elab.async false
set_option linter.all false
set_option maxRecDepth 100000
set_option maxHeartbeats 4000000
noncomputable section
namespace Mir
open PySem PySem.Spec L2

def spL (K : Kw) (m : List D → R Ow) : Sp := fun vs H Q _ => ∃ F ds r, Same F H ∧ DpAll K F vs ds ∧ ds.length = 1 ∧ m ds = .ok r ∧ ∀ v F' H', Ext F H F' H' → POw K H r v F' H' → Q v H'
theorem fnOk_spL {P : Program} {w : World} {K : PySem.W.Frag} {mg : Str → Option Value} {base : Heap} {CX : CXT} {k : Nat} {f : Addr} {fd : FuncData} {ps : List Str} {m : List D → R Ow} (h : FnOk P w K mg base CX k f fd ps (spM ⟨K, w⟩ mg 1 m)) : FnOk P w K mg base CX k f fd ps (spL ⟨K, w⟩ m) :=
  h.imp fun vs H Q E ⟨F, ds, r, h1, h2, h3, h4, h5⟩ => ⟨F, ds, h1, h2, h3, by rw [h4]; exact h5⟩
theorem law_end {l : PySem.W.OpenLaw} {q : Program} {loose : List Str} {XP : (Str → Option Value) → Heap → Prop} {YP : World → Heap → Prop} {d : DefRec} {K : Params → PySem.W.Frag} {m : List D → R Ow} (k : Nat) (x : Str) (hn : l.most = some 63) (hdf : d.params.defaults = []) (hr : Room k callerA)
    (hY : ∀ (w : World) (h : Heap), YP w h → (K w.params).In h)
    (hm : ∀ ns : List Int, ns.length ≤ 63 → (∀ z ∈ ns, Builtin.Int.intBits z ≤ 1048576) → m [.list (ns.map .int)] = .ok (.d (.bool true)))
    (F : ∀ (w : World) (mg : Str → Option Value) (fa : Addr) (h : Heap), (K w.params).In h → h.Ns PySem.mainGlobals mg → mg d.name = some (.ref fa) →
      ∃ fd : FuncData, (∀ (s : Shared) (u : Value), BindsTo s fd ⟨[u], []⟩ [(x, u)]) ∧ ∀ base : Heap, (K w.params).In base → base.Ns PySem.mainGlobals mg → FnOk l.prog w (K w.params) mg base (L2.CX l.prog w) k fa fd [x] (spM ⟨K w.params, w⟩ mg 1 m)) :
    PySem.W.WalkO q loose XP YP l.row.toRowW d [] (fun f vs => PySem.call f vs) := by
  refine L2.walk_ofB (n := 63) (k := k) (x := x) (CX := fun w => L2.CX l.prog w) (sp := fun w => spL ⟨K w.params, w⟩ m) hn (by decide) hdf hr hY (fun w mg fa h a b c => ?_) (fun w H a ns hl hb _ hS => ?_) fun w H s e s' z => ?_
  · obtain ⟨fd, h1, h2⟩ := F w mg fa h a b c
    exact ⟨fd, h1, fun base p q => fnOk_spL (h2 base p q)⟩
  · refine ⟨H, [.list (ns.map .int)], _, Same.refl _, .cons (.lst hS (DpAll.of_ints ns)) .nil, rfl, hm ns hl hb, fun v F' H' _ ⟨fp, ow, _⟩ => ?_⟩
    cases ow with
    | d h => cases h; rfl
  · obtain ⟨_, _, _, _, _, _, _, _, _, _, _, _, z⟩ := z
    exact z
theorem room_eq {k : Nat} {A : Around} (r : Room k A) : A.units + 140 < cLine := by have := r.un; omega
end Mir
end
set_option Elab.async false
set_option linter.all false
set_option maxRecDepth 100000
set_option maxHeartbeats 4000000
noncomputable section
namespace Mir
open PySem PySem.Spec L2
section
variable {X : Cx} {W : WX} {S : Nat → Bool}
def gAddA : D → D → Option D
  | .int i, .int j => some (.int (i + j))
  | .str x, .str y => if x.length + y.length ≤ sizeLine then some (.str (x ++ y)) else none
  | _, _ => none
theorem iop_addA : OpR X (inplaceOp .Add) (fun x y H Q => rI0 (fun i j => .int (i + j)) x y H Q ∨ ∃ i j, x = .str i ∧ y = .str j ∧ i.length + j.length ≤ sizeLine ∧ Q (.str (i ++ j)) H) := OpR.or iop_add iop_add_str
theorem opS_addA {K : Kw} : OpS K (fun x y H Q => rI0 (fun i j => .int (i + j)) x y H Q ∨ ∃ i j, x = .str i ∧ y = .str j ∧ i.length + j.length ≤ sizeLine ∧ Q (.str (i ++ j)) H) gAddA := by
  intro H x y dx dy d Q hx hy e q
  unfold gAddA at e
  split at e
  · cases e
    cases dp_int hx
    cases dp_int hy
    exact .inl ⟨_, _, rfl, rfl, q _ fun F => .int _⟩
  · split at e
    · cases e
      cases dp_str hx
      cases dp_str hy
      exact .inr ⟨_, _, rfl, rfl, ‹_›, q _ fun F => .str _⟩
    · cases e
  · cases e
/-- name = [..], the list made data -/
theorem ds_setLcF {elt tg iter : Expr} {ifs : List Expr} {scope : Scope} {own : List (Str × Nat)} {g : D → Ev → Option Ev} {fi : Ev → R (List D)} {fc : Ev → R Bool} {fe : Ev → R Ow} {ix : List Nat} {y : Str} {py spos pos : Pos} (i : Nat) (hc : X.calm = true) (hN : X.N.Nodup) (hi : DI X W tg iter fi) (ok : BlkOk X.N X.env.scope scope own)
    (hg : ∀ (s : Shared) (H : Hp) (C : Addr) (cl : List (Str × Addr)) (fp : List Addr), DG (X.blk s H scope (compEnvC scope cl C X.env) fp) tg ix g) (ht : ∀ (s : Shared) (H : Hp) (C : Addr) (cl : List (Str × Addr)) (fp : List Addr), DTs (X.blk s H scope (compEnvC scope cl C X.env) fp) W0 ifs fc)
    (he : ∀ (s : Shared) (H : Hp) (C : Addr) (cl : List (Str × Addr)) (fp : List Addr), DE (X.blk s H scope (compEnvC scope cl C X.env) fp) W0 elt fe) (hix : ∀ i ∈ ix, i ∈ own.map (·.2) := by decide) (hs : ∀ x, foldedSetIterable iter X.env x = pure x := by intro _; rfl)
    (hy : X.N[i]? = some y := by rfl) (hyl : X.env.scope.names.lookup y = some .local := by rfl) (hsw : swapsWith (.ListComp elt [⟨tg, iter, ifs, 0⟩] scope pos) (some (.Name y py)) spos.line X.env = pure true := by exact sw_true rfl rfl rfl (by decide +kernel)) (hS : S i = true := by rfl) :
    DS X W S (.Assign [.Name y py] (.ListComp elt [⟨tg, iter, ifs, 0⟩] scope pos) spos) (sSet i (eM (eM (eLc fi g fc fe (own.map (·.2))) viewD) Ow.d)) := by
  obtain ⟨wi, pi, si⟩ := hi
  refine ⟨_, ps_setLc (g := tgOf X.KK ix g) (tt := tOf X.KK (Post X W0 PTb) fc) (te := tOf X.KK (Post X W0 (POw X.KK)) fe) hc hN hy hyl hsw pi ok (fun s H C cl fp => hg s H C cl fp) (fun s H C cl fp => (ht s H C cl fp).can) (fun s H C cl fp => (he s H C cl fp).can) hs, fun F H σ env fp D sat h => ?_⟩
  refine de_lc_core si hix F H σ env fp _ sat ?_
  unfold sSet eM at h
  cases e : eLc fi g fc fe (own.map (·.2)) env with
  | no => rw [e] at h; exact h
  | ex c => rw [e] at h; exact fun C F' H' m x => h C σ F' H' fp m (.refl _ _) (StepS.of_ext x fp) (sat.ext x)
  | ok r =>
    rw [e] at h
    intro v F' H' x ⟨fx, q, nd, n⟩
    have h' : PostS X W S σ F H fp D (if i < env.length then .nx (env.set i (some (.d (viewD r)))) else .no) := h
    split at h'
    · obtain ⟨F2, x2, q2⟩ := x.freeze q n
      obtain ⟨fp', s1, s2⟩ := put_step sat x2 (.d q2) List.nodup_nil (fun _ z => nomatch z) ‹_›
      exact h' _ F2 H' fp' (.set hS _) s1 s2
    · exact h'.elim
end
end Mir
end
set_option Elab.async false
set_option linter.all false
set_option maxRecDepth 100000
set_option maxHeartbeats 4000000
noncomputable section
namespace Mir
open PySem PySem.Spec L2

section
variable {α β γ : Type} (env : Ev)
@[simp] theorem eB_eq (f : Ev → R α) (g : α → R β) : eB f g env = (f env).bind g := rfl
@[simp] theorem eM_eq (f : Ev → R α) (g : α → β) : eM f g env = (f env).map g := rfl
@[simp] theorem eC_eq (d : D) : eC d env = .ok d := rfl
@[simp] theorem aNil_eq : aNil env = .ok [] := rfl
@[simp] theorem aCons_eq (f : Ev → R D) (g : Ev → R (List D)) : aCons f g env = (f env).bind fun d => (g env).map fun ds => d :: ds := rfl
@[simp] theorem eTup_eq (f : Ev → R (List D)) : eTup f env = (f env).bind fun ds => guard (ds.length ≤ sizeLine) (.ok (.tuple ds)) := rfl
@[simp] theorem eLst_eq (f : Ev → R (List D)) : eLst f env = (f env).bind fun ds => guard (ds.length ≤ sizeLine) (.ok (.l (ds.map Ow.d))) := rfl
@[simp] theorem eBin_eq (g : D → D → Option D) (f h : Ev → R D) : eBin g f h env = (f env).bind fun x => (h env).bind fun y => R.of (g x y) := rfl
@[simp] theorem eBinO_eq (g : D → D → Option Ow) (f h : Ev → R D) : eBinO g f h env = (f env).bind fun x => (h env).bind fun y => R.of (g x y) := rfl
@[simp] theorem eCa_eq (g : List D → Option Ow) (f : Ev → R (List D)) : eCa g f env = (f env).bind fun ds => R.of (g ds) := rfl
@[simp] theorem eNot_eq (f : Ev → R D) : eNot f env = ((f env).bind asB).bind fun b => .ok (.bool !b) := rfl
@[simp] theorem eAnd_eq (f g : Ev → R D) : eAnd f g env = ((f env).bind asB).bind fun b => if b = true then g env else .ok (.bool false) := rfl
@[simp] theorem eOr_eq (f g : Ev → R D) : eOr f g env = ((f env).bind asB).bind fun b => if b = true then .ok (.bool true) else g env := rfl
@[simp] theorem eIf_eq (c : Ev → R Bool) (f g : Ev → R D) : eIf c f g env = (c env).bind fun b => if b = true then f env else g env := rfl
@[simp] theorem tNotE_eq (f : Ev → R Bool) : tNotE f env = (f env).map (!·) := rfl
@[simp] theorem tAndE_eq (f g : Ev → R Bool) : tAndE f g env = (f env).bind fun b => if b = true then g env else .ok false := rfl
@[simp] theorem tOrE_eq (f g : Ev → R Bool) : tOrE f g env = (f env).bind fun b => if b = true then .ok true else g env := rfl
@[simp] theorem eRep_eq (f : Ev → R Ow) (g : Ev → R D) : eRep f g env = (f env).bind fun o => (g env).bind fun d => repO o d := rfl
@[simp] theorem eIxO_eq (f : Ev → R Ow) (g : Ev → R D) : eIxO f g env = (f env).bind fun o => (g env).bind fun d => ixO o d := rfl
@[simp] theorem eSl_eq (f : Ev → R D) (l h : Ev → R (Option Int)) : eSl f l h env = (f env).bind fun x => (l env).bind fun i => (h env).bind fun j => R.of (gSl x i j) := rfl
@[simp] theorem oNone_eq : oNone env = .ok none := rfl
@[simp] theorem asI_eq (i : Int) : asI (.int i) = .ok (some i) := rfl
@[simp] theorem cYes_eq : cYes env = .ok true := rfl
@[simp] theorem eVar_0 (x : D) : eVar 0 (some (.d x) :: env) = .ok x := rfl
@[simp] theorem eVarO_0 (x : Ow) : eVarO 0 (some x :: env) = .ok x := rfl
@[simp] theorem eVar_s (i : Nat) (x : Option Ow) : eVar (i + 1) (x :: env) = eVar i env := by unfold eVar; rw [List.getElem?_cons_succ]
@[simp] theorem eVarO_s (i : Nat) (x : Option Ow) : eVarO (i + 1) (x :: env) = eVarO i env := by unfold eVarO; rw [List.getElem?_cons_succ]
@[simp] theorem eVar_1 (a : Option Ow) (x : D) : eVar 1 (a :: some (.d x) :: env) = .ok x := rfl
@[simp] theorem eVar_2 (a b : Option Ow) (x : D) : eVar 2 (a :: b :: some (.d x) :: env) = .ok x := rfl
@[simp] theorem eVar_3 (a b c : Option Ow) (x : D) : eVar 3 (a :: b :: c :: some (.d x) :: env) = .ok x := rfl
@[simp] theorem eVar_4 (a b c d : Option Ow) (x : D) : eVar 4 (a :: b :: c :: d :: some (.d x) :: env) = .ok x := rfl
@[simp] theorem eVar_5 (a b c d e : Option Ow) (x : D) : eVar 5 (a :: b :: c :: d :: e :: some (.d x) :: env) = .ok x := rfl
@[simp] theorem eVar_6 (a b c d e f : Option Ow) (x : D) : eVar 6 (a :: b :: c :: d :: e :: f :: some (.d x) :: env) = .ok x := rfl
@[simp] theorem eVar_7 (a b c d e f g : Option Ow) (x : D) : eVar 7 (a :: b :: c :: d :: e :: f :: g :: some (.d x) :: env) = .ok x := rfl
@[simp] theorem eVar_8 (a b c d e f g h : Option Ow) (x : D) : eVar 8 (a :: b :: c :: d :: e :: f :: g :: h :: some (.d x) :: env) = .ok x := rfl
@[simp] theorem eVar_9 (a b c d e f g h i : Option Ow) (x : D) : eVar 9 (a :: b :: c :: d :: e :: f :: g :: h :: i :: some (.d x) :: env) = .ok x := rfl
@[simp] theorem eVarO_1 (a : Option Ow) (x : Ow) : eVarO 1 (a :: some x :: env) = .ok x := rfl
@[simp] theorem eVarO_2 (a b : Option Ow) (x : Ow) : eVarO 2 (a :: b :: some x :: env) = .ok x := rfl
@[simp] theorem eVarO_3 (a b c : Option Ow) (x : Ow) : eVarO 3 (a :: b :: c :: some x :: env) = .ok x := rfl
@[simp] theorem eVarO_4 (a b c d : Option Ow) (x : Ow) : eVarO 4 (a :: b :: c :: d :: some x :: env) = .ok x := rfl
@[simp] theorem eVarO_5 (a b c d e : Option Ow) (x : Ow) : eVarO 5 (a :: b :: c :: d :: e :: some x :: env) = .ok x := rfl
@[simp] theorem eVarO_6 (a b c d e f : Option Ow) (x : Ow) : eVarO 6 (a :: b :: c :: d :: e :: f :: some x :: env) = .ok x := rfl
@[simp] theorem eVarO_7 (a b c d e f g : Option Ow) (x : Ow) : eVarO 7 (a :: b :: c :: d :: e :: f :: g :: some x :: env) = .ok x := rfl
@[simp] theorem sSkip_eq : sSkip env = .nx env := rfl
@[simp] theorem sSeq_eq (f g : Ev → SR) : sSeq f g env = (f env).andThen g := rfl
@[simp] theorem sSet_eq (i : Nat) (f : Ev → R Ow) : sSet i f env = (f env).st env fun r => if i < env.length then .nx (env.set i (some r)) else .no := rfl
@[simp] theorem sRet_eq (f : Ev → R Ow) : sRet f env = (f env).st env fun r => .rt r env := rfl
@[simp] theorem sRetN_eq : sRetN env = .rt (.d .none) env := rfl
@[simp] theorem sIf_eq (c : Ev → R Bool) (f g : Ev → SR) : sIf c f g env = (c env).st env fun b => if b = true then f env else g env := rfl
@[simp] theorem sFor_eq (it : Ev → R (List D)) (g : D → Ev → Option Ev) (f : Ev → SR) : sFor it g f env = (it env).st env fun ds => forL g f ds env := rfl
@[simp] theorem sDrop_eq (f : Ev → R D) : sDrop f env = (f env).st env fun _ => .nx env := rfl
@[simp] theorem sAug_eq (h : D → D → Option D) (i : Nat) (f : Ev → R D) : sAug h i f env = (((eVar i env).bind fun x => (f env).bind fun y => R.of (h x y)).st env fun d => if i < env.length then .nx (env.set i (some (.d d))) else .no) := rfl
@[simp] theorem sAsg_eq (g : D → Ev → Option Ev) (f : Ev → R D) : sAsg g f env = (f env).st env fun d => match g d env with
  | some env' => .nx env'
  | none => .no := rfl
@[simp] theorem sApp_eq (i : Nat) (f : Ev → R Ow) : sApp i f env = ownL i env fun os => (f env).st env fun r => if os.length < sizeLine then .nx (env.set i (some (.l (os ++ [r])))) else .no := rfl
@[simp] theorem sExt_eq (i : Nat) (f : Ev → R D) : sExt i f env = ownL i env fun os => (f env).st env fun d => (asL d).st env fun ds => if os.length + ds.length ≤ sizeLine then .nx (env.set i (some (.l (os ++ ds.map Ow.d)))) else .no := rfl
@[simp] theorem sPut_eq (i : Nat) (f : Ev → R Ow) (g : Ev → R D) : sPut i f g env = (f env).st env fun r => ownL i env fun os => (g env).st env (putAt i env os r) := rfl
@[simp] theorem ownL_0 (os : List Ow) (k : List Ow → SR) : ownL 0 (some (.l os) :: env) k = k os := rfl
@[simp] theorem ownL_1 (a : Option Ow) (os : List Ow) (k : List Ow → SR) : ownL 1 (a :: some (.l os) :: env) k = k os := rfl
@[simp] theorem ownL_2 (a b : Option Ow) (os : List Ow) (k : List Ow → SR) : ownL 2 (a :: b :: some (.l os) :: env) k = k os := rfl
@[simp] theorem ownL_3 (a b c : Option Ow) (os : List Ow) (k : List Ow → SR) : ownL 3 (a :: b :: c :: some (.l os) :: env) k = k os := rfl
@[simp] theorem ownL_4 (a b c d : Option Ow) (os : List Ow) (k : List Ow → SR) : ownL 4 (a :: b :: c :: d :: some (.l os) :: env) k = k os := rfl
@[simp] theorem ownL_5 (a b c d e : Option Ow) (os : List Ow) (k : List Ow → SR) : ownL 5 (a :: b :: c :: d :: e :: some (.l os) :: env) k = k os := rfl
@[simp] theorem ownL_6 (a b c d e f : Option Ow) (os : List Ow) (k : List Ow → SR) : ownL 6 (a :: b :: c :: d :: e :: f :: some (.l os) :: env) k = k os := rfl
@[simp] theorem gtName_eq (i : Nat) (d : D) : gtName i d env = if i < env.length then some (env.set i (some (.d d))) else none := rfl
@[simp] theorem gtTup_eq (n : Nat) (h : List D → Ev → Option Ev) (ds : List D) : gtTup n h (.tuple ds) env = if ds.length = n then h ds env else none := rfl
@[simp] theorem gtCons_eq (g : D → Ev → Option Ev) (h : List D → Ev → Option Ev) (d : D) (ds : List D) : gtCons g h (d :: ds) env = (g d env).bind (h ds) := rfl
@[simp] theorem gtNil_eq : gtNil [] env = some env := rfl
theorem guard_ok {c : Prop} {r : R α} (h : c) : guard c r = r := guard_pos h
@[simp] theorem guard_true {r : R α} : guard True r = r := guard_pos trivial
@[simp] theorem guard_small {a : Nat} {r : R α} (h : a ≤ sizeLine) : guard (a ≤ sizeLine) r = r := guard_pos h
end
@[simp] theorem gAddA_int (i j : Int) : gAddA (.int i) (.int j) = some (.int (i + j)) := rfl
@[simp] theorem gEq_int (i j : Int) : gEq (.int i) (.int j) = some (.bool (i == j)) := rfl
@[simp] theorem gNe_int (i j : Int) : gNe (.int i) (.int j) = some (.bool (!(i == j))) := rfl
@[simp] theorem gNeg_int (i : Int) : gNeg (.int i) = .ok (.int (-i)) := rfl
@[simp] theorem gIx_lst (ds : List D) (i : Int) : gIx (.list ds) (.int i) = atI ds i := rfl
@[simp] theorem gIsi_int_int (i : Int) : gIsi "int" (.int i) = .ok (.bool true) := by rfl
@[simp] theorem gIsi_bool_int (i : Int) : gIsi "bool" (.int i) = .ok (.bool false) := by first | rfl | decide +kernel | kernel_rfl
@[simp] theorem gIsi_list_list (ds : List D) : gIsi "list" (.list ds) = .ok (.bool true) := by rfl
@[simp] theorem gIsi_tup_tup (ds : List D) : gIsi "tuple" (.tuple ds) = .ok (.bool true) := by rfl
@[simp] theorem ixO_l (os : List Ow) (k : Int) : ixO (.l os) (.int k) = match atI os k with
    | some o => .ok o
    | none => .no := rfl
@[simp] theorem R.st_no {α : Type} (env : Ev) (f : α → SR) : (R.no : R α).st env f = .no := rfl
theorem atI_natD {α : Type} {xs : List α} {k : Nat} {x : α} (h : xs[k]? = some x) : atI xs (k : Int) = some x := by
  unfold atI ixN
  have hl := (List.getElem?_eq_some_iff.mp h).1
  rw [if_pos (by omega), if_pos (by omega)]
  simpa using h
@[simp] theorem atI_0 {α : Type} (x : α) (xs : List α) : atI (x :: xs) 0 = some x := atI_natD (k := 0) rfl
@[simp] theorem atI_1 {α : Type} (x y : α) (xs : List α) : atI (x :: y :: xs) 1 = some y := atI_natD (k := 1) rfl
@[simp] theorem atI_2 {α : Type} (x y z : α) (xs : List α) : atI (x :: y :: z :: xs) 2 = some z := atI_natD (k := 2) rfl
@[simp] theorem atI_3 {α : Type} (x y z u : α) (xs : List α) : atI (x :: y :: z :: u :: xs) 3 = some u := atI_natD (k := 3) rfl
@[simp] theorem atI_4 {α : Type} (x y z u v : α) (xs : List α) : atI (x :: y :: z :: u :: v :: xs) 4 = some v := atI_natD (k := 4) rfl
theorem forL_ind {g : D → Ev → Option Ev} {f : Ev → SR} (items : List D) (I : Nat → Ev → Prop) (step : ∀ i d env, items[i]? = some d → I i env → ∃ env1, g d env = some env1 ∧ ∃ env2, (f env1 = .nx env2 ∨ f env1 = .ct env2) ∧ I (i + 1) env2) :
    ∀ env, I 0 env → ∃ env', forL g f items env = .nx env' ∧ I items.length env' := by
  suffices h : ∀ (ds : List D) (k : Nat) (env : Ev), items.drop k = ds → k ≤ items.length → I k env → ∃ env', forL g f ds env = .nx env' ∧ I items.length env' from fun env h0 => h items 0 env rfl (Nat.zero_le _) h0
  intro ds
  induction ds with
  | nil =>
    intro k env hd hk h
    have : k = items.length := by
      have := congrArg List.length hd
      simp at this
      omega
    subst this
    exact ⟨env, rfl, h⟩
  | cons d ds ih =>
    intro k env hd hk h
    have hk' : k < items.length := by
      have := congrArg List.length hd
      simp at this
      omega
    rw [List.drop_eq_getElem_cons hk'] at hd
    obtain ⟨e1, e2⟩ := List.cons.inj hd
    obtain ⟨env1, g1, env2, g2, g3⟩ := step k d env (by rw [List.getElem?_eq_getElem hk', e1]) h
    obtain ⟨env', r1, r2⟩ := ih (k + 1) env2 e2 hk' g3
    refine ⟨env', ?_, r2⟩
    unfold forL
    rw [g1]
    rcases g2 with g2 | g2 <;> (simp only; rw [g2]; exact r1)
theorem eLc_of {fi : Ev → R (List D)} {g : D → Ev → Option Ev} {c : Ev → R Bool} {e : Ev → R Ow} {vs : List Nat} {env : Ev} {ds : List D} {rs : List Ow} (h1 : fi env = .ok ds) (hl : ds.length ≤ sizeLine) (h2 : lcR g c e (wipeE env vs) ds = .ok rs) : eLc fi g c e vs env = .ok (.l rs) := by
  unfold eLc
  rw [h1, R.bind_ok, guard_ok hl, h2]
  rfl
def finR : SR → R Ow
  | .nx _ => .ok (.d .none)
  | .rt r _ => .ok r
  | .ex c _ => .ex c
  | _ => .no
theorem runB_fin (k : Nat) (f : Ev → SR) (ds : List D) : runB k f ds = finR (f (envOf k ds)) := by
  unfold runB
  cases f (envOf k ds) <;> rfl
@[simp] theorem finR_nx (env : Ev) : finR (.nx env) = .ok (.d .none) := rfl
@[simp] theorem finR_rt (r : Ow) (env : Ev) : finR (.rt r env) = .ok r := rfl
@[simp] theorem finR_ex (c : Str) (env : Ev) : finR (.ex c env) = .ex c := rfl
@[simp] theorem finR_no : finR .no = .no := rfl
@[simp] theorem envOf_nil (k : Nat) : envOf k [] = List.replicate k none := rfl
@[simp] theorem envOf_cons (k : Nat) (d : D) (ds : List D) : envOf k (d :: ds) = some (.d d) :: envOf k ds := rfl
end Mir
end
set_option Elab.async false
set_option linter.all false
set_option maxRecDepth 100000
set_option maxHeartbeats 4000000
noncomputable section
namespace Mir
open PySem PySem.Spec L2

section
variable {X : Cx} {W : WX} {S : Nat → Bool}
def sNo (_ : Ev) : SR := .no
def inD (d : D) (ds : List D) : Bool := ds.any fun e => PyData.eqv e d
def inOk (d : D) (ds : List D) : Bool := d.canLay0 && decide (d.depth ≤ 130) && ds.all fun e => e.canLay0
def gInB (neg : Bool) : D → D → Option D
  | .str x, .str z => match x.cps.toList with
    | [c] => some (.bool (xor neg (decide (c ∈ z.cps.toList))))
    | _ => none
  | d, .list ds => if inOk d ds = true then some (.bool (xor neg (inD d ds))) else none
  | d, .tuple ds => if inOk d ds = true then some (.bool (xor neg (inD d ds))) else none
  | _, _ => none
def gIn := gInB false
def gNotIn := gInB true
def rInA (K : Kw) (neg : Bool) : R2 := fun x y H Q => ∃ d ds, Dp K H x d ∧ (Dp K H y (.list ds) ∨ Dp K H y (.tuple ds)) ∧ inOk d ds = true ∧ Q (.bl (xor neg (inD d ds))) H
theorem inOk_cases {d : D} {ds : List D} (h : inOk d ds = true) : d.canLay0 = true ∧ d.depth ≤ 130 ∧ ∀ e ∈ ds, e.canLay0 = true := by
  unfold inOk at h
  simp only [Bool.and_eq_true, decide_eq_true_eq, List.all_eq_true] at h
  exact ⟨h.1.1, h.1.2, h.2⟩
open Classical in
/-- what the items answer, by the values -/
def eqW (s : Shared) (d : D) (ds : List D) (u : Value) : Bool := if ∃ e as, e ∈ ds ∧ PySem.Reads s.heap u e as ∧ PyData.eqv e d = true then true else false
theorem eqW_of {s : Shared} {d e : D} {ds : List D} {u : Value} {as : List Addr} (he : e ∈ ds) (hc : ∀ e ∈ ds, e.canLay0 = true) (r : PySem.Reads s.heap u e as) : eqW s d ds u = PyData.eqv e d := by
  unfold eqW
  cases h : PyData.eqv e d with
  | true => exact if_pos ⟨e, as, he, r, h⟩
  | false =>
    refine if_neg fun ⟨e', as', h1, h2, h3⟩ => ?_
    have := SeqAt.Reads.unique e' e u as' as (hc e' h1) h2 r
    subst this
    rw [h] at h3; cases h3
theorem any_eqW {s : Shared} {d : D} {ds0 : List D} (hc : ∀ e ∈ ds0, e.canLay0 = true) : ∀ {ds : List D} {us : List Value}, (∀ e ∈ ds, e ∈ ds0) → PySem.W.EachIs (fun v d => ∃ as, PySem.Reads s.heap v d as) us ds → us.any (eqW s d ds0) = ds.any fun e => PyData.eqv e d
  | _, _, _, .nil => rfl
  | _, _, hs, .cons ⟨as, r⟩ t => by
    rw [List.any_cons, List.any_cons, eqW_of (hs _ List.mem_cons_self) hc r, any_eqW hc (fun e he => hs e (List.mem_cons_of_mem _ he)) t]
theorem eachIs_mem {α β : Type} {T : α → β → Prop} : ∀ {as : List α} {bs : List β}, PySem.W.EachIs T as bs → ∀ a ∈ as, ∃ b ∈ bs, T a b
  | _, _, .nil, a, h => by cases h
  | _, _, .cons h t, a, hm => by
    rcases List.mem_cons.mp hm with e | e
    · subst e; exact ⟨_, List.mem_cons_self, h⟩
    · obtain ⟨b, b1, b2⟩ := eachIs_mem t a e
      exact ⟨b, List.mem_cons_of_mem _ b1, b2⟩
theorem each_reads0 {X : Cx} {pins : List (Addr × Obj)} {s : Shared} {σ : L2.St} {H : Hp} (I : Inv X pins σ H s) : ∀ {xs : List V} {vs : List Value} {ds : List D}, Vals xs vs → DpAll X.KK H xs ds → (∀ d ∈ ds, d.canLay0 = true) → PySem.W.EachIs (fun v d => ∃ as, PySem.Reads s.heap v d as) vs ds
  | _, _, _, .nil, h, _ => by cases h; exact .nil
  | _, _, _, .cons r t, h, c => by
    cases h with
    | cons h1 h2 => exact .cons (L2.Dp.reads I _ _ _ (Dp.kit _ _ h1 (c _ List.mem_cons_self)) r) (each_reads0 I t h2 fun d hd => c d (List.mem_cons_of_mem _ hd))
theorem op_inA (neg : Bool) (hu : X.A.units + 140 < cLine) : OpR X (compareOp (if neg then .NotIn else .In)) (rInA X.KK neg) := by
  intro pins s σ H x y v u Q I rx ry h
  obtain ⟨d, ds, hx, hy, ok, q⟩ := h
  obtain ⟨c1, c2, c3⟩ := inOk_cases ok
  obtain ⟨bs, rd⟩ := L2.Dp.reads I d x v (Dp.kit _ _ hx c1) rx
  have key : ∀ (its : List Value), PySem.W.EachIs (fun v d => ∃ as, PySem.Reads s.heap v d as) its ds → (∀ y, y ∈ its.toArray → SeqAt.EqAt X.A.in1 s y v (eqW s d ds y)) ∧ its.toArray.any (eqW s d ds) = inD d ds := fun its er => by
    refine ⟨fun w hw => ?_, ?_⟩
    · obtain ⟨e, he, as, re⟩ := eachIs_mem er w (by simpa using hw)
      rw [eqW_of he c3 re]
      refine SeqAt.eqAt_reads e d X.A.in1 s w v as bs re rd (c3 e he) c1 ?_
      have := Nat.min_le_right e.depth d.depth
      show X.A.units + 1 + min e.depth d.depth < cLine
      omega
    · rw [show its.toArray.any (eqW s d ds) = its.any (eqW s d ds) by simp, any_eqW c3 (fun _ h => h) er]
      rfl
  rcases hy with hy | hy
  · obtain ⟨p, xs, rfl, h1, h2⟩ := dp_lst hy
    obtain ⟨its, r, pl, hz⟩ := I.list h1
    cases ry
    obtain ⟨k1, k2⟩ := key its (each_reads0 I r h2 c3)
    cases neg with
    | false => exact SeqAt.in_listAt (eqW s d ds) pl.isList k1 ⟨.bl _, H, I, by rw [k2]; rfl, by simpa using q⟩
    | true => exact SeqAt.notIn_listAt (eqW s d ds) pl.isList k1 ⟨.bl _, H, I, by rw [k2]; rfl, by simpa using q⟩
  · obtain ⟨p, xs, rfl, h1, h2⟩ := dp_tup hy
    obtain ⟨its, r, pl, hz⟩ := I.tuple h1
    cases ry
    obtain ⟨k1, k2⟩ := key its (each_reads0 I r h2 c3)
    cases neg with
    | false => exact SeqAt.in_tupleAt (eqW s d ds) pl k1 ⟨.bl _, H, I, by rw [k2]; rfl, by simpa using q⟩
    | true => exact SeqAt.notIn_tupleAt (eqW s d ds) pl k1 ⟨.bl _, H, I, by rw [k2]; rfl, by simpa using q⟩
theorem str_one {x : Str} {c : Nat} (h : x.cps.toList = [c]) : x = ⟨#[c]⟩ := by
  cases x with
  | mk a =>
    have : a = #[c] := Array.toList_inj.mp h
    rw [this]
theorem opS_in {K : Kw} : OpS K (fun x y H Q => rInS x y H Q ∨ rInA K false x y H Q) gIn := by
  intro H x y dx dy d Q hx hy e q
  unfold gIn gInB at e
  split at e
  · rename_i a z
    split at e
    · rename_i c hc
      cases e
      cases dp_str hx
      cases dp_str hy
      exact .inl ⟨c, z, by rw [str_one hc], rfl, by simpa using q _ fun F => .bl _⟩
    · cases e
  · split at e
    · cases e
      exact .inr ⟨_, _, hx, .inl hy, ‹_›, q _ fun F => .bl _⟩
    · cases e
  · split at e
    · cases e
      exact .inr ⟨_, _, hx, .inr hy, ‹_›, q _ fun F => .bl _⟩
    · cases e
  · cases e
theorem opS_notIn {K : Kw} : OpS K (fun x y H Q => rNotInS x y H Q ∨ rInA K true x y H Q) gNotIn := by
  intro H x y dx dy d Q hx hy e q
  unfold gNotIn gInB at e
  split at e
  · rename_i a z
    split at e
    · rename_i c hc
      cases e
      cases dp_str hx
      cases dp_str hy
      exact .inl ⟨c, z, by rw [str_one hc], rfl, by simpa using q _ fun F => .bl _⟩
    · cases e
  · split at e
    · cases e
      exact .inr ⟨_, _, hx, .inl hy, ‹_›, q _ fun F => .bl _⟩
    · cases e
  · split at e
    · cases e
      exact .inr ⟨_, _, hx, .inr hy, ‹_›, q _ fun F => .bl _⟩
    · cases e
  · cases e
variable {a b : Expr} {pos : Pos} {f g : Ev → R D}
theorem op_inF (hu : X.A.units + 140 < cLine) : OpR X (compareOp .In) (rInA X.KK false) := op_inA false hu
theorem op_inT (hu : X.A.units + 140 < cLine) : OpR X (compareOp .NotIn) (rInA X.KK true) := op_inA true hu
theorem df_in (hu : X.A.units + 140 < cLine) (ha : DV X W a f) (hb : DV X W b g) (hm : behindInMarks .In b = false := by first | exact nomark _ | rfl) : DF X W (.Compare a [.In] [b] pos) (eBin gIn f g) := df_cmp (OpR.or op_inS (op_inF hu)) opS_in ha hb hm
theorem dt_in (hu : X.A.units + 140 < cLine) (ha : DV X W a f) (hb : DV X W b g) (hm : behindInMarks .In b = false := by first | exact nomark _ | rfl) : DT X W (.Compare a [.In] [b] pos) (eB (eBin gIn f g) asB) := dt_cmp (OpR.or op_inS (op_inF hu)) opS_in ha hb hm
theorem dt_notIn (hu : X.A.units + 140 < cLine) (ha : DV X W a f) (hb : DV X W b g) (hm : behindInMarks .NotIn b = false := by first | exact nomark _ | rfl) : DT X W (.Compare a [.NotIn] [b] pos) (eB (eBin gNotIn f g) asB) := dt_cmp (OpR.or op_notInS (op_inT hu)) opS_notIn ha hb hm
end
theorem gIn_sign (c : Nat) (z : Str) : gIn (.str ⟨#[c]⟩) (.str z) = some (.bool (decide (c ∈ z.cps.toList))) := by
  show some (PyData.bool (xor false (decide (c ∈ z.cps.toList)))) = _
  simp
@[simp] theorem sNo_eq (env : Ev) : sNo env = .no := rfl
end Mir
end
set_option Elab.async false
set_option linter.all false
set_option maxRecDepth 100000
noncomputable section
namespace Mir
open PySem PySem.Spec L2
@[simp] theorem ownL_7 (a0 a1 a2 a3 a4 a5 a6 : Option Ow) (os : List Ow) (env : Ev) (k : List Ow → SR) : ownL 7 (a0 :: a1 :: a2 :: a3 :: a4 :: a5 :: a6 :: some (.l os) :: env) k = k os := rfl
@[simp] theorem eVarO_8 (a0 a1 a2 a3 a4 a5 a6 a7 : Option Ow) (x : Ow) (env : Ev) : eVarO 8 (a0 :: a1 :: a2 :: a3 :: a4 :: a5 :: a6 :: a7 :: some x :: env) = .ok x := rfl
@[simp] theorem ownL_8 (a0 a1 a2 a3 a4 a5 a6 a7 : Option Ow) (os : List Ow) (env : Ev) (k : List Ow → SR) : ownL 8 (a0 :: a1 :: a2 :: a3 :: a4 :: a5 :: a6 :: a7 :: some (.l os) :: env) k = k os := rfl
@[simp] theorem eVarO_9 (a0 a1 a2 a3 a4 a5 a6 a7 a8 : Option Ow) (x : Ow) (env : Ev) : eVarO 9 (a0 :: a1 :: a2 :: a3 :: a4 :: a5 :: a6 :: a7 :: a8 :: some x :: env) = .ok x := rfl
@[simp] theorem ownL_9 (a0 a1 a2 a3 a4 a5 a6 a7 a8 : Option Ow) (os : List Ow) (env : Ev) (k : List Ow → SR) : ownL 9 (a0 :: a1 :: a2 :: a3 :: a4 :: a5 :: a6 :: a7 :: a8 :: some (.l os) :: env) k = k os := rfl
@[simp] theorem eVar_10 (a0 a1 a2 a3 a4 a5 a6 a7 a8 a9 : Option Ow) (x : D) (env : Ev) : eVar 10 (a0 :: a1 :: a2 :: a3 :: a4 :: a5 :: a6 :: a7 :: a8 :: a9 :: some (.d x) :: env) = .ok x := rfl
@[simp] theorem eVarO_10 (a0 a1 a2 a3 a4 a5 a6 a7 a8 a9 : Option Ow) (x : Ow) (env : Ev) : eVarO 10 (a0 :: a1 :: a2 :: a3 :: a4 :: a5 :: a6 :: a7 :: a8 :: a9 :: some x :: env) = .ok x := rfl
@[simp] theorem ownL_10 (a0 a1 a2 a3 a4 a5 a6 a7 a8 a9 : Option Ow) (os : List Ow) (env : Ev) (k : List Ow → SR) : ownL 10 (a0 :: a1 :: a2 :: a3 :: a4 :: a5 :: a6 :: a7 :: a8 :: a9 :: some (.l os) :: env) k = k os := rfl
@[simp] theorem eVar_11 (a0 a1 a2 a3 a4 a5 a6 a7 a8 a9 a10 : Option Ow) (x : D) (env : Ev) : eVar 11 (a0 :: a1 :: a2 :: a3 :: a4 :: a5 :: a6 :: a7 :: a8 :: a9 :: a10 :: some (.d x) :: env) = .ok x := rfl
@[simp] theorem eVarO_11 (a0 a1 a2 a3 a4 a5 a6 a7 a8 a9 a10 : Option Ow) (x : Ow) (env : Ev) : eVarO 11 (a0 :: a1 :: a2 :: a3 :: a4 :: a5 :: a6 :: a7 :: a8 :: a9 :: a10 :: some x :: env) = .ok x := rfl
@[simp] theorem ownL_11 (a0 a1 a2 a3 a4 a5 a6 a7 a8 a9 a10 : Option Ow) (os : List Ow) (env : Ev) (k : List Ow → SR) : ownL 11 (a0 :: a1 :: a2 :: a3 :: a4 :: a5 :: a6 :: a7 :: a8 :: a9 :: a10 :: some (.l os) :: env) k = k os := rfl
@[simp] theorem eVar_12 (a0 a1 a2 a3 a4 a5 a6 a7 a8 a9 a10 a11 : Option Ow) (x : D) (env : Ev) : eVar 12 (a0 :: a1 :: a2 :: a3 :: a4 :: a5 :: a6 :: a7 :: a8 :: a9 :: a10 :: a11 :: some (.d x) :: env) = .ok x := rfl
@[simp] theorem eVarO_12 (a0 a1 a2 a3 a4 a5 a6 a7 a8 a9 a10 a11 : Option Ow) (x : Ow) (env : Ev) : eVarO 12 (a0 :: a1 :: a2 :: a3 :: a4 :: a5 :: a6 :: a7 :: a8 :: a9 :: a10 :: a11 :: some x :: env) = .ok x := rfl
@[simp] theorem ownL_12 (a0 a1 a2 a3 a4 a5 a6 a7 a8 a9 a10 a11 : Option Ow) (os : List Ow) (env : Ev) (k : List Ow → SR) : ownL 12 (a0 :: a1 :: a2 :: a3 :: a4 :: a5 :: a6 :: a7 :: a8 :: a9 :: a10 :: a11 :: some (.l os) :: env) k = k os := rfl
@[simp] theorem eVar_13 (a0 a1 a2 a3 a4 a5 a6 a7 a8 a9 a10 a11 a12 : Option Ow) (x : D) (env : Ev) : eVar 13 (a0 :: a1 :: a2 :: a3 :: a4 :: a5 :: a6 :: a7 :: a8 :: a9 :: a10 :: a11 :: a12 :: some (.d x) :: env) = .ok x := rfl
@[simp] theorem eVarO_13 (a0 a1 a2 a3 a4 a5 a6 a7 a8 a9 a10 a11 a12 : Option Ow) (x : Ow) (env : Ev) : eVarO 13 (a0 :: a1 :: a2 :: a3 :: a4 :: a5 :: a6 :: a7 :: a8 :: a9 :: a10 :: a11 :: a12 :: some x :: env) = .ok x := rfl
@[simp] theorem ownL_13 (a0 a1 a2 a3 a4 a5 a6 a7 a8 a9 a10 a11 a12 : Option Ow) (os : List Ow) (env : Ev) (k : List Ow → SR) : ownL 13 (a0 :: a1 :: a2 :: a3 :: a4 :: a5 :: a6 :: a7 :: a8 :: a9 :: a10 :: a11 :: a12 :: some (.l os) :: env) k = k os := rfl
@[simp] theorem eVar_14 (a0 a1 a2 a3 a4 a5 a6 a7 a8 a9 a10 a11 a12 a13 : Option Ow) (x : D) (env : Ev) : eVar 14 (a0 :: a1 :: a2 :: a3 :: a4 :: a5 :: a6 :: a7 :: a8 :: a9 :: a10 :: a11 :: a12 :: a13 :: some (.d x) :: env) = .ok x := rfl
@[simp] theorem eVarO_14 (a0 a1 a2 a3 a4 a5 a6 a7 a8 a9 a10 a11 a12 a13 : Option Ow) (x : Ow) (env : Ev) : eVarO 14 (a0 :: a1 :: a2 :: a3 :: a4 :: a5 :: a6 :: a7 :: a8 :: a9 :: a10 :: a11 :: a12 :: a13 :: some x :: env) = .ok x := rfl
@[simp] theorem ownL_14 (a0 a1 a2 a3 a4 a5 a6 a7 a8 a9 a10 a11 a12 a13 : Option Ow) (os : List Ow) (env : Ev) (k : List Ow → SR) : ownL 14 (a0 :: a1 :: a2 :: a3 :: a4 :: a5 :: a6 :: a7 :: a8 :: a9 :: a10 :: a11 :: a12 :: a13 :: some (.l os) :: env) k = k os := rfl
@[simp] theorem eVar_15 (a0 a1 a2 a3 a4 a5 a6 a7 a8 a9 a10 a11 a12 a13 a14 : Option Ow) (x : D) (env : Ev) : eVar 15 (a0 :: a1 :: a2 :: a3 :: a4 :: a5 :: a6 :: a7 :: a8 :: a9 :: a10 :: a11 :: a12 :: a13 :: a14 :: some (.d x) :: env) = .ok x := rfl
@[simp] theorem eVarO_15 (a0 a1 a2 a3 a4 a5 a6 a7 a8 a9 a10 a11 a12 a13 a14 : Option Ow) (x : Ow) (env : Ev) : eVarO 15 (a0 :: a1 :: a2 :: a3 :: a4 :: a5 :: a6 :: a7 :: a8 :: a9 :: a10 :: a11 :: a12 :: a13 :: a14 :: some x :: env) = .ok x := rfl
@[simp] theorem ownL_15 (a0 a1 a2 a3 a4 a5 a6 a7 a8 a9 a10 a11 a12 a13 a14 : Option Ow) (os : List Ow) (env : Ev) (k : List Ow → SR) : ownL 15 (a0 :: a1 :: a2 :: a3 :: a4 :: a5 :: a6 :: a7 :: a8 :: a9 :: a10 :: a11 :: a12 :: a13 :: a14 :: some (.l os) :: env) k = k os := rfl
@[simp] theorem eVar_16 (a0 a1 a2 a3 a4 a5 a6 a7 a8 a9 a10 a11 a12 a13 a14 a15 : Option Ow) (x : D) (env : Ev) : eVar 16 (a0 :: a1 :: a2 :: a3 :: a4 :: a5 :: a6 :: a7 :: a8 :: a9 :: a10 :: a11 :: a12 :: a13 :: a14 :: a15 :: some (.d x) :: env) = .ok x := rfl
@[simp] theorem eVarO_16 (a0 a1 a2 a3 a4 a5 a6 a7 a8 a9 a10 a11 a12 a13 a14 a15 : Option Ow) (x : Ow) (env : Ev) : eVarO 16 (a0 :: a1 :: a2 :: a3 :: a4 :: a5 :: a6 :: a7 :: a8 :: a9 :: a10 :: a11 :: a12 :: a13 :: a14 :: a15 :: some x :: env) = .ok x := rfl
@[simp] theorem ownL_16 (a0 a1 a2 a3 a4 a5 a6 a7 a8 a9 a10 a11 a12 a13 a14 a15 : Option Ow) (os : List Ow) (env : Ev) (k : List Ow → SR) : ownL 16 (a0 :: a1 :: a2 :: a3 :: a4 :: a5 :: a6 :: a7 :: a8 :: a9 :: a10 :: a11 :: a12 :: a13 :: a14 :: a15 :: some (.l os) :: env) k = k os := rfl
@[simp] theorem eVar_17 (a0 a1 a2 a3 a4 a5 a6 a7 a8 a9 a10 a11 a12 a13 a14 a15 a16 : Option Ow) (x : D) (env : Ev) : eVar 17 (a0 :: a1 :: a2 :: a3 :: a4 :: a5 :: a6 :: a7 :: a8 :: a9 :: a10 :: a11 :: a12 :: a13 :: a14 :: a15 :: a16 :: some (.d x) :: env) = .ok x := rfl
@[simp] theorem eVarO_17 (a0 a1 a2 a3 a4 a5 a6 a7 a8 a9 a10 a11 a12 a13 a14 a15 a16 : Option Ow) (x : Ow) (env : Ev) : eVarO 17 (a0 :: a1 :: a2 :: a3 :: a4 :: a5 :: a6 :: a7 :: a8 :: a9 :: a10 :: a11 :: a12 :: a13 :: a14 :: a15 :: a16 :: some x :: env) = .ok x := rfl
@[simp] theorem ownL_17 (a0 a1 a2 a3 a4 a5 a6 a7 a8 a9 a10 a11 a12 a13 a14 a15 a16 : Option Ow) (os : List Ow) (env : Ev) (k : List Ow → SR) : ownL 17 (a0 :: a1 :: a2 :: a3 :: a4 :: a5 :: a6 :: a7 :: a8 :: a9 :: a10 :: a11 :: a12 :: a13 :: a14 :: a15 :: a16 :: some (.l os) :: env) k = k os := rfl
@[simp] theorem eVar_18 (a0 a1 a2 a3 a4 a5 a6 a7 a8 a9 a10 a11 a12 a13 a14 a15 a16 a17 : Option Ow) (x : D) (env : Ev) : eVar 18 (a0 :: a1 :: a2 :: a3 :: a4 :: a5 :: a6 :: a7 :: a8 :: a9 :: a10 :: a11 :: a12 :: a13 :: a14 :: a15 :: a16 :: a17 :: some (.d x) :: env) = .ok x := rfl
@[simp] theorem eVarO_18 (a0 a1 a2 a3 a4 a5 a6 a7 a8 a9 a10 a11 a12 a13 a14 a15 a16 a17 : Option Ow) (x : Ow) (env : Ev) : eVarO 18 (a0 :: a1 :: a2 :: a3 :: a4 :: a5 :: a6 :: a7 :: a8 :: a9 :: a10 :: a11 :: a12 :: a13 :: a14 :: a15 :: a16 :: a17 :: some x :: env) = .ok x := rfl
@[simp] theorem ownL_18 (a0 a1 a2 a3 a4 a5 a6 a7 a8 a9 a10 a11 a12 a13 a14 a15 a16 a17 : Option Ow) (os : List Ow) (env : Ev) (k : List Ow → SR) : ownL 18 (a0 :: a1 :: a2 :: a3 :: a4 :: a5 :: a6 :: a7 :: a8 :: a9 :: a10 :: a11 :: a12 :: a13 :: a14 :: a15 :: a16 :: a17 :: some (.l os) :: env) k = k os := rfl
@[simp] theorem eVar_19 (a0 a1 a2 a3 a4 a5 a6 a7 a8 a9 a10 a11 a12 a13 a14 a15 a16 a17 a18 : Option Ow) (x : D) (env : Ev) : eVar 19 (a0 :: a1 :: a2 :: a3 :: a4 :: a5 :: a6 :: a7 :: a8 :: a9 :: a10 :: a11 :: a12 :: a13 :: a14 :: a15 :: a16 :: a17 :: a18 :: some (.d x) :: env) = .ok x := rfl
@[simp] theorem eVarO_19 (a0 a1 a2 a3 a4 a5 a6 a7 a8 a9 a10 a11 a12 a13 a14 a15 a16 a17 a18 : Option Ow) (x : Ow) (env : Ev) : eVarO 19 (a0 :: a1 :: a2 :: a3 :: a4 :: a5 :: a6 :: a7 :: a8 :: a9 :: a10 :: a11 :: a12 :: a13 :: a14 :: a15 :: a16 :: a17 :: a18 :: some x :: env) = .ok x := rfl
@[simp] theorem ownL_19 (a0 a1 a2 a3 a4 a5 a6 a7 a8 a9 a10 a11 a12 a13 a14 a15 a16 a17 a18 : Option Ow) (os : List Ow) (env : Ev) (k : List Ow → SR) : ownL 19 (a0 :: a1 :: a2 :: a3 :: a4 :: a5 :: a6 :: a7 :: a8 :: a9 :: a10 :: a11 :: a12 :: a13 :: a14 :: a15 :: a16 :: a17 :: a18 :: some (.l os) :: env) k = k os := rfl
@[simp] theorem eVar_20 (a0 a1 a2 a3 a4 a5 a6 a7 a8 a9 a10 a11 a12 a13 a14 a15 a16 a17 a18 a19 : Option Ow) (x : D) (env : Ev) : eVar 20 (a0 :: a1 :: a2 :: a3 :: a4 :: a5 :: a6 :: a7 :: a8 :: a9 :: a10 :: a11 :: a12 :: a13 :: a14 :: a15 :: a16 :: a17 :: a18 :: a19 :: some (.d x) :: env) = .ok x := rfl
@[simp] theorem eVarO_20 (a0 a1 a2 a3 a4 a5 a6 a7 a8 a9 a10 a11 a12 a13 a14 a15 a16 a17 a18 a19 : Option Ow) (x : Ow) (env : Ev) : eVarO 20 (a0 :: a1 :: a2 :: a3 :: a4 :: a5 :: a6 :: a7 :: a8 :: a9 :: a10 :: a11 :: a12 :: a13 :: a14 :: a15 :: a16 :: a17 :: a18 :: a19 :: some x :: env) = .ok x := rfl
@[simp] theorem ownL_20 (a0 a1 a2 a3 a4 a5 a6 a7 a8 a9 a10 a11 a12 a13 a14 a15 a16 a17 a18 a19 : Option Ow) (os : List Ow) (env : Ev) (k : List Ow → SR) : ownL 20 (a0 :: a1 :: a2 :: a3 :: a4 :: a5 :: a6 :: a7 :: a8 :: a9 :: a10 :: a11 :: a12 :: a13 :: a14 :: a15 :: a16 :: a17 :: a18 :: a19 :: some (.l os) :: env) k = k os := rfl
@[simp] theorem eVar_21 (a0 a1 a2 a3 a4 a5 a6 a7 a8 a9 a10 a11 a12 a13 a14 a15 a16 a17 a18 a19 a20 : Option Ow) (x : D) (env : Ev) : eVar 21 (a0 :: a1 :: a2 :: a3 :: a4 :: a5 :: a6 :: a7 :: a8 :: a9 :: a10 :: a11 :: a12 :: a13 :: a14 :: a15 :: a16 :: a17 :: a18 :: a19 :: a20 :: some (.d x) :: env) = .ok x := rfl
@[simp] theorem eVarO_21 (a0 a1 a2 a3 a4 a5 a6 a7 a8 a9 a10 a11 a12 a13 a14 a15 a16 a17 a18 a19 a20 : Option Ow) (x : Ow) (env : Ev) : eVarO 21 (a0 :: a1 :: a2 :: a3 :: a4 :: a5 :: a6 :: a7 :: a8 :: a9 :: a10 :: a11 :: a12 :: a13 :: a14 :: a15 :: a16 :: a17 :: a18 :: a19 :: a20 :: some x :: env) = .ok x := rfl
@[simp] theorem ownL_21 (a0 a1 a2 a3 a4 a5 a6 a7 a8 a9 a10 a11 a12 a13 a14 a15 a16 a17 a18 a19 a20 : Option Ow) (os : List Ow) (env : Ev) (k : List Ow → SR) : ownL 21 (a0 :: a1 :: a2 :: a3 :: a4 :: a5 :: a6 :: a7 :: a8 :: a9 :: a10 :: a11 :: a12 :: a13 :: a14 :: a15 :: a16 :: a17 :: a18 :: a19 :: a20 :: some (.l os) :: env) k = k os := rfl
@[simp] theorem eVar_22 (a0 a1 a2 a3 a4 a5 a6 a7 a8 a9 a10 a11 a12 a13 a14 a15 a16 a17 a18 a19 a20 a21 : Option Ow) (x : D) (env : Ev) : eVar 22 (a0 :: a1 :: a2 :: a3 :: a4 :: a5 :: a6 :: a7 :: a8 :: a9 :: a10 :: a11 :: a12 :: a13 :: a14 :: a15 :: a16 :: a17 :: a18 :: a19 :: a20 :: a21 :: some (.d x) :: env) = .ok x := rfl
@[simp] theorem eVarO_22 (a0 a1 a2 a3 a4 a5 a6 a7 a8 a9 a10 a11 a12 a13 a14 a15 a16 a17 a18 a19 a20 a21 : Option Ow) (x : Ow) (env : Ev) : eVarO 22 (a0 :: a1 :: a2 :: a3 :: a4 :: a5 :: a6 :: a7 :: a8 :: a9 :: a10 :: a11 :: a12 :: a13 :: a14 :: a15 :: a16 :: a17 :: a18 :: a19 :: a20 :: a21 :: some x :: env) = .ok x := rfl
@[simp] theorem ownL_22 (a0 a1 a2 a3 a4 a5 a6 a7 a8 a9 a10 a11 a12 a13 a14 a15 a16 a17 a18 a19 a20 a21 : Option Ow) (os : List Ow) (env : Ev) (k : List Ow → SR) : ownL 22 (a0 :: a1 :: a2 :: a3 :: a4 :: a5 :: a6 :: a7 :: a8 :: a9 :: a10 :: a11 :: a12 :: a13 :: a14 :: a15 :: a16 :: a17 :: a18 :: a19 :: a20 :: a21 :: some (.l os) :: env) k = k os := rfl
@[simp] theorem eVar_23 (a0 a1 a2 a3 a4 a5 a6 a7 a8 a9 a10 a11 a12 a13 a14 a15 a16 a17 a18 a19 a20 a21 a22 : Option Ow) (x : D) (env : Ev) : eVar 23 (a0 :: a1 :: a2 :: a3 :: a4 :: a5 :: a6 :: a7 :: a8 :: a9 :: a10 :: a11 :: a12 :: a13 :: a14 :: a15 :: a16 :: a17 :: a18 :: a19 :: a20 :: a21 :: a22 :: some (.d x) :: env) = .ok x := rfl
@[simp] theorem eVarO_23 (a0 a1 a2 a3 a4 a5 a6 a7 a8 a9 a10 a11 a12 a13 a14 a15 a16 a17 a18 a19 a20 a21 a22 : Option Ow) (x : Ow) (env : Ev) : eVarO 23 (a0 :: a1 :: a2 :: a3 :: a4 :: a5 :: a6 :: a7 :: a8 :: a9 :: a10 :: a11 :: a12 :: a13 :: a14 :: a15 :: a16 :: a17 :: a18 :: a19 :: a20 :: a21 :: a22 :: some x :: env) = .ok x := rfl
@[simp] theorem ownL_23 (a0 a1 a2 a3 a4 a5 a6 a7 a8 a9 a10 a11 a12 a13 a14 a15 a16 a17 a18 a19 a20 a21 a22 : Option Ow) (os : List Ow) (env : Ev) (k : List Ow → SR) : ownL 23 (a0 :: a1 :: a2 :: a3 :: a4 :: a5 :: a6 :: a7 :: a8 :: a9 :: a10 :: a11 :: a12 :: a13 :: a14 :: a15 :: a16 :: a17 :: a18 :: a19 :: a20 :: a21 :: a22 :: some (.l os) :: env) k = k os := rfl
@[simp] theorem eVar_24 (a0 a1 a2 a3 a4 a5 a6 a7 a8 a9 a10 a11 a12 a13 a14 a15 a16 a17 a18 a19 a20 a21 a22 a23 : Option Ow) (x : D) (env : Ev) : eVar 24 (a0 :: a1 :: a2 :: a3 :: a4 :: a5 :: a6 :: a7 :: a8 :: a9 :: a10 :: a11 :: a12 :: a13 :: a14 :: a15 :: a16 :: a17 :: a18 :: a19 :: a20 :: a21 :: a22 :: a23 :: some (.d x) :: env) = .ok x := rfl
@[simp] theorem eVarO_24 (a0 a1 a2 a3 a4 a5 a6 a7 a8 a9 a10 a11 a12 a13 a14 a15 a16 a17 a18 a19 a20 a21 a22 a23 : Option Ow) (x : Ow) (env : Ev) : eVarO 24 (a0 :: a1 :: a2 :: a3 :: a4 :: a5 :: a6 :: a7 :: a8 :: a9 :: a10 :: a11 :: a12 :: a13 :: a14 :: a15 :: a16 :: a17 :: a18 :: a19 :: a20 :: a21 :: a22 :: a23 :: some x :: env) = .ok x := rfl
@[simp] theorem ownL_24 (a0 a1 a2 a3 a4 a5 a6 a7 a8 a9 a10 a11 a12 a13 a14 a15 a16 a17 a18 a19 a20 a21 a22 a23 : Option Ow) (os : List Ow) (env : Ev) (k : List Ow → SR) : ownL 24 (a0 :: a1 :: a2 :: a3 :: a4 :: a5 :: a6 :: a7 :: a8 :: a9 :: a10 :: a11 :: a12 :: a13 :: a14 :: a15 :: a16 :: a17 :: a18 :: a19 :: a20 :: a21 :: a22 :: a23 :: some (.l os) :: env) k = k os := rfl
@[simp] theorem eVar_25 (a0 a1 a2 a3 a4 a5 a6 a7 a8 a9 a10 a11 a12 a13 a14 a15 a16 a17 a18 a19 a20 a21 a22 a23 a24 : Option Ow) (x : D) (env : Ev) : eVar 25 (a0 :: a1 :: a2 :: a3 :: a4 :: a5 :: a6 :: a7 :: a8 :: a9 :: a10 :: a11 :: a12 :: a13 :: a14 :: a15 :: a16 :: a17 :: a18 :: a19 :: a20 :: a21 :: a22 :: a23 :: a24 :: some (.d x) :: env) = .ok x := rfl
@[simp] theorem eVarO_25 (a0 a1 a2 a3 a4 a5 a6 a7 a8 a9 a10 a11 a12 a13 a14 a15 a16 a17 a18 a19 a20 a21 a22 a23 a24 : Option Ow) (x : Ow) (env : Ev) : eVarO 25 (a0 :: a1 :: a2 :: a3 :: a4 :: a5 :: a6 :: a7 :: a8 :: a9 :: a10 :: a11 :: a12 :: a13 :: a14 :: a15 :: a16 :: a17 :: a18 :: a19 :: a20 :: a21 :: a22 :: a23 :: a24 :: some x :: env) = .ok x := rfl
@[simp] theorem ownL_25 (a0 a1 a2 a3 a4 a5 a6 a7 a8 a9 a10 a11 a12 a13 a14 a15 a16 a17 a18 a19 a20 a21 a22 a23 a24 : Option Ow) (os : List Ow) (env : Ev) (k : List Ow → SR) : ownL 25 (a0 :: a1 :: a2 :: a3 :: a4 :: a5 :: a6 :: a7 :: a8 :: a9 :: a10 :: a11 :: a12 :: a13 :: a14 :: a15 :: a16 :: a17 :: a18 :: a19 :: a20 :: a21 :: a22 :: a23 :: a24 :: some (.l os) :: env) k = k os := rfl
theorem fin_step {f g : Ev → SR} {env env1 : Ev} {o : R Ow} (h1 : f env = .nx env1) (h2 : finR (g env1) = o) : finR (sSeq f g env) = o := by
  rw [sSeq_eq, h1]
  exact h2
end Mir
end
set_option Elab.async false
set_option linter.all false
set_option maxRecDepth 100000
set_option maxHeartbeats 4000000
noncomputable section
namespace Mir
open PySem PySem.Spec L2

def PostX (K : Kw) {α β : Type} (P : Hp → α → β → Prop) (F H : Hp) (fp : List Addr) (σ : L2.St) : R (α × Ev) → (β → Hp → Prop) → Prop
  | .ok (a, env), Q => ∀ v F' H' fp', StepS F H fp F' H' fp' → Sat K F' H' σ env fp' → P F' a v → Q v H'
  | _, _ => False
def SmX (K : Kw) {α β : Type} (P : Hp → α → β → Prop) (t : L2.St → Hp → (β → Hp → Prop) → Prop) (f : Ev → R (α × Ev)) : Prop :=
  ∀ F H σ env fp Q, Sat K F H σ env fp → PostX K P F H fp σ (f env) Q → t σ H Q
def XD (K : Kw) (F : Hp) (d : D) (v : V) : Prop := Dp K F v d
section
variable {K : Kw} {α β γ δ : Type} {P : Hp → α → β → Prop} {P2 : Hp → γ → δ → Prop} {F H F1 H1 : Hp} {fp fp1 : List Addr} {σ : L2.St}
theorem PostX.step {r : R (α × Ev)} {Q : β → Hp → Prop} (h : PostX K P F H fp σ r Q) (s : StepS F H fp F1 H1 fp1) : PostX K P F1 H1 fp1 σ r Q := by
  cases r with
  | no => exact h
  | ex c => exact h
  | ok p => exact fun v F' H' fp' s' => h v F' H' fp' (s.trans s')
theorem SmX.go {t : L2.St → Hp → (β → Hp → Prop) → Prop} {f : Ev → R (α × Ev)} (s : SmX K P t f) {g : α × Ev → R (γ × Ev)} {env : Ev} {Q : δ → Hp → Prop} {T : β → Hp → Prop} (sat : Sat K F H σ env fp) (h : PostX K P2 F H fp σ ((f env).bind g) Q)
    (k : ∀ a env1 v F1 H1 fp1, StepS F H fp F1 H1 fp1 → Sat K F1 H1 σ env1 fp1 → P F1 a v → PostX K P2 F1 H1 fp1 σ (g (a, env1)) Q → T v H1) : t σ H T := by
  refine s F H σ env fp T sat ?_
  cases e : f env with
  | no => rw [e] at h; exact h
  | ex c => rw [e] at h; exact h
  | ok p =>
    obtain ⟨a, env1⟩ := p
    rw [e] at h
    exact fun v F' H' fp' st sat' q => k a env1 v F' H' fp' st sat' q (PostX.step (show PostX K P2 F H fp σ (g (a, env1)) Q from h) st)
end
section
variable (X : Cx)
def DXF (e : Expr) (f : Ev → R (D × Ev)) : Prop := ∃ t, PE X e t ∧ SmX X.KK (XD X.KK) t f
end
section
variable {X : Cx} {W : WX} {e a b : Expr} {es : List Expr} {pos p : Pos} {x : Str}
/-- a plain expression -/
def xP (f : Ev → R D) (env : Ev) : R (D × Ev) := match f env with
  | .ok d => .ok (d, env)
  | _ => .no
def xBin (g : D → D → Option D) (f h : Ev → R (D × Ev)) (env : Ev) : R (D × Ev) := (f env).bind fun p => (h p.2).bind fun q => (R.of (g p.1 q.1)).bind fun d => .ok (d, q.2)
def xNil (env : Ev) : R (List D × Ev) := .ok ([], env)
def xCons (f : Ev → R (D × Ev)) (g : Ev → R (List D × Ev)) (env : Ev) : R (List D × Ev) := (f env).bind fun p => (g p.2).bind fun q => .ok (p.1 :: q.1, q.2)
/-- a def that changes nothing, called -/
def xCall (m : List D → R Ow) (fa : Ev → R (List D × Ev)) (env : Ev) : R (D × Ev) := (fa env).bind fun p => match m p.1 with
  | .ok r => .ok (viewD r, p.2)
  | _ => .no
def lstAt (i : Nat) (env : Ev) : Option (List D) := match env[i]? with
  | some (some (.l os)) => unDs os
  | _ => none
end
end Mir
end
set_option Elab.async false
set_option linter.all false
set_option maxRecDepth 100000
set_option maxHeartbeats 4000000
noncomputable section
namespace Mir
open PySem PySem.Spec L2

def tOfX (K : Kw) (f : Ev → R (D × Ev)) : TE := fun σ H Q => ∃ F env fp, Sat K F H σ env fp ∧ PostX K (XD K) F H fp σ (f env) Q
theorem DXF.can {X : Cx} {e : Expr} {f : Ev → R (D × Ev)} (h : DXF X e f) : PE X e (tOfX X.KK f) := by
  obtain ⟨t, p, s⟩ := h
  refine PE.imp p ?_
  rintro σ H Q ⟨F, env, fp, sat, h⟩
  exact s F H σ env fp Q sat h
theorem EnvAt.re {K : Kw} {F H : Hp} {σ : L2.St} {env : Ev} {fp : List Addr} (h : EnvAt K F H σ env fp) : ∀ {σ' : L2.St}, σ'.length = σ.length → (∀ (j : Nat) (o : Ow), env[j]? = some (some o) → σ'[j]? = σ[j]?) → EnvAt K F H σ' env fp := by
  induction h with
  | nil =>
    intro σ' hl _
    cases σ' with
    | nil => exact .nil
    | cons => simp at hl
  | @non x σ env fp h ih =>
    intro σ' hl hs
    cases σ' with
    | nil => simp at hl
    | cons y σ' => exact .non (ih (by simpa using hl) fun j o e => by simpa using hs (j + 1) o (by simpa using e))
  | @som v o σ env fp fps h1 h2 ih =>
    intro σ' hl hs
    cases σ' with
    | nil => simp at hl
    | cons y σ' =>
      have := hs 0 o rfl
      simp at this
      subst this
      exact .som h1 (ih (by simpa using hl) fun j o e => by simpa using hs (j + 1) o (by simpa using e))
section
variable {X : Cx} {W : WX} {S : Nat → Bool} {pos : Pos}
def xSet (i : Nat) (r : R (D × Ev)) : SR := match r with
  | .ok (d, env1) => if i < env1.length then .nx (env1.set i (some (.d d))) else .no
  | _ => .no
def sXSet (i : Nat) (f : Ev → R (D × Ev)) (env : Ev) : SR := xSet i (f env)
def sXRet (f : Ev → R (D × Ev)) (env : Ev) : SR := match f env with
  | .ok (d, env1) => .rt (.d d) env1
  | _ => .no
/-- tuple(e), list handed -/
def xCa (g : List D → Option Ow) (fa : Ev → R (List D × Ev)) (env : Ev) : R (D × Ev) := (fa env).bind fun p => match g p.1 with
  | some r => .ok (viewD r, p.2)
  | none => .no
end
section
variable {P : Program} {w : World} {K : PySem.W.Frag} {mg : Str → Option Value} {base : Heap}
end
end Mir
end
set_option Elab.async false
set_option linter.all false
set_option maxRecDepth 100000
set_option maxHeartbeats 4000000
noncomputable section
namespace RT
open PySem PySem.Spec PyProof.Rows
section
variable {prog : Program} {w : World} {A : Around} {E : Value → Shared → Prop} {s : Shared}
end
end RT
namespace Mir
open PySem PySem.Spec PyProof.Rows L2 RT
section
variable {X : Cx} {W : WX}
def gListRev : D → Option Ow
  | .list ds => some (.l (ds.reverse.map Ow.d))
  | _ => none
@[simp] theorem gListRev_list (ds : List D) : gListRev (.list ds) = some (.l (ds.reverse.map Ow.d)) := rfl
theorem DpAll.reverse {K : Kw} {H : Hp} : ∀ {ds : List D} {vs : List V}, DpAll K H vs ds → DpAll K H vs.reverse ds.reverse
  | [], _, h => by cases h; exact .nil
  | d :: ds, _, h => by
    cases h with
    | cons h1 h2 =>
      rw [List.reverse_cons, List.reverse_cons]
      exact Mir.DpAll.append (DpAll.reverse h2) (.cons h1 .nil)
def eListRev (f : Ev → R D) (env : Ev) : R Ow := (f env).bind fun d => R.of (gListRev d)
@[simp] theorem eListRev_eq (f : Ev → R D) (env : Ev) : eListRev f env = (f env).bind fun d => R.of (gListRev d) := rfl
end
end Mir
end
set_option Elab.async false
set_option linter.all false
set_option maxRecDepth 100000
set_option maxHeartbeats 4000000
noncomputable section
namespace Mir
open PySem PySem.Spec PyProof.Rows L2
def repS (z : Str) (n : Nat) : Str := ⟨(List.replicate n z.cps.toList).flatten.toArray⟩
section
variable {X : Cx} {W : WX} {a b : Expr} {pos : Pos} {f g : Ev → R D}
def gMulS : D → D → Option D
  | .int i, .int j => gMul (.int i) (.int j)
  | .str z, .int n => if 1 ≤ n ∧ n ≤ 1000000 ∧ z.length * n.toNat ≤ sizeLine then some (.str (repS z n.toNat)) else none
  | _, _ => none
@[simp] theorem gMulS_int (i j : Int) : gMulS (.int i) (.int j) = gMul (.int i) (.int j) := rfl
def gIsB : D → D → Option D
  | .bool p, .bool q => some (.bool (p == q))
  | _, _ => none
def gNotB : D → D → Option D
  | .bool p, .bool q => some (.bool (!(p == q)))
  | _, _ => none
@[simp] theorem gIsB_bool (p q : Bool) : gIsB (.bool p) (.bool q) = some (.bool (p == q)) := rfl
@[simp] theorem gNotB_bool (p q : Bool) : gNotB (.bool p) (.bool q) = some (.bool (!(p == q))) := rfl
section
variable {F G : Ev → R (D × Ev)}
end
end
end Mir
end
set_option Elab.async false
set_option linter.all false
set_option maxRecDepth 100000
set_option maxHeartbeats 4000000
noncomputable section
namespace Mir
open PySem PySem.Spec L2
section
variable {X : Cx} {W : WX} {S : Nat → Bool} {pos : Pos}
/-- a target stored from an expression that changes own lists -/
def sXAsg (g : D → Ev → Option Ev) (f : Ev → R (D × Ev)) (env : Ev) : SR := match f env with
  | .ok (d, env1) => match g d env1 with
    | some env2 => .nx env2
    | none => .no
  | _ => .no
end
def flatD : D → Bool
  | .none => true
  | .bool _ => true
  | .int _ => true
  | .str _ => true
  | _ => false
def flatR : R Ow → R D
  | .ok (.d x) => if flatD x = true then .ok x else .no
  | .ex c => .ex c
  | _ => .no
def eCallV (m : List D → R Ow) (fa : Ev → R (List D)) (env : Ev) : R D := (fa env).bind fun ds => flatR (m ds)
@[simp] theorem eCallV_eq (m : List D → R Ow) (fa : Ev → R (List D)) (env : Ev) : eCallV m fa env = (fa env).bind fun ds => flatR (m ds) := rfl
@[simp] theorem flatR_bool (b : Bool) : flatR (.ok (.d (.bool b))) = .ok (.bool b) := rfl
@[simp] theorem flatR_int (b : Int) : flatR (.ok (.d (.int b))) = .ok (.int b) := rfl
@[simp] theorem flatR_none : flatR (.ok (.d .none)) = .ok .none := rfl
section
variable {X : Cx} {W : WX} {e : Expr} {es : List Expr} {pos p : Pos}
end
section
variable (env : Ev)
theorem lstAt_of {i : Nat} {env : Ev} {dk : List D} (h : env[i]? = some (some (.l (dk.map Ow.d)))) : lstAt i env = some dk := by unfold lstAt; rw [h]; exact unDs_map dk
@[simp] theorem lstAt_0 (dk : List D) : lstAt 0 (some (.l (dk.map Ow.d)) :: env) = some dk := lstAt_of rfl
@[simp] theorem lstAt_0n : lstAt 0 (some (.l []) :: env) = some [] := rfl
@[simp] theorem lstAt_s (i : Nat) (x : Option Ow) : lstAt (i + 1) (x :: env) = lstAt i env := by unfold lstAt; rw [List.getElem?_cons_succ]
@[simp] theorem xP_eq (f : Ev → R D) : xP f env = match f env with
  | .ok d => .ok (d, env)
  | _ => .no := rfl
@[simp] theorem xBin_eq (g : D → D → Option D) (f h : Ev → R (D × Ev)) : xBin g f h env = (f env).bind fun p => (h p.2).bind fun q => (R.of (g p.1 q.1)).bind fun d => .ok (d, q.2) := rfl
@[simp] theorem xNil_eq : xNil env = .ok ([], env) := rfl
@[simp] theorem xCons_eq (f : Ev → R (D × Ev)) (g : Ev → R (List D × Ev)) : xCons f g env = (f env).bind fun p => (g p.2).bind fun q => .ok (p.1 :: q.1, q.2) := rfl
@[simp] theorem xCall_eq (m : List D → R Ow) (fa : Ev → R (List D × Ev)) : xCall m fa env = (fa env).bind fun p => match m p.1 with
  | .ok r => .ok (viewD r, p.2)
  | _ => .no := rfl
@[simp] theorem xCa_eq (g : List D → Option Ow) (fa : Ev → R (List D × Ev)) : xCa g fa env = (fa env).bind fun p => match g p.1 with
  | some r => .ok (viewD r, p.2)
  | none => .no := rfl
@[simp] theorem sXSet_eq (i : Nat) (f : Ev → R (D × Ev)) : sXSet i f env = match f env with
  | .ok (d, env1) => if i < env1.length then .nx (env1.set i (some (.d d))) else .no
  | _ => .no := by unfold sXSet xSet; rfl
@[simp] theorem sXRet_eq (f : Ev → R (D × Ev)) : sXRet f env = match f env with
  | .ok (d, env1) => .rt (.d d) env1
  | _ => .no := rfl
@[simp] theorem sXAsg_eq (g : D → Ev → Option Ev) (f : Ev → R (D × Ev)) : sXAsg g f env = match f env with
  | .ok (d, env1) => match g d env1 with
    | some env2 => .nx env2
    | none => .no
  | _ => .no := rfl
end
end Mir
end
set_option Elab.async false
set_option linter.all false
set_option maxRecDepth 100000
set_option maxHeartbeats 4000000
noncomputable section
namespace Mir
open PySem PySem.Spec PyProof.Rows L2
def strsD : List D → Option (List Str)
  | [] => some []
  | .str z :: ds => (strsD ds).map fun zs => z :: zs
  | _ :: _ => none
theorem strsD_map : ∀ zs : List Str, strsD (zs.map PyData.str) = some zs
  | [] => rfl
  | z :: zs => by rw [List.map_cons, strsD, strsD_map zs]; rfl
theorem strsD_dp {K : Kw} {F : Hp} : ∀ {ds : List D} {vs : List V} {zs : List Str}, DpAll K F vs ds → strsD ds = some zs → vs = zs.map V.str
  | [], vs, zs, h, e => by cases h; cases e; rfl
  | d :: ds, vs, zs, h, e => by
    cases h with
    | cons h1 h2 =>
      unfold strsD at e
      split at e
      · rename_i he; cases he
      · rename_i z ds' he
        cases he
        obtain ⟨ws, w1, rfl⟩ := Option.map_eq_some_iff.mp e
        rw [strsD_dp h2 w1, List.map_cons]
        cases dp_str h1
        rfl
      · cases e
def joinS (a : Str) (ys : List Str) : Option D := open Classical in if (ys.map (·.length)).sum + ys.length * a.length ≤ 16777216 then some (.str (Txt.join a ys)) else none
def gJoin : D → D → Option D
  | .str a, .list ds => (strsD ds).bind (joinS a)
  | .str a, .tuple ds => (strsD ds).bind (joinS a)
  | _, _ => none
theorem joinS_ok {a : Str} {ys : List Str} (h : (ys.map (·.length)).sum + ys.length * a.length ≤ 16777216) : joinS a ys = some (.str (Txt.join a ys)) := by
  unfold joinS
  rw [if_pos h]
theorem gJoin_list {a : Str} {ys : List Str} (h : (ys.map (·.length)).sum + ys.length * a.length ≤ 16777216) : gJoin (.str a) (.list (ys.map PyData.str)) = some (.str (Txt.join a ys)) := by
  show (strsD _).bind _ = _
  rw [strsD_map]
  exact joinS_ok h
def eJoin (f g : Ev → R D) (env : Ev) : R D := (f env).bind fun d => match d with
  | .str z => (g env).bind fun d' => R.of (gJoin (.str z) d')
  | _ => .no
theorem eJoin_eq {f g : Ev → R D} {env : Ev} {a : Str} {d : D} (h : f env = .ok (.str a)) (h2 : g env = .ok d) : eJoin f g env = R.of (gJoin (.str a) d) := by
  unfold eJoin
  rw [h, R.bind_ok]
  simp only [h2, R.bind_ok]
section
variable {X : Cx} {W : WX} {o e : Expr} {apos pos : Pos} {f g : Ev → R D}
theorem joinS_some {a : Str} {ys : List Str} {d : D} (h : joinS a ys = some d) : (ys.map (·.length)).sum + ys.length * a.length ≤ 16777216 ∧ d = .str (Txt.join a ys) := by
  unfold joinS at h
  split at h
  · rename_i c
    exact ⟨c, (Option.some.inj h).symm⟩
  · cases h
theorem df_join (ho : DV X W o f) (he : DL X W e g)
    (hs : starEach [e] X.env = [(false, eval e X.env)] := by rfl)
    (hb : attributeBase o (Str.ofString "join") X.env (eval o X.env) = eval o X.env := by rfl)
    (hp : (apos.endLine == pos.line) = true := by rfl) : DF X W (.Call (.Attribute o "join" apos) [e] [] pos) (eJoin f g) := by
  obtain ⟨ta, pa, sa⟩ := ho
  obtain ⟨tb, pb, sb⟩ := he
  refine ⟨_, pe_join pa pb hs hb hp, fun F H σ env fp Q sat hp => ?_⟩
  refine sa.go sat hp fun d v F1 H1 sat1 q _ h1 => ?_
  have key : ∀ z, d = .str z → (∃ a, v = V.str a) := fun z hz => by subst hz; cases dp_str q; exact ⟨_, rfl⟩
  cases d with
  | str z =>
    refine ⟨key z rfl, ?_⟩
    cases dp_str q
    refine sb.go sat1 h1 fun d' v' F2 H2 sat2 q' x2 h2 => ?_
    obtain ⟨r, hr, h3⟩ := post_of h2
    cases d' with
    | list ds =>
      obtain ⟨ys, y1, y2⟩ := Option.bind_eq_some_iff.mp hr
      obtain ⟨c, rfl⟩ := joinS_some y2
      obtain ⟨p, vs, rfl, p1, p2⟩ := q'
      have ev := strsD_dp p2 y1
      subst ev
      exact ⟨z, p, ys, rfl, rfl, .inl p1, c, h3 _ _ _ (.refl sat2.fh) (.str _)⟩
    | tuple ds =>
      obtain ⟨ys, y1, y2⟩ := Option.bind_eq_some_iff.mp hr
      obtain ⟨c, rfl⟩ := joinS_some y2
      obtain ⟨p, vs, rfl, p1, p2⟩ := dp_tup q'
      have ev := strsD_dp p2 y1
      subst ev
      exact ⟨z, p, ys, rfl, rfl, .inr (SqT_mono sat2.fh p1), c, h3 _ _ _ (.refl sat2.fh) (.str _)⟩
    | _ => cases hr
  | _ => exact h1.elim
end
end Mir
end
set_option Elab.async false
set_option linter.all false
set_option maxRecDepth 100000
set_option maxHeartbeats 4000000
noncomputable section
namespace Mir
open PySem PySem.Spec PyProof.Rows L2
section
variable {X : Cx} {W : WX} {S : Nat → Bool} {e a b : Expr} {es : List Expr} {pos p : Pos} {x : Str}
def xTup (f : Ev → R (List D × Ev)) (env : Ev) : R (D × Ev) := (f env).bind fun p => guard (p.1.length ≤ sizeLine) (.ok (.tuple p.1, p.2))
def xBinO (g : D → D → Option Ow) (f h : Ev → R (D × Ev)) (env : Ev) : R (D × Ev) := (f env).bind fun p => (h p.2).bind fun q => (R.of (g p.1 q.1)).bind fun o => .ok (viewD o, q.2)
def xRg1 (f : Ev → R (List D × Ev)) (env : Ev) : R (List D × Ev) := (f env).bind fun p => (rg1 p.1).bind fun ds => .ok (ds, p.2)
end
section
variable {X : Cx} {W : WX} {S : Nat → Bool} {e : Expr} {pos cpos apos npos : Pos} {x : Str}
section
variable (env : Ev)
@[simp] theorem xTup_eq (f : Ev → R (List D × Ev)) : xTup f env = (f env).bind fun p => guard (p.1.length ≤ sizeLine) (.ok (.tuple p.1, p.2)) := rfl
@[simp] theorem xBinO_eq (g : D → D → Option Ow) (f h : Ev → R (D × Ev)) : xBinO g f h env = (f env).bind fun p => (h p.2).bind fun q => (R.of (g p.1 q.1)).bind fun o => .ok (viewD o, q.2) := rfl
@[simp] theorem xRg1_eq (f : Ev → R (List D × Ev)) : xRg1 f env = (f env).bind fun p => (rg1 p.1).bind fun ds => .ok (ds, p.2) := rfl
end
end
end Mir
end
set_option Elab.async false
set_option linter.all false
set_option maxRecDepth 100000
set_option maxHeartbeats 4000000
noncomputable section
namespace Mir
open PySem PySem.Spec PyProof.Rows L2
def pairsD : List D → Option (List (Str × D))
  | [] => some []
  | .tuple [.str k, v] :: ds => (pairsD ds).map fun r => (k, v) :: r
  | _ :: _ => none
/-- the last pair of the key -/
def lastP : List (Str × D) → Str → Option D
  | [], _ => none
  | p :: ps, k => (lastP ps k).or (if p.1 = k then some p.2 else none)
def asPairs : D → Option (List (Str × D))
  | .list ds => pairsD ds
  | _ => none
def lookP (ps : List (Str × D)) : D → Option D
  | .str k => lastP ps k
  | _ => none
def eDictIx (f g : Ev → R D) (env : Ev) : R D := (f env).bind fun d => match asPairs d with
  | none => .no
  | some ps => (g env).bind fun k => R.of (lookP ps k)
def inP (ps : List (Str × D)) (no : Bool) : D → Option D
  | .str k => some (.bool ((lastP ps k).isSome != no))
  | _ => none
def eInDict (no : Bool) (g f : Ev → R D) (env : Ev) : R D := (g env).bind fun k => (f env).bind fun d => match asPairs d with
  | none => .no
  | some ps => R.of (inP ps no k)
@[simp] theorem eDictIx_eq (f g : Ev → R D) (env : Ev) : eDictIx f g env = (f env).bind fun d => match asPairs d with
  | none => .no
  | some ps => (g env).bind fun k => R.of (lookP ps k) := rfl
@[simp] theorem eInDict_eq (no : Bool) (g f : Ev → R D) (env : Ev) : eInDict no g f env = (g env).bind fun k => (f env).bind fun d => match asPairs d with
  | none => .no
  | some ps => R.of (inP ps no k) := rfl
@[simp] theorem lookP_str (ps : List (Str × D)) (k : Str) : lookP ps (.str k) = lastP ps k := rfl
@[simp] theorem inP_str (ps : List (Str × D)) (no : Bool) (k : Str) : inP ps no (.str k) = some (.bool ((lastP ps k).isSome != no)) := rfl
section
variable {X : Cx} {W : WX} {e key : Expr} {p pos cpos : Pos} {f g : Ev → R D}
end
def boolsD : List D → Option (List Bool)
  | [] => some []
  | .bool b :: ds => (boolsD ds).map fun bs => b :: bs
  | _ :: _ => none
theorem boolsD_dp {K : Kw} {F : Hp} : ∀ {ds : List D} {vs : List V} {bs : List Bool}, DpAll K F vs ds → boolsD ds = some bs → vs = bs.map V.bl
  | [], vs, bs, h, e => by cases h; cases e; rfl
  | d :: ds, vs, bs, h, e => by
    cases h with
    | cons h1 h2 =>
      unfold boolsD at e
      split at e
      · rename_i he; cases he
      · rename_i b ds' he
        cases he
        obtain ⟨ws, w1, rfl⟩ := Option.map_eq_some_iff.mp e
        rw [boolsD_dp h2 w1, List.map_cons]
        cases dp_bool h1
        rfl
      · cases e
def gAny : List D → Option Ow
  | [.list ds] => (boolsD ds).map fun bs => .d (.bool (bs.any id))
  | _ => none
theorem caG_any {K : Kw} : CaG K (rAny K) gAny := by
  intro F H vs ds o Q s h e q
  unfold gAny at e
  split at e
  · obtain ⟨bs, b1, rfl⟩ := Option.map_eq_some_iff.mp e
    obtain ⟨v, rfl, w⟩ := psqs1 h
    obtain ⟨a, xs, rfl, q1, q2⟩ := w
    rw [boolsD_dp q2 b1] at q1
    exact ⟨a, bs, rfl, q1, q _ _ _ (.refl s) (own_d (.bl _))⟩
  · cases e
section
variable {X : Cx} {W : WX} {a b c : Expr} {pos : Pos} {f g h : Ev → R D}
theorem de_any {x : Expr} {p : Pos} {f : Ev → R (List D)} (hc : X.calm = true) (hg : Gl X "any") (hm : X.mg "any" = none) (ha : DAl X W [x] f) (he : starEach [x] X.env = (false, eval x X.env) :: starEach [] X.env := by rfl) : DE X W (.Call (.Name "any" p) [x] [] pos) (eCa gAny f) :=
  de_callB (cr_any hc) caG_any hg hm (by decide +kernel) ha (he := he)
end
end Mir
end
set_option Elab.async false
set_option linter.all false
set_option maxRecDepth 100000
set_option maxHeartbeats 4000000
noncomputable section
namespace Mir
open PySem PySem.Spec PyProof.Rows L2
theorem fits (x : Int) (h : -(2 ^ 62) ≤ x) (h' : x < 2 ^ 62) : Builtin.Range.rangeFitsLong x = true := by
  unfold Builtin.Range.rangeFitsLong
  simp only [Bool.and_eq_true, decide_eq_true_eq]
  constructor <;> omega
section
variable {X : Cx} {W : WX} {tg e e2 e3 : Expr} {p pos : Pos} {fa : Ev → R (List D)}
end
end Mir
end
set_option Elab.async false
set_option linter.all false
set_option maxRecDepth 100000
set_option maxHeartbeats 4000000
noncomputable section
namespace Mir
open PySem PySem.Spec PyProof.Rows L2
open AutoSeq1 (wpAny_loadPart')
section
variable {X : Cx} {W : WX} {S : Nat → Bool} {e : Expr} {pos cpos apos npos : Pos} {x : Str}
def asT : D → R (List D)
  | .tuple ds => .ok ds
  | _ => .no
@[simp] theorem asT_tup (ds : List D) : asT (.tuple ds) = .ok ds := rfl
def sExtT (i : Nat) (f : Ev → R D) (env : Ev) : SR := ownL i env fun os => (f env).st env fun d => (asT d).st env fun ds => if os.length + ds.length ≤ sizeLine then .nx (env.set i (some (.l (os ++ ds.map Ow.d)))) else .no
@[simp] theorem sExtT_eq (i : Nat) (f : Ev → R D) (env : Ev) : sExtT i f env = ownL i env fun os => (f env).st env fun d => (asT d).st env fun ds => if os.length + ds.length ≤ sizeLine then .nx (env.set i (some (.l (os ++ ds.map Ow.d)))) else .no := rfl
end
end Mir
end
set_option Elab.async false
set_option linter.all false
set_option maxRecDepth 100000
set_option maxHeartbeats 4000000
noncomputable section
namespace Mir
open PySem PySem.Spec PySem.Calls PyProof.Rows L2
def keyEq : D → D → Bool
  | .int i, .int j => i == j
  | .str x, .str y => x == y
  | _, _ => false
def isKey : D → Bool
  | .int _ => true
  | .str _ => true
  | _ => false
def getP (ps : List (D × D)) (k : D) : Option D := (ps.find? fun p => keyEq p.1 k).map (·.2)
def putP (ps : List (D × D)) (k v : D) : List (D × D) := if (ps.any fun p => keyEq p.1 k) = true then ps.map (fun p => if keyEq p.1 k = true then (p.1, v) else p) else ps ++ [(k, v)]
theorem key_of_data {k : D} (h : isKey k = true) : ∃ q : Key, k = keyD q := by
  cases k <;> first | cases h; done | skip
  · exact ⟨.inl _, rfl⟩
  · exact ⟨.inr _, rfl⟩
theorem keyEq_iff (p q : Key) : keyEq (keyD p) (keyD q) = decide (p = q) := by
  cases p <;> cases q <;> simp [keyD, keyEq] <;> rfl
theorem key_dp {K : Kw} {H : Hp} {v : V} {q : Key} (h : Dp K H v (keyD q)) : v = kV q := by
  cases q with
  | inl i => cases h; rfl
  | inr z => cases h; rfl
theorem dpKv_len {K : Kw} {H : Hp} : ∀ {kvs : List (Key × V)} {ps : List (D × D)}, DpKv K H kvs ps → kvs.length = ps.length
  | [], _, h => by cases h; rfl
  | p :: kvs, _, h => by
    cases h with
    | cons h1 h2 => simp [dpKv_len h2]
theorem dpKv_any {K : Kw} {H : Hp} (q : Key) : ∀ {kvs : List (Key × V)} {ps : List (D × D)}, DpKv K H kvs ps → (ps.any fun p => keyEq p.1 (keyD q)) = (kvs.any fun kv => decide (kv.1 = q))
  | [], _, h => by cases h; rfl
  | p :: kvs, _, h => by
    cases h with
    | cons h1 h2 =>
      rw [List.any_cons, List.any_cons, dpKv_any q h2]
      show (keyEq (keyD _) (keyD q) || _) = _
      rw [keyEq_iff]
theorem dpKv_get {K : Kw} {H : Hp} (q : Key) : ∀ {kvs : List (Key × V)} {ps : List (D × D)}, DpKv K H kvs ps → (getP ps (keyD q) = none ∧ valV kvs q = none) ∨ ∃ d v, getP ps (keyD q) = some d ∧ valV kvs q = some v ∧ Dp K H v d
  | [], _, h => by cases h; exact .inl ⟨rfl, rfl⟩
  | p :: kvs, _, h => by
    cases h with
    | @cons k v _ d ps h1 h2 =>
      by_cases c : k = q
      · refine .inr ⟨d, v, ?_, valV_pos c, h1⟩
        unfold getP
        rw [List.find?_cons_of_pos (by rw [keyEq_iff]; simpa using c)]
        rfl
      · have e1 : getP ((keyD k, d) :: ps) (keyD q) = getP ps (keyD q) := by
          unfold getP
          rw [List.find?_cons_of_neg (by rw [keyEq_iff]; simpa using c)]
        have e2 : valV ((k, v) :: kvs) q = valV kvs q := valV_neg c
        rw [e1, e2]
        exact dpKv_get q h2
theorem dpKv_map {K : Kw} {H : Hp} (q : Key) {w : V} {x : D} (hw : Dp K H w x) : ∀ {kvs : List (Key × V)} {ps : List (D × D)}, DpKv K H kvs ps → DpKv K H (kvs.map fun kv => if kv.1 = q then (kv.1, w) else kv) (ps.map fun p => if keyEq p.1 (keyD q) = true then (p.1, x) else p)
  | [], _, h => by cases h; exact .nil
  | p :: kvs, _, h => by
    cases h with
    | @cons k v _ d ps h1 h2 =>
      rw [List.map_cons, List.map_cons]
      have e : keyEq (keyD k) (keyD q) = decide (k = q) := keyEq_iff k q
      simp only [e, decide_eq_true_eq]
      by_cases c : k = q
      · rw [if_pos c, if_pos c]
        exact .cons hw (dpKv_map q hw h2)
      · rw [if_neg c, if_neg c]
        exact .cons h1 (dpKv_map q hw h2)
theorem dpKv_snoc {K : Kw} {H : Hp} {q : Key} {w : V} {x : D} (hw : Dp K H w x) : ∀ {kvs : List (Key × V)} {ps : List (D × D)}, DpKv K H kvs ps → DpKv K H (kvs ++ [(q, w)]) (ps ++ [(keyD q, x)])
  | [], _, h => by cases h; exact .cons hw .nil
  | p :: kvs, _, h => by
    cases h with
    | cons h1 h2 => exact .cons h1 (dpKv_snoc hw h2)
theorem dpKv_put {K : Kw} {H : Hp} {q : Key} {w : V} {x : D} (hw : Dp K H w x) {kvs : List (Key × V)} {ps : List (D × D)} (h : DpKv K H kvs ps) : DpKv K H (putK kvs q w) (putP ps (keyD q) x) := by
  unfold putK putP
  rw [dpKv_any q h]
  split
  · exact dpKv_map q hw h
  · exact dpKv_snoc hw h
section
variable {X : Cx} {W : WX} {S : Nat → Bool} {e k : Expr} {pos tpos npos p2 : Pos} {x : Str} {f g : Ev → R D}
/-- {} -/
def eDictNew (_ : Ev) : R Ow := .ok (.m [])
@[simp] theorem eDictNew_eq (env : Ev) : eDictNew env = .ok (.m []) := rfl
theorem de_dictNew : DE X W (.Dict [] [] pos) eDictNew := by
  refine ⟨_, pe_dnewK, fun F H σ env fp Q sat hp => ?_⟩
  intro p hn
  refine hp _ F _ (Ext.own sat.fh hn _) ⟨[p], .m (free_of sat.fh hn) upd_same .nil, by simp, fun b hb => by rw [List.mem_singleton.mp hb]; exact hn⟩
/-- the own dict at a slot -/
def mAt (i : Nat) (env : Ev) : Option (List (D × D)) := match env[i]? with
  | some (some (.m ps)) => some ps
  | _ => none
theorem keyEq_ref {K : Kw} {H : Hp} {b : Addr} {x : D} (q : Key) (h : Dp K H (.ref b) x) : keyEq x (keyD q) = false := by
  cases q <;> (cases h <;> rfl)
theorem getP_dcn {K : Kw} {H : Hp} (q : Key) : ∀ {ps : List (D × D)} {kvs : List (NestedKey × Addr × V)}, DpKn K H kvs ps → getP ps (keyD q) = none
  | [], _, _ => rfl
  | _ :: ps, _, h => by
    cases h with
    | cons h1 h2 h3 h4 =>
      unfold getP
      rw [List.find?_cons_of_neg (by rw [keyEq_ref q h1]; exact Bool.false_ne_true)]
      exact getP_dcn q h4
theorem getP_non {x : D} (q : Key) : getP [(.none, x)] (keyD q) = none := by cases q <;> rfl
/-- d[k], d any data that is a dict -/
def gGetD : D → D → Option D
  | .dict ps, k => if isKey k = true then getP ps k else none
  | _, _ => none
/-- the dict in slot i, and what is left when it is changed -/
theorem mut_stepO {F H F1 H1 : Hp} {a : Addr} {o o' : HO} (x : Ext F H F1 H1) (hf : F a = none) (h : H a = some o) : StepS F H [a] F1 (upd H1 a o') [a] := by
  refine ⟨x.ff, fun b u q n => ?_, fun b u q => (x.fn b u q).imp id .inr, fun b hb => .inl hb⟩
  rw [upd_ne (fun e => n (by rw [e]; exact List.mem_singleton.mpr rfl))]
  exact x.hh _ _ q
theorem mut_freeO {F H F1 H1 : Hp} {a : Addr} {o : HO} (x : Ext F H F1 H1) (hf : F a = none) (h : H a = some o) : F1 a = none := by
  cases q : F1 a with
  | none => rfl
  | some u =>
    rcases x.fn a u q with z | z
    · rw [hf] at z; cases z
    · rw [h] at z; cases z
theorem Sat.mutM {K : Kw} {F H : Hp} {σ : L2.St} {env : Ev} {fp : List Addr} (sat : Sat K F H σ env fp) {i : Nat} {ps : List (D × D)} (hi : env[i]? = some (some (.m ps))) : ∃ a kvs, σ[i]? = some (some (.ref a)) ∧ H a = some (.dK kvs) ∧ DpKv K F kvs ps ∧
    ∀ F1 H1 kvs' ps', Ext F H F1 H1 → DpKv K F1 kvs' ps' → ∃ fp', StepS F H fp F1 (upd H1 a (.dK kvs')) fp' ∧ Sat K F1 (upd H1 a (.dK kvs')) σ (env.set i (some (.m ps'))) fp' := by
  have hl : i < env.length := (List.getElem?_eq_some_iff.mp hi).1
  obtain ⟨fr, fo0, a1, a2, a3, a3', a4, a5, a6⟩ := sat.en.put hl sat.nd
  obtain ⟨v, e1, e2⟩ := a5 _ hi
  cases e2 with
  | @m a kvs _ h1 h2 h3 =>
    refine ⟨a, kvs, e1, h2, h3, fun F1 H1 kvs' ps' x dp' => ?_⟩
    have na : a ∉ fr := a4 a List.mem_cons_self
    have fa := mut_freeO x h1 h2
    have st : StepS F H [a] F1 (upd H1 a (.dK kvs')) [a] := mut_stepO x h1 h2
    obtain ⟨fp', b1, b2, b3⟩ := (a6 F1 (upd H1 a (.dK kvs')) [a] [a] st fun b hb z => na (by rw [← List.mem_singleton.mp z]; exact hb)).2 (.ref a) (.m ps') [a] (.m fa upd_same dp') (by simp) fun b hb => by rw [List.mem_singleton.mp hb]; exact na
    rw [set_self e1] at b3
    refine ⟨fp', ⟨st.ff, fun b o q n => st.fr b o q fun z => n (by rw [List.mem_singleton.mp z]; exact a2 a List.mem_cons_self), fun b o q => (st.fn b o q).imp id (.imp (fun z => by rw [List.mem_singleton.mp z]; exact a2 a List.mem_cons_self) id), fun b hb => ?_⟩, mut_same x.fh fa, b3, b1⟩
    rcases b2 b hb with q | q
    · rw [List.mem_singleton.mp q]; exact .inl (a2 a List.mem_cons_self)
    · exact .inl (a1 b q)
theorem paired_get {α β : Type} {F : α → β → Prop} : ∀ {l₁ : List α} {l₂ : List β} {j : Nat} {x : β}, Paired F l₁ l₂ → l₂[j]? = some x → ∃ y, l₁[j]? = some y ∧ F y x
  | _, _, j, x, .nil, h => by simp at h
  | _, _, 0, x, .cons h t, e => by simp at e; subst e; exact ⟨_, rfl, h⟩
  | _, _, j + 1, x, .cons h t, e => by
    obtain ⟨y, a, b⟩ := paired_get (j := j) t (by simpa using e)
    exact ⟨y, by simpa using a, b⟩
end
@[simp] theorem mAt_0 (ps : List (D × D)) (env : Ev) : mAt 0 (some (.m ps) :: env) = some ps := rfl
@[simp] theorem mAt_s (i : Nat) (x : Option Ow) (env : Ev) : mAt (i + 1) (x :: env) = mAt i env := by unfold mAt; rw [List.getElem?_cons_succ]
@[simp] theorem mAt_1 (a0 : Option Ow) (ps : List (D × D)) (env : Ev) : mAt 1 (a0 :: some (.m ps) :: env) = some ps := rfl
@[simp] theorem mAt_2 (a0 a1 : Option Ow) (ps : List (D × D)) (env : Ev) : mAt 2 (a0 :: a1 :: some (.m ps) :: env) = some ps := rfl
@[simp] theorem mAt_3 (a0 a1 a2 : Option Ow) (ps : List (D × D)) (env : Ev) : mAt 3 (a0 :: a1 :: a2 :: some (.m ps) :: env) = some ps := rfl
@[simp] theorem mAt_4 (a0 a1 a2 a3 : Option Ow) (ps : List (D × D)) (env : Ev) : mAt 4 (a0 :: a1 :: a2 :: a3 :: some (.m ps) :: env) = some ps := rfl
@[simp] theorem gGetD_dict (ps : List (D × D)) (k : D) : gGetD (.dict ps) k = if isKey k = true then getP ps k else none := rfl
@[simp] theorem isKey_int (i : Int) : isKey (.int i) = true := rfl
@[simp] theorem isKey_str (z : Str) : isKey (.str z) = true := rfl
end Mir
end
set_option Elab.async false
set_option linter.all false
set_option maxRecDepth 100000
set_option maxHeartbeats 4000000
noncomputable section
namespace Mir
open PySem PySem.Spec L2
section
variable {X : Cx} {W : WX} {S : Nat → Bool} {e k : Expr} {pos tpos npos p2 : Pos} {x : Str} {f g : Ev → R D}
/-- d[k], d data that stays and is a dict -/
theorem df_getD (hu : X.A.units + 140 < cLine) (he : DF X W e f) (hk : DV X W k g) (hs : NoSl k := by exact fun _ _ => rfl) : DF X W (.Subscript e k pos) (eBin gGetD f g) := by
  obtain ⟨te, pe, se⟩ := he
  obtain ⟨t, pk, sk⟩ := hk
  refine ⟨_, pe_dget (by omega) pe pk hs, fun F H σ env fp Q sat hp => ?_⟩
  refine se.go sat hp fun d u F1 H1 sat1 q1 x1 h1 => ?_
  refine sk.go sat1 h1 fun d2 u2 F2 H2 sat2 q2 x2 h2 => ?_
  obtain ⟨z, hz, h3⟩ := post_of h2
  have q1 : Dp X.KK F1 u d := q1
  cases d with
  | dict ps =>
    have hz' : (if isKey d2 = true then getP ps d2 else none) = some z := hz
    clear hz
    split at hz'
    · rename_i c
      have hz := hz'
      clear hz'
      obtain ⟨q, rfl⟩ := key_of_data c
      cases q1 with
      | @dct a kvs _ m2 m3 =>
        rcases dpKv_get q (DpKv.mono x2.ff _ _ m3) with ⟨g1, _⟩ | ⟨d, w, g1, g2, g3⟩
        · rw [g1] at hz; cases hz
        · rw [g1] at hz; cases hz
          have hg : DGet H2 a (kV q) (valV kvs q) := .inl ⟨kvs, q, Same.rd sat2.fh (Same.rd x2.ff m2), rfl, rfl⟩
          rw [g2] at hg
          refine ⟨a, w, rfl, ?_, h3 _ F2 H2 (.refl sat2.fh) g3⟩
          rw [key_dp q2]
          exact hg
      | @dcn a kvs _ m2 m3 => rw [getP_dcn q m3] at hz; cases hz
      | exc _ => rw [getP_non q] at hz; cases hz
      | ins _ => rw [getP_non q] at hz; cases hz
      | fnv _ => rw [getP_non q] at hz; cases hz
    · cases hz'
  | _ => cases hz
/-- what a stateful expression tells, walked: a list -/
def xSeq (f : Ev → R (D × Ev)) (env : Ev) : R (List D × Ev) := (f env).bind fun p => match p.1 with
  | .list ds => .ok (ds, p.2)
  | _ => .no
@[simp] theorem xSeq_eq (f : Ev → R (D × Ev)) (env : Ev) : xSeq f env = (f env).bind fun p => match p.1 with
  | .list ds => .ok (ds, p.2)
  | _ => .no := rfl
end
end Mir
end
set_option Elab.async false
set_option linter.all false
set_option maxRecDepth 100000
set_option maxHeartbeats 4000000
noncomputable section
namespace Mir
open PySem PySem.Spec PyProof.Rows L2
/-- what is to be known of an own class over ValueError -/
structure ExcT (K : PySem.W.Frag) (mg : Str → Option Value) (x : Str) (C : Addr) : Prop where
  gC : mg x = some (.ref C)
  ex : PySem.W.excIn K C [.type "ValueError", .type "Exception", .type "BaseException", .type "object"] "ValueError.__new__" = true
  kC : PySem.W.keepIn K (.ref C) = true
  bP : PySem.W.subIn K (.ref C) (.type "BaseException") = some true
  tP : PySem.W.typeIn K (.ref C) = some (.type "type")
def sRaise (x : Str) (env : Ev) : SR := .ex x env
@[simp] theorem sRaise_eq (x : Str) (env : Ev) : sRaise x env = .ex x env := rfl
section
variable {X : Cx} {W : WX} {S : Nat → Bool} {pos p p2 np pos' : Pos} {x m : Str} {j : Nat} {C : Addr}
theorem ds_raise (hc : X.calm = true) (tk : Takes X W) (T : ExcT X.K X.mg x C) (hg : Gl X x) (hdb : (x == ("__debug__" : Str)) = false := by decide) : DS X W S (.Raise (some (.Call (.Name x p) [.Constant (.str m) j p2] [] pos')) none pos) (sRaise x) := by
  refine ⟨_, ps_raise hc tk (pmk_own PySem.F.excBase_ValueError T.ex T.gC T.kC (raises_own T.bP T.tP) hg hdb), fun F H σ env fp D sat h => ?_⟩
  exact h C σ F H fp T.gC (.refl _ _) (StepS.of_ext (.refl sat.fh) fp) sat
theorem PSs.imp {st : List Stmt} {t t' : TS} (h : PSs X st t) (k : ∀ D σ H, t' D σ H → t D σ H) : PSs X st t' := ⟨fun pins s σ H D I q => h.run pins s σ H D I (k D σ H q)⟩
/-- canonical: what a block's mirror asks -/
def tsOf (X : Cx) (W : WX) (S : Nat → Bool) (f : Ev → SR) : TS := fun D σ H => ∃ F env fp, Sat X.KK F H σ env fp ∧ PostS X W S σ F H fp D (f env)
theorem DSs.can {st : List Stmt} {f : Ev → SR} (h : DSs X W S st f) : PSs X st (tsOf X W S f) := by
  obtain ⟨t, p, s⟩ := h
  refine PSs.imp p ?_
  rintro D σ H ⟨F, env, fp, sat, h⟩
  exact s F H σ env fp D sat h
end
section
variable {X : Cx} {W : WX} {S : Nat → Bool} {i : Nat} {a : Addr} {pos p p2 np pos' : Pos} {x n T : Str} {e e1 e2 : Expr} {g g1 g2 : Ev → R D}
/-- a flat name -/
def eFlat (k : Nat) (env : Ev) : R D := (eVar k env).bind fun d => if flatD d = true then .ok d else .no
@[simp] theorem eFlat_eq (k : Nat) (env : Ev) : eFlat k env = (eVar k env).bind fun d => if flatD d = true then .ok d else .no := rfl
/-- int(a truth) -/
def eIntB (g : Ev → R D) (env : Ev) : R D := (g env).bind fun d => match d with
  | .bool b => .ok (.int (if b = true then 1 else 0))
  | _ => .no
@[simp] theorem eIntB_eq (g : Ev → R D) (env : Ev) : eIntB g env = (g env).bind fun d => match d with
  | .bool b => .ok (.int (if b = true then 1 else 0))
  | _ => .no := rfl
/-- + of whole numbers -/
def eAddI (g1 g2 : Ev → R D) (env : Ev) : R D := (g1 env).bind fun x => (g2 env).bind fun y => match x, y with
  | .int i, .int j => .ok (.int (i + j))
  | _, _ => .no
@[simp] theorem eAddI_eq (g1 g2 : Ev → R D) (env : Ev) : eAddI g1 g2 env = (g1 env).bind fun x => (g2 env).bind fun y => match x, y with
  | .int i, .int j => .ok (.int (i + j))
  | _, _ => .no := rfl
theorem sat_set {K : Kw} {F H : Hp} {σ : L2.St} {env : Ev} {fp : List Addr} (sat : Sat K F H σ env fp) {i : Nat} (hi : i < env.length) (x : Option V) : ∃ fr, (∀ b ∈ fr, b ∈ fp) ∧ Sat K F H (σ.set i x) (env.set i none) fr := by
  obtain ⟨fr, fo, a1, a2, a3, a3', a4, a5, a6⟩ := sat.en.put hi sat.nd
  exact ⟨fr, a1, sat.fh, (a6 F H [] [] (StepS.of_ext (.refl sat.fh) []) fun b _ z => nomatch z).1 x, a3⟩
end
end Mir
end
set_option Elab.async false
set_option linter.all false
set_option maxRecDepth 100000
set_option maxHeartbeats 4000000
noncomputable section
namespace Mir
open PySem PySem.Spec PyProof.Rows L2
section
variable {X : Cx} {W : WX} {S : Nat → Bool} {i : Nat} {a : Addr} {pos p p2 np pos' : Pos} {x n T : Str} {e e1 e2 : Expr} {g g1 g2 : Ev → R D}
end
section
variable {K : PySem.W.Frag}
theorem kit_ref {D A : Addr} {b : Bool} (hd : PySem.W.hasDictIn K A = true) (ht : PySem.W.typeIn K (.ref A) = some (.type "type")) (hs : PySem.W.subIn K (.ref D) (.ref A) = some b) (hr : PySem.W.subIn K (.ref D) (.ref D) = some true) : PySem.W.kitOne K (.ref D) (.ref A) = some b := by
  obtain ⟨cd, hc, _⟩ := PySem.W.any_some hd
  show (if ((Value.ref D == Value.ref A) = true) then some true else PySem.W.kitCls K (.ref D) (.ref A)) = some b
  by_cases e : (Value.ref D == Value.ref A) = true
  · rw [if_pos e]
    have : D = A := Value.ref.inj (beq_iff_eq.mp e)
    subst this
    exact hr.symm.trans hs
  · rw [if_neg e]
    have e2 : ((PySem.W.clsIn K A).isSome && PySem.W.typeIn K (.ref A) == some (.type "type")) = true := by rw [hc, ht] <;> rfl
    show (if ((PySem.W.clsIn K A).isSome && PySem.W.typeIn K (.ref A) == some (.type "type")) = true then PySem.W.subIn K (.ref D) (.ref A) else none) = some b
    rw [if_pos e2]
    exact hs
theorem kit_type {D : Addr} {T : String} {b : Bool} (hm : PySem.W.kitMeta T = true) (hs : PySem.W.subIn K (.ref D) (.type T) = some b) : PySem.W.kitOne K (.ref D) (.type T) = some b := by
  show (if ((Value.ref D == Value.type T) = true) then some true else if PySem.W.kitMeta T = true then PySem.W.subIn K (.ref D) (.type T) else none) = some b
  rw [if_neg (fun e => by cases (beq_iff_eq.mp e)), if_pos hm]
  exact hs
end
end Mir
end
set_option Elab.async false
set_option linter.all false
set_option maxRecDepth 100000
set_option maxHeartbeats 4000000
noncomputable section
namespace Mir
open PySem PySem.Spec PyProof.Rows L2
def gLtS : D → D → Option D
  | .str x, .str y => some (.bool (decide (x.cps.toList < y.cps.toList)))
  | _, _ => none
@[simp] theorem gLtS_str (x y : Str) : gLtS (.str x) (.str y) = some (.bool (decide (x.cps.toList < y.cps.toList))) := rfl
section
variable {X : Cx} {W : WX} {a b : Expr} {f g : Ev → R D} {pos : Pos}
end
end Mir
end
set_option Elab.async false
set_option linter.all false
set_option maxRecDepth 100000
set_option maxHeartbeats 4000000
noncomputable section
namespace Mir
open PySem PySem.Spec PyProof.Rows L2
section
variable {X : Cx} {W : WX} {S : Nat → Bool} {e k : Expr} {pos cpos apos npos tpos : Pos} {x : Str}
end
end Mir
end
set_option Elab.async false
set_option linter.all false
set_option maxRecDepth 100000
set_option maxHeartbeats 4000000
noncomputable section
namespace Mir
open PySem PySem.Spec PyProof.Rows L2
section
variable {K : Kw} {F H : Hp} {σ : L2.St} {env : Ev} {fp : List Addr}
end
section
variable {X : Cx} {W : WX} {S : Nat → Bool} {e k k2 : Expr} {pos cpos apos npos tpos tpos2 : Pos} {x : Str}
end
end Mir
end
set_option Elab.async false
set_option linter.all false
set_option maxRecDepth 100000
set_option maxHeartbeats 4000000
noncomputable section
namespace Mir
open PySem PySem.Spec PyProof.Rows L2
section
variable {X : Cx} {W : WX} {S : Nat → Bool} {e k : Expr} {es : List Expr} {pos cpos apos npos p p2 pos2 : Pos} {x : Str} {tg : Expr}
def mergeD (acc : List (D × D)) (ps : List (Str × D)) : List (D × D) := ps.foldl (fun acc p => putP acc (.str p.1) p.2) acc
def eDictOf (f : Ev → R D) (env : Ev) : R Ow := (f env).bind fun d => match asPairs d with
  | none => .no
  | some ps => .ok (.m (mergeD [] ps))
@[simp] theorem eDictOf_eq (f : Ev → R D) (env : Ev) : eDictOf f env = (f env).bind fun d => match asPairs d with
  | none => .no
  | some ps => .ok (.m (mergeD [] ps)) := rfl
def PAo (K : Kw) (H : Hp) (os : List Ow) (vs : List V) (F' H' : Hp) : Prop := ∃ fp, OwnAll K F' H' vs os fp ∧ fp.Nodup ∧ ∀ b ∈ fp, H b = none
def DAo (X : Cx) (W : WX) (es : List Expr) (f : Ev → R (List Ow)) : Prop := ∃ t, PA X es t ∧ Sm X W (PAo X.KK) t f
def oNil (_ : Ev) : R (List Ow) := .ok []
def oCons (f : Ev → R Ow) (g : Ev → R (List Ow)) (env : Ev) : R (List Ow) := (f env).bind fun o => (g env).map fun os => o :: os
@[simp] theorem oNil_eq (env : Ev) : oNil env = .ok [] := rfl
@[simp] theorem oCons_eq (f : Ev → R Ow) (g : Ev → R (List Ow)) (env : Ev) : oCons f g env = (f env).bind fun o => (g env).map fun os => o :: os := rfl
theorem dao_nil : DAo X W [] oNil := ⟨_, pa_nil, fun F H σ env fp Q sat h => h _ F H (.refl sat.fh) ⟨[], .nil, List.nodup_nil, fun b z => nomatch z⟩⟩
theorem dao_cons {f : Ev → R Ow} {g : Ev → R (List Ow)} (hf : DE X W e f) (hg : DAo X W es g) (hs : starEach (e :: es) X.env = (false, eval e X.env) :: starEach es X.env := by rfl) : DAo X W (e :: es) (oCons f g) := by
  obtain ⟨t, p, s⟩ := hf
  obtain ⟨t', p', s'⟩ := hg
  refine ⟨_, pa_cons p p' hs, fun F H σ env fp Q sat h => ?_⟩
  refine s F H σ env fp _ sat ?_
  unfold oCons at h
  cases ef : f env with
  | no => rw [ef] at h; exact h.elim
  | ex c => rw [ef] at h; exact h
  | ok o =>
    rw [ef] at h
    intro v F1 H1 x1 ⟨fx, ow, nx, fr⟩
    refine s' F1 H1 σ env fp _ (sat.ext x1) ?_
    cases eg : g env with
    | no => rw [eg] at h; exact h.elim
    | ex c => rw [eg] at h; exact fun C F' H' m x => h C F' H' m (x1.trans x)
    | ok os =>
      rw [eg] at h
      intro vs F2 H2 x2 ⟨fy, oy, ny, fry⟩
      have h' : Post X W (PAo X.KK) F H σ (.ok (o :: os)) Q := h
      refine h' (v :: vs) F2 H2 (x1.trans x2) ⟨fx ++ fy, .cons (ow.ext x2) oy, ?_, fun b hb => ?_⟩
      · rw [List.nodup_append]
        refine ⟨nx, ny, fun a ha b hb e => ?_⟩
        subst e
        obtain ⟨_, w, e⟩ := OwnAt.there _ _ _ ow a ha
        rw [fry a hb] at e; cases e
      · rcases List.mem_append.mp hb with z | z
        · exact fr b z
        · cases hz : H b with
          | none => rfl
          | some w => have := x1.hh _ _ hz; rw [fry b z] at this; cases this
def eLstO (f : Ev → R (List Ow)) (env : Ev) : R Ow := (f env).bind fun os => guard (os.length ≤ sizeLine) (.ok (.l os))
@[simp] theorem eLstO_eq (f : Ev → R (List Ow)) (env : Ev) : eLstO f env = (f env).bind fun os => guard (os.length ≤ sizeLine) (.ok (.l os)) := rfl
theorem de_lstO {f : Ev → R (List Ow)} (hf : DAo X W es f) : DE X W (.List es pos) (eLstO f) := by
  obtain ⟨t, p, s⟩ := hf
  refine ⟨_, pe_lst p, fun F H σ env fp Q sat h => ?_⟩
  refine s F H σ env fp _ sat ?_
  unfold eLstO at h
  cases ef : f env with
  | no => rw [ef] at h; exact h.elim
  | ex c => rw [ef] at h; exact h
  | ok os =>
    rw [ef] at h
    have h' : Post X W (POw X.KK) F H σ (guard (os.length ≤ sizeLine) (.ok (.l os))) Q := h
    intro vs F1 H1 x1 ⟨fy, oy, ny, fry⟩
    obtain ⟨hl, h2⟩ := guard_post h'
    refine ⟨by rw [OwnAll.len oy]; exact hl, fun p hp => ?_⟩
    have fh := x1.fh
    have x := Ext.own fh hp (.lst vs)
    have fp0 : ∀ b ∈ fy, b ≠ p := fun b hb e => by
      subst e
      obtain ⟨_, w, e⟩ := OwnAll.there _ _ _ oy b hb
      rw [hp] at e; cases e
    refine h2 _ F1 _ (x1.trans x) ⟨p :: fy, .l (free_of fh hp) upd_same (oy.ext x), List.nodup_cons.mpr ⟨fun z => fp0 p z rfl, ny⟩, fun b hb => ?_⟩
    rcases List.mem_cons.mp hb with z | z
    · subst z
      cases hz : H b with
      | none => rfl
      | some w => have := x1.hh _ _ hz; rw [hp] at this; cases this
    · exact fry b z
def eLenO (f : Ev → R Ow) (env : Ev) : R D := (f env).bind fun o => match o with
  | .l os => .ok (.int (os.length : Nat))
  | _ => .no
@[simp] theorem eLenO_eq (f : Ev → R Ow) (env : Ev) : eLenO f env = (f env).bind fun o => match o with
  | .l os => .ok (.int (os.length : Nat))
  | _ => .no := rfl
end
end Mir
end
set_option Elab.async false
set_option linter.all false
set_option maxRecDepth 100000
set_option maxHeartbeats 4000000
noncomputable section
namespace Mir
open PySem PySem.Spec PyProof.Rows L2
section
variable {K : Kw} {F H : Hp} {σ : L2.St} {env : Ev} {fp : List Addr}
end
section
variable {X : Cx} {W : WX} {S : Nat → Bool} {e k k2 : Expr} {pos npos tpos tpos2 : Pos} {x : Str}
end

section
variable {X : Cx} {W : WX} {S : Nat → Bool} {e : Expr} {st : Stmt} {fs : Ev → SR}
/-- an item of an own list, which is data -/
def asD : Ow → R D
  | .d x => .ok x
  | _ => .no
@[simp] theorem asD_d (x : D) : asD (.d x) = .ok x := rfl
end
end Mir
end
set_option Elab.async false
set_option linter.all false
set_option maxRecDepth 100000
set_option maxHeartbeats 4000000
noncomputable section
namespace Mir
open PySem PySem.Spec PyProof.Rows L2
section
variable {X : Cx} {W : WX} {S : Nat → Bool} {pos npos ypos : Pos} {x y : Str} {fs : Ev → SR}
end
end Mir
end
set_option Elab.async false
set_option linter.all false
set_option maxRecDepth 100000
set_option maxHeartbeats 4000000
noncomputable section
namespace Mir
open PySem PySem.Spec L2
section
variable {X : Cx} {es : List Expr} {pos : Pos}
def xLst (f : Ev → R (List D × Ev)) (env : Ev) : R (D × Ev) := (f env).bind fun p => guard (p.1.length ≤ sizeLine) (.ok (.list p.1, p.2))
@[simp] theorem xLst_eq (f : Ev → R (List D × Ev)) (env : Ev) : xLst f env = (f env).bind fun p => guard (p.1.length ≤ sizeLine) (.ok (.list p.1, p.2)) := rfl
end
end Mir
end
set_option Elab.async false
set_option linter.all false
set_option maxRecDepth 100000
set_option maxHeartbeats 4000000
noncomputable section
namespace Mir
open PySem PySem.Spec L2
section
variable {X : Cx} {W : WX} {S : Nat → Bool} {pos : Pos} {e a b : Expr} {x : Str} {npos : Pos}
end
end Mir
end
set_option Elab.async false
set_option linter.all false
set_option maxRecDepth 100000
set_option maxHeartbeats 4000000
noncomputable section
namespace Mir
open PySem PySem.Spec PyProof.Rows L2
section
variable {X : Cx} {W : WX} {o e : Expr} {apos cpos : Pos} {f g : Ev → R D}
def firstAt (z : Str) : List Str → Nat → Option Nat
  | [], _ => none
  | y :: ys, k => if (y == z) = true then some k else firstAt z ys (k + 1)
theorem firstAt_ok {z : Str} : ∀ {ys : List Str} {k j : Nat}, firstAt z ys k = some j → k ≤ j ∧ ys[j - k]? = some z ∧ ∀ m, m < j - k → ∀ y, ys[m]? = some y → (y == z) = false
  | [], k, j, h => by cases h
  | y :: ys, k, j, h => by
    rw [firstAt] at h
    by_cases c : (y == z) = true
    · rw [if_pos c] at h
      cases h
      rw [Nat.sub_self]
      exact ⟨Nat.le_refl _, by rw [eq_of_beq c]; rfl, fun m hm => by omega⟩
    · rw [if_neg c] at h
      obtain ⟨h1, h2, h3⟩ := firstAt_ok h
      have e : j - k = (j - (k + 1)) + 1 := by omega
      rw [e]
      refine ⟨by omega, h2, fun m hm y' hy => ?_⟩
      cases m with
      | zero =>
        have : y = y' := by simpa using hy
        subst this
        simpa using c
      | succ m => exact h3 m (by omega) y' (by simpa using hy)
def firstAtI (z : Int) : List Int → Nat → Option Nat
  | [], _ => none
  | y :: ys, k => if y = z then some k else firstAtI z ys (k + 1)
theorem firstAtI_ok {z : Int} : ∀ {ys : List Int} {k j : Nat}, firstAtI z ys k = some j → k ≤ j ∧ ys[j - k]? = some z ∧ ∀ m, m < j - k → ∀ y, ys[m]? = some y → y ≠ z
  | [], k, j, h => by cases h
  | y :: ys, k, j, h => by
    rw [firstAtI] at h
    by_cases c : y = z
    · rw [if_pos c] at h
      cases h
      rw [Nat.sub_self]
      exact ⟨Nat.le_refl _, by rw [c]; rfl, fun m hm => by omega⟩
    · rw [if_neg c] at h
      obtain ⟨h1, h2, h3⟩ := firstAtI_ok h
      have e : j - k = (j - (k + 1)) + 1 := by omega
      rw [e]
      refine ⟨by omega, h2, fun m hm y' hy => ?_⟩
      cases m with
      | zero =>
        have : y = y' := by simpa using hy
        subst this
        exact c
      | succ m => exact h3 m (by omega) y' (by simpa using hy)
/-- x.index(y): a text in a text, among texts, or a whole number among such -/
def gIndex : D → D → Option D
  | .str a, .str y => match Builtin.Str.occurrences a y 0 a.length 1 with
    | i :: _ => some (.int (i : Nat))
    | [] => none
  | .list ds, .str z => (strsD ds).bind fun ys => (firstAt z ys 0).map fun j => .int (j : Nat)
  | .list ds, .int z => (intsD ds).bind fun ys => (firstAtI z ys 0).map fun j => .int (j : Nat)
  | _, _ => none
def eLsIndex (f g : Ev → R D) (env : Ev) : R D := (f env).bind fun d => match d with
  | .list ds => (g env).bind fun y => R.of (gIndex (.list ds) y)
  | _ => .no
theorem df_lsIndex (ho : DL X W o f) (he : DV X W e g)
    (hbase : attributeBase o "index" X.env (eval o X.env) = eval o X.env := by rfl)
    (hfew : ((backTo cpos (starEach [e] X.env)).all (fun x => !x.1) && (backToKw cpos (keywordEach [] X.env)).all (fun x => x.1.isSome) && decide ([e].length + ([] : List Keyword).length + (if ([] : List Keyword).isEmpty then 0 else 1) < 30)) = true := by rfl)
    (hline : (apos.endLine == cpos.line) = true := by rfl) (hst : starEach [e] X.env = (false, eval e X.env) :: starEach [] X.env := by rfl) (hplain : (backTo cpos (starEach [] X.env)).any (·.1) = false := by rfl) :
    DF X W (.Call (.Attribute o "index" apos) [e] [] cpos) (eLsIndex f g) := by
  obtain ⟨ta, pa, sa⟩ := ho
  obtain ⟨tb, pb, sb⟩ := he
  refine ⟨_, pe_bm PySem.F.plainAttrs_list PySem.F.slot_list_index PySem.F.type_list_index mt_index pa (pa_cons pb pa_nil hst) hbase hfew hline hst hplain, fun F H σ env fp Q sat hp => ?_⟩
  refine sa.go sat hp fun d v F1 H1 sat1 q _ h1 => ?_
  cases d with
  | list ds =>
    obtain ⟨p, vs, rfl, q1, q2⟩ := q
    refine ⟨.inl ⟨rfl, vs, q1⟩, ?_⟩
    refine sb.go sat1 h1 fun d' y F2 H2 sat2 q' x2 h2 => ?_
    obtain ⟨r, hr, h3⟩ := post_of h2
    cases d' with
    | str z =>
      cases dp_str q'
      have hr : ((strsD ds).bind fun ys => (firstAt z ys 0).map fun j => PyData.int (j : Nat)) = some r := hr
      obtain ⟨ys, y1, y2⟩ := Option.bind_eq_some_iff.mp hr
      obtain ⟨j, j1, rfl⟩ := Option.map_eq_some_iff.mp y2
      have ev := strsD_dp q2 y1
      subst ev
      obtain ⟨_, k2, k3⟩ := firstAt_ok j1
      rw [Nat.sub_zero] at k2 k3
      refine ⟨p, ys.map V.str, .str z, j, .str z, rfl, rfl, x2.hh.seq q1, rfl, ?_, by rw [List.getElem?_map, k2]; rfl, ?_, fun m z' hm hz => ?_, h3 _ F2 H2 (.refl sat2.fh) (.int _)⟩
      · rw [List.all_map]
        exact List.all_eq_true.mpr fun _ _ => rfl
      · show (z == z) = true
        exact beq_self_eq_true z
      · rw [List.getElem?_map] at hz
        obtain ⟨y, hy, rfl⟩ := Option.map_eq_some_iff.mp hz
        exact k3 m hm y hy
    | int z =>
      cases dp_int q'
      have hr : ((intsD ds).bind fun ys => (firstAtI z ys 0).map fun j => PyData.int (j : Nat)) = some r := hr
      obtain ⟨ys, y1, y2⟩ := Option.bind_eq_some_iff.mp hr
      obtain ⟨j, j1, rfl⟩ := Option.map_eq_some_iff.mp y2
      have ed := intsD_eq y1
      subst ed
      have ev := DpAll.ints ys q2
      subst ev
      obtain ⟨_, k2, k3⟩ := firstAtI_ok j1
      rw [Nat.sub_zero] at k2 k3
      refine ⟨p, ys.map V.int, .int z, j, .int z, rfl, rfl, x2.hh.seq q1, rfl, ?_, by rw [List.getElem?_map, k2]; rfl, ?_, fun m z' hm hz => ?_, h3 _ F2 H2 (.refl sat2.fh) (.int _)⟩
      · rw [List.all_map]
        exact List.all_eq_true.mpr fun _ _ => rfl
      · show (z == z) = true
        exact beq_self_eq_true z
      · rw [List.getElem?_map] at hz
        obtain ⟨y, hy, rfl⟩ := Option.map_eq_some_iff.mp hz
        have := k3 m hm y hy
        show (y == z) = false
        simpa using this
    | _ => cases hr
  | _ => exact h1.elim
end
end Mir
end
set_option Elab.async false
set_option linter.all false
set_option maxRecDepth 100000
set_option maxHeartbeats 4000000
noncomputable section
namespace Mir
open PySem PySem.Spec PyProof.Rows L2
section
variable {X : Cx} {W : WX}
end
end Mir
end
set_option Elab.async false
set_option linter.all false
set_option maxRecDepth 100000
set_option maxHeartbeats 4000000
noncomputable section
namespace Mir
open PySem PySem.Spec PyProof.Rows L2
/-- an object that stood untracked is tracked -/
theorem Inv.track {X : Cx} {pins : List (Addr × Obj)} {σ : L2.St} {H : Hp} {s : Shared} (I : Inv X pins σ H s) {a : Addr} {φ : Heap → Prop} (na : H a = none) (np : ∀ p ∈ X.pn ++ pins, p.1 ≠ a) (nL : a ≠ X.env.locals) (nC : ∀ x c, X.env.cells.lookup x = some c → c ≠ a) (n0 : X.s_0.heap.get? a = none)
    (ok : ObjOk X.prog X.w (upd H a (.ext φ)) s.heap a (.ext φ)) : Inv X pins σ (upd H a (.ext φ)) s := by
  have ne : ∀ b o, H b = some o → b ≠ a := fun b o e z => by rw [z, na] at e; cases e
  refine ⟨I.ok, I.os, I.bare, ⟨I.base.keep, I.base.slot, fun b o e n x => ?_, I.base.there, fun b xs e => ?_, fun b o u e => ?_, fun b ps e => ?_⟩, I.loc, I.cell, by rw [upd_ne (Ne.symm nL)]; exact I.free, fun x c e => by rw [upd_ne (nC x c e)]; exact I.freeC x c e, fun p hp => ?_, fun b o e => ?_, I.len⟩
  · have : b ≠ a := fun z => by rw [z, n0] at e; cases e
    rw [upd_ne this]
    exact I.base.free b o e n x
  · have := I.base.tups b xs e
    rw [upd_ne (ne _ _ this)]; exact this
  · have := I.base.frzs b o u e
    rw [upd_ne (ne _ _ this)]; exact this
  · obtain ⟨m, q⟩ := I.base.tbls b ps e
    exact ⟨m, by rw [upd_ne (ne _ _ q)]; exact q⟩
  · obtain ⟨p1, p2, p3⟩ := I.pin p hp
    exact ⟨p1, by rw [upd_ne (np p hp)]; exact p2, p3⟩
  · by_cases z : b = a
    · subst z
      rw [upd_same] at e
      cases e
      exact ok
    · rw [upd_ne z] at e
      exact (I.hok b o e).stay (fun c u _ q => q) (fun c q => by rw [upd_ne (ne _ _ q)]; exact q) (fun c xs q => by rw [upd_ne (ne _ _ q)]; exact q)
/-- what an exception at hand may be tracked as -/
structure ExH (φ : Heap → Prop) (cls : Value) (d : Option Addr) (a : Addr) : Prop where
  of : ∀ (h : Heap) (oe : Obj) (vs : Array Value), h.get? a = some oe → Zc cls d oe → oe.data = .fields vs → φ h
  st : ∀ h1 h2 : Heap, φ h1 → (∀ o, h1.get? a = some o → h2.get? a = some o) → φ h2
def wAsT (K : PySem.W.Frag) (c : Value) (i : Nat) (ts : TS) (Wout : WX) (D : Ends) : WX := fun cls d σ H =>
  ∃ b, PySem.W.exmOne K cls c = some b ∧ (b = true → ∀ a, H a = none → ∃ φ, ExH φ cls d a ∧ ts { nx := fun σ' H' => D.nx (σ'.set i none) H', rt := D.rt, bk := fun σ' H' => D.bk (σ'.set i none) H', ct := fun σ' H' => D.ct (σ'.set i none) H' } (σ.set i (some (.ref a))) (upd H a (.ext φ))) ∧
    (b = false → Wout cls d σ H)
section
variable {X : Cx} {x n : Str} {c : Value} {i : Nat} {body suite : List Stmt} {b₀ : Stmt} {np pos pos' : Pos} {tb : WX → TS} {ts : TS} {Wout : WX}
theorem ps_try_asT (hx : X.ex = []) (hs : X.stack = X.env :: X.outer) (hf : X.env.frame = some X.env.locals) (hN : X.N.Nodup) (hi : X.N[i]? = some n) (hln : X.env.kindOf n = some .local) (hc : Names X x c) (tk : Takes X Wout)
    (hb : ∀ (W : WX) (pn : List (Addr × Obj)) (xe : Value → Shared → Prop), Takes (X.tr pn xe) W → PassesOwn (model X.prog X.w) X.A X.env xe → PSs (X.tr pn xe) body (tb W))
    (hsu : ∀ (a : Addr) (pn : List (Addr × Obj)), PSs (X.suite a pn) (b₀ :: suite) ts) :
    PS X (.Try body [.ExceptHandler (some (.Name x np)) (some n) (b₀ :: suite) pos'] [] [] pos) (fun D σ H => tb (wAsT X.K c i ts Wout D) D σ H) := by
  refine ⟨fun pins s σ H D I h => ?_⟩
  have ok := I.ok
  have hfr : X.A.frames = some (X.env :: X.outer) := by rw [ok.frames, hs]
  have hloc : Loc X.env.scope n := .inl hln
  refine wpAny_Try_except ?_
  refine wpAny_mono ((hb (wAsT X.K c i ts Wout D) (X.pn ++ pins) (fun e s₁ => wpAny (model X.prog X.w) X.A (noteFrame e X.env) (fun _ s₂ => wpAny (model X.prog X.w) X.A (setFlight e none) (fun _ s₃ =>
    wpAny (model X.prog X.w) X.A (handleBy e X.env [.ExceptHandler (some (.Name x np)) (some n) (b₀ :: suite) pos']) (SP X pins D) X.xe s₃) X.xe s₂) X.xe s₁) (fun u s' xx => ?_) PassesOwn.looking).run [] s σ H D (I.toTry _) h) (fun f s1 hsp => ?_) (fun e s1 he => he)
  · -- the catch
    obtain ⟨a, B, sI, pins', σ', H', cls, d, rfl, J', nb, up, sky, na, os, ag, b, hb1, hyes, hno⟩ := xx
    have J : Inv X pins σ' H' sI := J'.ofTry ok
    have hBa : B.get? a = none := by
      rcases sky with z | z | z
      · exact z.2.1
      · exact z.2.1
      · exact z.2.1
    have sky' : Sky B (X.env :: X.outer) a (Zc cls d) X.env.locals s'.heap := by rw [← hs]; exact sky
    show wpAny (model X.prog X.w) X.A (noteFrame (.ref a) X.env) _ _ _
    refine Sky.land Zc.steady hfr hf sky' fun h3 fl3 up3 => ?_
    have J3 : Inv X pins σ' H' { s' with heap := h3 } := J.landed nb fl3.1 (up.trans up3) os ag
    obtain ⟨oe3, vs3, he3, hz3, hd3⟩ := fl3.there
    have notFr : ∀ {h : Heap} {o : Obj} {vs : Array Value}, h.FunFrames B (X.env :: X.outer) → h.get? a = some o → o.data = .fields vs → a ∉ frs (X.env :: X.outer) := fun {h o vs} ff e dd hm => by
      obtain ⟨_, o', e', hnf⟩ := ff.mem hm
      rw [e] at e'; cases e'
      exact hnf _ dd
    have nfr := notFr fl3.2.2.1 he3 hd3
    have nL : a ≠ X.env.locals := fun z => nfr (List.mem_filterMap.mpr ⟨X.env, List.mem_cons_self, by rw [hf, z]⟩)
    have nF : a ∉ X.fs := fun hm => by
      obtain ⟨e, he, q⟩ := List.mem_filterMap.mp hm
      exact nfr (List.mem_filterMap.mpr ⟨e, List.mem_cons_of_mem _ he, q⟩)
    have fresh : sI.heap.get? a = none := by
      cases q : sI.heap.get? a with
      | none => rfl
      | some o =>
        have := nb a o q (by rw [hs]; exact nfr)
        rw [hBa] at this; cases this
    have n0 : X.s_0.heap.get? a = none := by
      cases q : X.s_0.heap.get? a with
      | none => rfl
      | some o =>
        obtain ⟨o', q'⟩ := J.base.there a o q (by rw [hx]; simp)
        rw [fresh] at q'; cases q'
    have nP : ∀ p ∈ X.pn ++ pins, p.1 ≠ a := fun p hp z => by
      have := (J.pin p hp).1
      rw [z, fresh] at this; cases this
    have nCl : ∀ y k, X.env.cells.lookup y = some k → k ≠ a := fun y k e z => by
      obtain ⟨v, o, q, _⟩ := J.cell y k e
      rw [z, fresh] at q; cases q
    have S3 := J3.suite he3 hd3 na nL nF
    refine wpAny_handleBy_cons (codeAny_handlers_test ?_) (by intro q; cases q)
    have LT : PySem.W.Looks (model X.prog X.w) h3 (typeOf (.ref a)) cls := fun A Q E s k q => wpAny_typeOf_ref (k _ _ he3) (by rw [hz3.1]; exact q)
    have LM := PySem.W.exm_one (M := model X.prog X.w) (J3.kIn) LT hb1
    have test : ∀ {Q : Value → Shared → Prop} {E : Value → Shared → Prop}, Q c { s' with heap := h3 } → wpAny (model X.prog X.w) (X.A.mark (some (.ref a))) (eval (.Name x np) X.env) Q E { s' with heap := h3 } := fun {Q E} q => by
      obtain ⟨hg, hdbg, hm | ⟨hm, hv, hnn⟩⟩ := hc
      · exact ld_glob (X := X.suite a ((a, oe3) :: (X.pn ++ pins))) S3 hg hm q hdbg
      · exact ld_blt (X := X.suite a ((a, oe3) :: (X.pn ++ pins))) S3 hg hm hv q hnn hdbg
    refine test (LM.here ?_)
    cases b with
    | true =>
      refine codeAny_handlers_suite_as ?_
      refine HandSPX.lands_againZ fl3 fun h4 fl4 up4 => ?_
      have J4 : Inv X pins σ' H' { s' with heap := h4 } := J.landed nb fl4.1 ((up.trans up3).trans up4) os ag
      obtain ⟨oe4, vs4, he4, hz4, hd4⟩ := fl4.there
      obtain ⟨φ, hφ, hq⟩ := hyes rfl a na
      have J5 : Inv X pins σ' (upd H' a (.ext φ)) { s' with heap := h4 } := Inv.track J4 na nP nL nCl n0 ⟨hφ.of h4 oe4 vs4 he4 hz4 hd4, ⟨oe4, he4⟩, hφ.st⟩
      have S4 : Inv (X.suite a (X.pn ++ pins)) [] σ' (upd H' a (.ext φ)) { s' with heap := h4 } :=
        ⟨J5.ok.suite _ _, J5.os, J5.bare, J5.base, J5.loc, J5.cell, J5.free, J5.freeC, fun p hp => J5.pin p (by rw [List.append_nil] at hp; exact hp), J5.hok, J5.len⟩
      refine store_ok (X := X.suite a (X.pn ++ pins)) (v := .ref a) S4 hN hi hloc rfl (fun s5 S5 => ?_) (.inr hln)
      refine wpAny_mono ((hsu a (X.pn ++ pins)).run [] s5 _ _ _ S5 hq) (fun f s6 hsp => ?_) (fun _ _ z => False.elim z)
      have end_ : ∀ {σ6 : L2.St} {H6 : Hp} {Q : Shared → Prop}, Inv (X.suite a (X.pn ++ pins)) [] σ6 H6 s6 → (∀ s7, Inv X pins (σ6.set i none) H6 s7 → Q s7) →
          wpAny (model X.prog X.w) X.A (do bindName X.env n .none; unbindBehindTheSuite X.env n pos') (fun _ s7 => Q s7) X.xe s6 := fun {σ6 H6 Q} S6 hq => gone_ok (X := X) (pins := pins) ⟨ok, S6.os, S6.bare, S6.base, S6.loc, S6.cell, S6.free, S6.freeC, fun p hp => S6.pin p (by rw [List.append_nil]; exact hp), S6.hok, S6.len⟩ hN hi hln hq
      cases f with
      | next =>
        obtain ⟨σ6, H6, S6, q6⟩ := hsp
        exact end_ S6 fun s7 J7 => ⟨_, _, J7, q6⟩
      | brk =>
        obtain ⟨σ6, H6, S6, q6⟩ := hsp
        exact end_ S6 fun s7 J7 => ⟨_, _, J7, q6⟩
      | cont =>
        obtain ⟨σ6, H6, S6, q6⟩ := hsp
        exact end_ S6 fun s7 J7 => ⟨_, _, J7, q6⟩
      | ret u =>
        obtain ⟨v6, σ6, H6, S6, r6, q6⟩ := hsp
        exact end_ S6 fun s7 J7 => ⟨_, _, _, J7, r6, q6⟩
    | false =>
      show wpAny _ X.A (handleBy (.ref a) X.env []) _ _ _
      refine wpAny_handleBy_nil ?_
      obtain ⟨k1, k2, k3, oe, vs, T, oT, ts', he, hz, hd, h1, hr⟩ := id fl3
      unfold PySem.passOn
      refine wpAny_bind (wpAny_field he hd h1 ?_)
      rw [if_neg (show ¬ ((Value.ref T == Value.none) = true) from by simp)]
      have fin : wpAny (model X.prog X.w) X.A (setFlight (.ref a) X.env.frame) (fun _ s4 => wpAny (model X.prog X.w) X.A (throw (.ref a) : Sem Flow) (SP X pins D) X.xe s4) X.xe { s' with heap := h3 } := by
        rw [hf]
        refine HandSPX.setFlight_upZ fl3 fun h4 hh4 up4 => wpAny_throw (tk _ _ ?_)
        exact ⟨a, B, sI, pins, σ', H', cls, d, rfl, J, nb, (up.trans up3).trans up4, .inr (.inr (by rw [hs]; exact hh4)), na, os, ag, hno rfl⟩
      first
        | exact wpAny_bind (wpAny_pure (wpAny_bind fin))
        | exact wpAny_bind fin
  · cases f with
    | next =>
      obtain ⟨σ', H', J', q⟩ := hsp
      exact wpAny_execs_nil ⟨σ', H', J'.ofTry ok, q⟩
    | brk =>
      obtain ⟨σ', H', J', q⟩ := hsp
      exact ⟨σ', H', J'.ofTry ok, q⟩
    | cont =>
      obtain ⟨σ', H', J', q⟩ := hsp
      exact ⟨σ', H', J'.ofTry ok, q⟩
    | ret u =>
      obtain ⟨v, σ', H', J', r, q⟩ := hsp
      exact ⟨v, σ', H', J'.ofTry ok, r, q⟩
end
theorem excO_ext {K : Kw} {a : Addr} {c : Str} {C : Addr} (hc : PySem.W.nsIn K.K mainGlobals c = some (some (.ref C))) : ∃ φ, ExH φ (.ref C) none a ∧ excO K a c = .ext φ := by
  refine ⟨_, ⟨fun h oe vs h1 h2 h3 => ⟨C, oe, vs, hc, h1, h2, h3⟩, ?_⟩, rfl⟩
  rintro h1 h2 ⟨C', oe, vs, k1, k2, k3, k4⟩ e
  exact ⟨C', oe, vs, k1, e _ k2, k3, k4⟩
/-- what each class is, where it is caught: true, let out: false; else not mirrored -/
def lookE : List (Str × Bool) → Str → Option Bool
  | [], _ => none
  | p :: ps, c => if p.1 = c then some p.2 else lookE ps c
/-- the own classes of a program, where they stand -/
structure OwnC (K : PySem.W.Frag) (mg : Str → Option Value) (c : Str) (C : Addr) : Prop where
  ns : PySem.W.nsIn K mainGlobals c = some (some (.ref C))
  gC : mg c = some (.ref C)
inductive CatchT (K : PySem.W.Frag) (mg : Str → Option Value) (x : Addr) : List (Str × Bool) → Prop
  | nil : CatchT K mg x []
  | cons {c : Str} {C : Addr} {b : Bool} {l : List (Str × Bool)} : OwnC K mg c C → PySem.W.exmOne K (.ref C) (.ref x) = some b → CatchT K mg x l → CatchT K mg x ((c, b) :: l)
theorem CatchT.look {K : PySem.W.Frag} {mg : Str → Option Value} {x : Addr} : ∀ {l : List (Str × Bool)} {c : Str} {b : Bool}, CatchT K mg x l → lookE l c = some b → ∃ C, OwnC K mg c C ∧ PySem.W.exmOne K (.ref C) (.ref x) = some b
  | _, _, _, .nil, h => by cases h
  | _, c, b, .cons (c := c') h1 h2 h3, h => by
    unfold lookE at h
    split at h
    · rename_i e
      have e : c' = c := e
      subst e
      cases h
      exact ⟨_, h1, h2⟩
    · exact h3.look h
/-- slot i holds nothing behind the suite -/
def dropT (i : Nat) : SR → SR
  | .nx env => .nx (env.set i none)
  | .rt r env => .rt r env
  | _ => .no
def sTryT (l : List (Str × Bool)) (i : Nat) (fb fs : Ev → SR) (env : Ev) : SR := match fb env with
  | .ex c env1 => match lookE l c with
    | some true => if i < env1.length then dropT i (fs (env1.set i (some (.d (excD c))))) else .no
    | some false => .ex c env1
    | none => .no
  | r => r
section
variable {X : Cx} {W : WX} {S : Nat → Bool} {x n : Str} {np pos pos' : Pos}
theorem ds_tryT {C : Addr} {body suite : List Stmt} {b₀ : Stmt} {fb fs : Ev → SR} {l : List (Str × Bool)} (i : Nat) (hx : X.ex = []) (hs : X.stack = X.env :: X.outer) (hf : X.env.frame = some X.env.locals) (hN : X.N.Nodup) (hi : X.N[i]? = some n) (hln : X.env.kindOf n = some .local) (hS : S i = true)
    (hc : Names X x (.ref C)) (ct : CatchT X.K X.mg C l) (tk : Takes X W)
    (hb : ∀ (W' : WX) (pn : List (Addr × Obj)) (xe : Value → Shared → Prop), Takes (X.tr pn xe) W' → PassesOwn (model X.prog X.w) X.A X.env xe → DSs (X.tr pn xe) W' S body fb)
    (hsu : ∀ (a : Addr) (pn : List (Addr × Obj)), DSs (X.suite a pn) W0 S (b₀ :: suite) fs) :
    DS X W S (.Try body [.ExceptHandler (some (.Name x np)) (some n) (b₀ :: suite) pos'] [] [] pos) (sTryT l i fb fs) := by
  refine ⟨_, ps_try_asT (i := i) (tb := fun W' => tsOf X W' S fb) (ts := tsOf X W0 S fs) hx hs hf hN hi hln hc tk (fun W' pn xe tk' po => (hb W' pn xe tk' po).can) (fun a pn => (hsu a pn).can), fun F H σ env fp D sat h => ?_⟩
  refine ⟨F, env, fp, sat, ?_⟩
  unfold sTryT at h
  cases e : fb env with
  | no => rw [e] at h; exact h
  | nx env1 => rw [e] at h; exact h
  | bk env1 => rw [e] at h; exact h
  | ct env1 => rw [e] at h; exact h
  | rt r env1 => rw [e] at h; exact h
  | ex c env1 =>
    rw [e] at h
    simp only at h
    intro Cc σ' F' H' fp' mc off st sat'
    cases el : lookE l c with
    | none => rw [el] at h; exact h.elim
    | some b =>
    rw [el] at h
    obtain ⟨C', oc, xm⟩ := ct.look el
    have : Cc = C' := by
      rw [oc.gC] at mc
      cases mc; rfl
    subst this
    cases b with
    | false => exact ⟨false, xm, (fun z => nomatch z), fun _ => h Cc σ' F' H' fp' mc off st sat'⟩
    | true =>
      simp only at h
      split at h
      · rename_i hil
        refine ⟨true, xm, fun _ a na => ?_, fun z => nomatch z⟩
        obtain ⟨φ, hφ, eφ⟩ := excO_ext (K := X.KK) (a := a) oc.ns
        refine ⟨φ, hφ, ?_⟩
        rw [← eφ]
        have ex : Ext F' H' (upd F' a (excO X.KK a c)) (upd H' a (excO X.KK a c)) := Ext.frz sat'.fh na _
        have hl : i < σ'.length := by rw [sat'.en.len]; exact hil
        obtain ⟨fp2, s2, sat2⟩ := put_step (v := .ref a) (r := .d (excD c)) sat' ex (.d (.exc (.inl upd_same))) List.nodup_nil (fun b z => nomatch z) hil
        refine ⟨_, env1.set i (some (.d (excD c))), fp2, sat2, ?_⟩
        have h2 := h.step (off.trans (.set hS (some (.ref a)))) (st.trans s2)
        cases ef : fs (env1.set i (some (.d (excD c)))) with
        | no => rw [ef] at h2; exact h2
        | bk env2 => rw [ef] at h2; exact h2.elim
        | ct env2 => rw [ef] at h2; exact h2.elim
        | ex c2 env2 => rw [ef] at h2; exact h2.elim
        | rt r env2 => rw [ef] at h2; exact h2
        | nx env2 =>
          rw [ef] at h2
          intro σ3 F3 H3 fp3 o3 s3 sat3
          by_cases hi2 : i < env2.length
          · obtain ⟨fr3, sub3, sat4⟩ := sat_set sat3 hi2 none
            exact h2 _ F3 H3 fr3 (o3.trans (.set hS none)) (s3.subset sub3) sat4
          · have hs3 : σ3.length ≤ i := by rw [sat3.en.len]; omega
            rw [show dropT i (.nx env2) = .nx (env2.set i none) from rfl] at h2
            show D.nx (σ3.set i none) H3
            rw [List.set_eq_of_length_le hs3]
            have e5 : env2.set i none = env2 := List.set_eq_of_length_le (by omega)
            rw [e5] at h2
            exact h2 _ F3 H3 fp3 o3 s3 sat3
      · exact h.elim
end
inductive TyE (K : Kw) (H : Hp) (x : V) (t : Value) : Prop
  | ty (h : TyX K.K H x t) : TyE K H x t
  | exc {a : Addr} {c : Str} {C : Addr} (hx : x = .ref a) (ht : t = .ref C) (ha : Rd H a (excO K a c)) (hc : PySem.W.nsIn K.K mainGlobals c = some (some (.ref C))) (ec : ExcC K.K C) : TyE K H x t
theorem kit_of2 {X : Cx} {pins : List (Addr × Obj)} {σ : L2.St} {H : Hp} {s : Shared} {x : V} {u t : Value} (I : Inv X pins σ H s) (rx : RelV x u) (ty : TyE X.KK H x t) : ∃ P : Heap → Prop, PySem.W.KitX X.K u t P ∧ P s.heap ∧ u ≠ .builtin "__main__.__loader__#opaque" := by
  cases ty with
  | ty h => exact kit_of I rx h
  | @exc a c C hx ht ha hc ec =>
    subst hx ht
    cases (show u = Value.ref a from rx)
    obtain ⟨⟨C', oe, vs, k1, k2, k3, k4⟩, _⟩ := (show ObjOk X.prog X.w H s.heap a (excO X.KK a c) from Rd.ok ha I.hok)
    rw [hc] at k1
    cases k1
    have J : PySem.W.InstAt s.heap a oe C none := by
      obtain ⟨oc, od, oda, osl⟩ := oe
      obtain ⟨h1, h2⟩ := k3
      dsimp only at h1 h2 k4
      subst h1 h2 k4
      exact ⟨k2, rfl, rfl, trivial⟩
    exact ⟨_, PySem.W.handS_kitx_exc ec.hg ec.hk ec.hs ec.hd ec.ha ec.hn ec.ht ec.hm, J, fun z => nomatch z⟩
def rIsi2 (K : Kw) : List V → Hp → VK → Prop := fun xs H Q => ∃ (x c : V) (t u : Value) (b : Bool), xs = [x, c] ∧ ClsV c u ∧ TyE K H x t ∧ PySem.W.kitOne K.K t u = some b ∧ Q (.bl b) H
section
variable {X : Cx}
theorem call_isi2 : CallR X (.builtin "isinstance") (rIsi2 X.KK) := by
  intro pins s σ H xs us Q I r h
  obtain ⟨x, c, t, u, b, rfl, k, ty, e, q⟩ := h
  obtain ⟨u1, u2, rfl, r1, r2⟩ := vals2 r
  have e2 := k.eq r2
  subst e2
  obtain ⟨P, Z, p, hx⟩ := kit_of2 I r1 ty
  exact PySem.W.kia_one Z I.kIn p e hx fun tk => ⟨.bl b, H, I.tok tk, rfl, q⟩
end
/-- a class asked of each own class, and of None -/
inductive AskT (K : PySem.W.Frag) (us : List Value) : List (Str × Bool) → Prop
  | nil : AskT K us []
  | cons {c : Str} {C : Addr} {b : Bool} {l : List (Str × Bool)} : PySem.W.nsIn K mainGlobals c = some (some (.ref C)) → ExcC K C → PySem.W.kitAny K (.ref C) us = some b → AskT K us l → AskT K us ((c, b) :: l)
theorem AskT.look {K : PySem.W.Frag} {us : List Value} : ∀ {l : List (Str × Bool)} {c : Str} {b : Bool}, AskT K us l → lookE l c = some b → ∃ C, PySem.W.nsIn K mainGlobals c = some (some (.ref C)) ∧ ExcC K C ∧ PySem.W.kitAny K (.ref C) us = some b
  | _, _, _, .nil, h => by cases h
  | _, c, b, .cons (c := c') h1 h2 h3 h4, h => by
    unfold lookE at h
    split at h
    · rename_i e
      have e : c' = c := e
      subst e
      cases h
      exact ⟨_, h1, h2, h3⟩
    · exact h4.look h
theorem kitAny_one {K : PySem.W.Frag} {t c : Value} {b : Bool} (h : PySem.W.kitAny K t [c] = some b) : PySem.W.kitOne K t c = some b := by
  unfold PySem.W.kitAny at h
  cases e : PySem.W.kitOne K t c with
  | none => rw [e] at h; cases h
  | some r =>
    rw [e] at h
    cases r with
    | true => exact h
    | false => exact h
/-- isinstance(e, X), e an exception or None -/
def gIsE (l : List (Str × Bool)) : D → R D
  | .none => .ok (.bool false)
  | .dict [(.none, .str c)] => match lookE l c with
    | some b => .ok (.bool b)
    | none => .no
  | _ => .no
@[simp] theorem gIsE_none (l : List (Str × Bool)) : gIsE l .none = .ok (.bool false) := rfl
theorem gIsE_exc {l : List (Str × Bool)} {c : Str} {b : Bool} (h : lookE l c = some b) : gIsE l (excD c) = .ok (.bool b) := by
  show (match lookE l c with
    | some b => .ok (.bool b)
    | none => .no : R D) = _
  rw [h]
/-- how an exception stands -/
theorem dp_exc {K : Kw} {H : Hp} {v : V} {c : Str} (h : Dp K H v (.dict [(.none, .str c)])) : ∃ a, v = .ref a ∧ Rd H a (excO K a c) := by
  cases h with
  | dct h1 h2 =>
    exfalso
    generalize hd : (PyData.none, PyData.str c) = p at h2
    cases h2 with
    | @cons k =>
      cases k <;> cases hd
  | dcn h1 h2 =>
    exfalso
    generalize hd : (PyData.none, PyData.str c) = p at h2
    cases h2 with
    | @cons k b v kvs d ps g1 g2 g3 g4 =>
      injection hd with e1 e2
      rw [← e1] at g1
      cases g1
  | exc h1 => exact ⟨_, rfl, h1⟩
section
variable {X : Cx} {W : WX} {a : Expr} {pos p p2 : Pos} {T : Str} {f : Ev → R D}
theorem isE_core {l : List (Str × Bool)} {us : List Value} {b : Bool} {H : Hp} {F : Hp} {v : V} {d : D} (at_ : AskT X.K us l) (hn : PySem.W.kitAny X.K (.type "NoneType") us = some false) (q : Dp X.KK H v d) (h : gIsE l d = .ok (.bool b)) : ∃ t, TyE X.KK H v t ∧ PySem.W.kitAny X.K t us = some b := by
  unfold gIsE at h
  split at h
  · cases h
    rw [dp_none q]
    exact ⟨_, .ty (.base .non), hn⟩
  · rename_i c
    split at h
    · rename_i b' e
      cases h
      obtain ⟨a, rfl, ha⟩ := dp_exc q
      obtain ⟨C, h1, h2, h3⟩ := at_.look e
      exact ⟨_, .exc rfl rfl ha h1 h2, h3⟩
    · cases h
  · cases h
theorem gIsE_bool {l : List (Str × Bool)} {d r : D} (h : gIsE l d = .ok r) : ∃ b, r = .bool b := by
  unfold gIsE at h
  split at h
  · cases h; exact ⟨_, rfl⟩
  · split at h
    · cases h; exact ⟨_, rfl⟩
    · cases h
  · cases h
theorem df_isE {l : List (Str × Bool)} {A : Addr} (ha : DV X W a f) (hg : Gl X "isinstance") (hm : X.mg "isinstance" = none) (gT : Gl X T) (mT : X.mg T = some (.ref A)) (at_ : AskT X.K [.ref A] l) (hn : PySem.W.kitOne X.K (.type "NoneType") (.ref A) = some false)
    (he : starEach [a, .Name T p2] X.env = (false, eval a X.env) :: starEach [.Name T p2] X.env := by rfl) (he2 : starEach [.Name T p2] X.env = (false, eval (.Name T p2) X.env) :: starEach [] X.env := by rfl) (hpl : (backTo pos (starEach [.Name T p2] X.env)).any (·.1) = false := by rfl)
    (hd : (T == ("__debug__" : Str)) = false := by decide) : DF X W (.Call (.Name "isinstance" p) [a, .Name T p2] [] pos) (eB f (gIsE l)) := by
  obtain ⟨t, pa, s⟩ := ha
  refine ⟨_, pe_callB call_isi2 hg hm (by decide +kernel) (pa_cons pa (pa_cons (pe_glob (v := .ref A) gT mT rfl hd) pa_nil he2) he) (he := he) (hpl := hpl), fun F H σ env fp Q sat hp => ?_⟩
  refine s.go sat hp fun d v F1 H1 sat1 q _ h1 => ?_
  cases e : gIsE l d with
  | no => rw [e] at h1; exact h1.elim
  | ex c =>
    exfalso
    unfold gIsE at e
    split at e
    · cases e
    · split at e <;> cases e
    · cases e
  | ok r =>
    obtain ⟨b, rfl⟩ := gIsE_bool e
    rw [e] at h1
    obtain ⟨t, ty, k⟩ := isE_core (F := F1) at_ (by unfold PySem.W.kitAny; rw [hn]; rfl) q e
    exact ⟨v, .ref A, t, .ref A, b, rfl, .own A, ty, kitAny_one k, h1 _ F1 H1 (.refl sat1.fh) (.bl b)⟩
theorem df_isEB {l : List (Str × Bool)} {T0 : String} (ha : DV X W a f) (hg : Gl X "isinstance") (hm : X.mg "isinstance" = none) (gT : Gl X T) (mT : X.mg T = none) (bT : bootBuiltins T = some (.type T0)) (at_ : AskT X.K [.type T0] l) (hn : PySem.W.kitOne X.K (.type "NoneType") (.type T0) = some false)
    (he : starEach [a, .Name T p2] X.env = (false, eval a X.env) :: starEach [.Name T p2] X.env := by rfl) (he2 : starEach [.Name T p2] X.env = (false, eval (.Name T p2) X.env) :: starEach [] X.env := by rfl) (hpl : (backTo pos (starEach [.Name T p2] X.env)).any (·.1) = false := by rfl)
    (hn2 : T ≠ "__name__" := by decide) (hd : (T == ("__debug__" : Str)) = false := by decide) : DF X W (.Call (.Name "isinstance" p) [a, .Name T p2] [] pos) (eB f (gIsE l)) := by
  obtain ⟨t, pa, s⟩ := ha
  refine ⟨_, pe_callB call_isi2 hg hm (by decide +kernel) (pa_cons pa (pa_cons (pe_bltn (v := .ty T0) gT mT bT rfl hn2 hd) pa_nil he2) he) (he := he) (hpl := hpl), fun F H σ env fp Q sat hp => ?_⟩
  refine s.go sat hp fun d v F1 H1 sat1 q _ h1 => ?_
  cases e : gIsE l d with
  | no => rw [e] at h1; exact h1.elim
  | ex c =>
    exfalso
    unfold gIsE at e
    split at e
    · cases e
    · split at e <;> cases e
    · cases e
  | ok r =>
    obtain ⟨b, rfl⟩ := gIsE_bool e
    rw [e] at h1
    obtain ⟨t, ty, k⟩ := isE_core (F := F1) at_ (by unfold PySem.W.kitAny; rw [hn]; rfl) q e
    exact ⟨v, .ty T0, t, .type T0, b, rfl, .ty T0, ty, kitAny_one k, h1 _ F1 H1 (.refl sat1.fh) (.bl b)⟩
theorem kitAny_of1 {K : PySem.W.Frag} {t c : Value} {b : Bool} (h : PySem.W.kitOne K t c = some b) : PySem.W.kitAny K t [c] = some b := by
  unfold PySem.W.kitAny
  rw [h]
  cases b <;> rfl
theorem kit_refN {K : PySem.W.Frag} {n : String} {A : Addr} {b : Bool} (hd : PySem.W.hasDictIn K A = true) (ht : PySem.W.typeIn K (.ref A) = some (.type "type")) (hs : PySem.W.subIn K (.type n) (.ref A) = some b) : PySem.W.kitOne K (.type n) (.ref A) = some b := by
  obtain ⟨cd, hc, _⟩ := PySem.W.any_some hd
  show (if ((Value.type n == Value.ref A) = true) then some true else PySem.W.kitCls K (.type n) (.ref A)) = some b
  rw [if_neg (fun e => by cases (beq_iff_eq.mp e))]
  have e2 : ((PySem.W.clsIn K A).isSome && PySem.W.typeIn K (.ref A) == some (.type "type")) = true := by rw [hc, ht] <;> rfl
  show (if ((PySem.W.clsIn K A).isSome && PySem.W.typeIn K (.ref A) == some (.type "type")) = true then PySem.W.subIn K (.type n) (.ref A) else none) = some b
  rw [if_pos e2]
  exact hs
end
end Mir
end
set_option Elab.async false
set_option linter.all false
set_option maxRecDepth 100000
set_option maxHeartbeats 4000000
noncomputable section
namespace Mir
open PySem PySem.Spec PyProof.Rows L2
section
variable {K : Kw} {F' F'' H' : Hp} (hT : ∀ a xs, SqT K.K F' a xs → SqT K.K F'' a xs)
include hT
variable (hn : ∀ b, F' b = none → F'' b = none)
include hn
end
/-- neither a tuple nor a thing that is held still -/
def notT (u : HO) : Prop := (∀ xs, u ≠ .tup xs) ∧ ∀ o w, u ≠ .frz o w
mutual
theorem OwnAt.kinds {K : Kw} {F H : Hp} : ∀ (o : Ow) (v : V) (fp : List Addr), OwnAt K F H v o fp → ∀ b ∈ fp, ∃ u, H b = some u ∧ notT u
  | .d x, v, fp, h, b, hb => by cases h; cases hb
  | .l os, v, fp, h, b, hb => by
    cases h with
    | l h1 h2 h3 =>
      rcases List.mem_cons.mp hb with e | e
      · subst e; exact ⟨_, h2, (fun _ z => nomatch z), fun _ _ z => nomatch z⟩
      · exact OwnAll.kinds os _ _ h3 b e
  | .m ps, v, fp, h, b, hb => by
    cases h with
    | m h1 h2 h3 =>
      rw [List.mem_singleton] at hb
      subst hb; exact ⟨_, h2, (fun _ z => nomatch z), fun _ _ z => nomatch z⟩
  | .t os, v, fp, h, b, hb => by
    cases h with
    | t h1 h2 => exact OwnAll.kinds os _ _ h2 b hb
  | .k _ os, v, fp, h, b, hb => by
    cases h with
    | k h1 h2 h3 =>
      rcases List.mem_cons.mp hb with e | e
      · subst e; exact ⟨_, h2, (fun _ z => nomatch z), fun _ _ z => nomatch z⟩
      · exact OwnAll.kinds os _ _ h3 b e
  | .n _ os, v, fp, h, b, hb => by
    cases h with
    | n h1 h2 h3 h4 =>
      rcases List.mem_cons.mp hb with e | e
      · subst e; exact ⟨_, h2, (fun _ z => nomatch z), fun _ _ z => nomatch z⟩
      · exact OwnAll.kinds os _ _ h4 b e
  | .o _ _ os, v, fp, h, b, hb => by
    cases h with
    | o h0 h1 h2 h3 h4 h5 =>
      rcases List.mem_cons.mp hb with e | e
      · subst e; exact ⟨_, h3, (fun _ z => nomatch z), fun _ _ z => nomatch z⟩
      · rcases List.mem_cons.mp e with e | e
        · subst e; exact ⟨_, h4, (fun _ z => nomatch z), fun _ _ z => nomatch z⟩
        · exact OwnAll.kinds os _ _ h5 b e
theorem OwnAll.kinds {K : Kw} {F H : Hp} : ∀ (o : List Ow) (v : List V) (fp : List Addr), OwnAll K F H v o fp → ∀ b ∈ fp, ∃ u, H b = some u ∧ notT u
  | [], v, fp, h, b, hb => by cases h; cases hb
  | o :: os, v, fp, h, b, hb => by
    cases h with
    | cons h1 h2 =>
      rcases List.mem_append.mp hb with e | e
      · exact OwnAt.kinds o _ _ h1 b e
      · exact OwnAll.kinds os _ _ h2 b e
end
section
variable {X : Cx} {W : WX} {S : Nat → Bool} {fs : Ev → SR} {st : Stmt}
end
end Mir
end
set_option Elab.async false
set_option linter.all false
set_option maxRecDepth 100000
set_option maxHeartbeats 4000000
noncomputable section
namespace Mir
open PySem PySem.Spec PyProof.Rows L2
section
variable {X : Cx} {W : WX} {S : Nat → Bool} {e a b : Expr} {es : List Expr} {pos : Pos} {f g : Ev → R Ow}
theorem OwnAll.append {K : Kw} {F H : Hp} : ∀ {os os' : List Ow} {vs ws : List V} {fp fp' : List Addr}, OwnAll K F H vs os fp → OwnAll K F H ws os' fp' → OwnAll K F H (vs ++ ws) (os ++ os') (fp ++ fp')
  | [], _, _, _, _, _, h, g => by cases h; exact g
  | o :: os, _, _, _, _, _, h, g => by
    cases h with
    | cons h1 h2 =>
      rw [List.append_assoc]
      exact .cons h1 (OwnAll.append h2 g)
/-- + of two new lists with own items -/
def eAddO (f g : Ev → R Ow) (env : Ev) : R Ow := (f env).bind fun x => (g env).bind fun y => match x, y with
  | .l xs, .l ys => guard (xs.length + ys.length ≤ sizeLine) (.ok (.l (xs ++ ys)))
  | _, _ => .no
@[simp] theorem eAddO_eq (f g : Ev → R Ow) (env : Ev) : eAddO f g env = (f env).bind fun x => (g env).bind fun y => match x, y with
  | .l xs, .l ys => guard (xs.length + ys.length ≤ sizeLine) (.ok (.l (xs ++ ys)))
  | _, _ => .no := rfl
/-- a tuple with own things in it -/
def eTupO (f : Ev → R (List Ow)) (env : Ev) : R Ow := (f env).bind fun os => guard (os.length ≤ sizeLine) (.ok (.t os))
@[simp] theorem eTupO_eq (f : Ev → R (List Ow)) (env : Ev) : eTupO f env = (f env).bind fun os => guard (os.length ≤ sizeLine) (.ok (.t os)) := rfl
theorem de_tupO {x1} {f : Ev → R (List Ow)} (hf : DAo X W es f) : DE X W (.Tuple es x1 pos) (eTupO f) := by
  obtain ⟨t, p, s⟩ := hf
  refine ⟨_, pe_tup p, fun F H σ env fp Q sat h => ?_⟩
  refine s F H σ env fp _ sat ?_
  rw [eTupO_eq] at h
  cases ef : f env with
  | no => rw [ef] at h; exact h.elim
  | ex c => rw [ef] at h; exact h
  | ok os =>
  rw [ef, R.bind_ok] at h
  obtain ⟨hl, h2⟩ := guard_post h
  intro vs F1 H1 x1 ⟨fo, o1, n1, r1⟩
  have sat1 := sat.ext x1
  refine ⟨by rw [o1.len]; exact hl, fun p hp => ?_⟩
  have x := Ext.frz sat1.fh hp (.tup vs)
  exact h2 _ _ _ (x1.trans x) ⟨fo, .t (SqT.of upd_same) (OwnAll.ext o1 x), n1, r1⟩
end
end Mir
end
set_option Elab.async false
set_option linter.all false
set_option maxRecDepth 100000
set_option maxHeartbeats 4000000
noncomputable section
namespace Mir
open PySem PySem.Spec PyProof.Rows L2
/-- an exception that has come to the clauses -/
structure Air (X : Cx) (pins : List (Addr × Obj)) (a : Addr) (B : Heap) (sI s' : Shared) (h3 : Heap) (σ : L2.St) (H : Hp) (cls : Value) (d : Option Addr) : Prop where
  J : Inv X pins σ H sI
  nb : ∀ b o, sI.heap.get? b = some o → b ∉ frs X.stack → B.get? b = some o
  fl : HandSPX.FlyingZ B (X.env :: X.outer) a (Zc cls d) h3
  up : sI.heap.UpToSlots h3
  na : H a = none
  os : s'.os = sI.os
  ag : AllBare s'.gens
def HdsT (X : Cx) (hds : List ExceptHandler) (w : WX → Ends → WX) : Prop := ∀ (Wout : WX), Takes X Wout → ∀ pins D a B sI s' h3 σ H cls d, Air X pins a B sI s' h3 σ H cls d → w Wout D cls d σ H →
  wpAny (model X.prog X.w) X.A (handleBy (.ref a) X.env hds) (SP X pins D) X.xe { s' with heap := h3 }
section
variable {X : Cx} {x n : Str} {c : Value} {i : Nat} {suite : List Stmt} {b₀ : Stmt} {np pos pos' : Pos} {ts : TS} {hds : List ExceptHandler} {w : WX → Ends → WX}
end
abbrev Cl := List (Str × Bool) × Option Nat × (Ev → SR)
def noX : SR → SR
  | .ex _ _ => .no
  | r => r
def sHds : List Cl → Str → Ev → SR
  | [], c, env => .ex c env
  | h :: hs, c, env => match lookE h.1 c with
    | some true => match h.2.1 with
      | some i => if i < env.length then dropT i (h.2.2 (env.set i (some (.d (excD c))))) else .no
      | none => noX (h.2.2 env)
    | some false => sHds hs c env
    | none => .no
section
variable {X : Cx} {W : WX} {S : Nat → Bool} {x n : Str} {np pos pos' : Pos} {hds : List ExceptHandler} {hs : List Cl}
structure HdsD (X : Cx) (W : WX) (S : Nat → Bool) (hds : List ExceptHandler) (hs : List Cl) (w : WX → Ends → WX) : Prop where
  run : HdsT X hds w
  sem : ∀ c C σ F H fp env D, X.mg c = some (.ref C) → Sat X.KK F H σ env fp → PostS X W S σ F H fp D (sHds hs c env) → w W D (.ref C) none σ H
end
section
variable {X : Cx} {W : WX} {S : Nat → Bool} {e : Expr} {pos : Pos} {f : Ev → R (D × Ev)}
end
end Mir
end
set_option Elab.async false
set_option linter.all false
set_option maxRecDepth 100000
set_option maxHeartbeats 4000000
noncomputable section
namespace HT
open PySem PySem.Spec PyProof.Rows
section
variable {prog : Program} {w : World} {A : Around} {E : Value → Shared → Prop} {s : Shared}
end
end HT
namespace Mir
open PySem PySem.Spec PyProof.Rows L2
section
variable {X : Cx} {W : WX}
def gRevA : D → Option Ow
  | .list ds => some (.l (ds.reverse.map Ow.d))
  | .tuple ds => some (.d (.tuple ds.reverse))
  | _ => none
@[simp] theorem gRevA_list (ds : List D) : gRevA (.list ds) = some (.l (ds.reverse.map Ow.d)) := rfl
@[simp] theorem gRevA_tup (ds : List D) : gRevA (.tuple ds) = some (.d (.tuple ds.reverse)) := rfl
def eRevA (f : Ev → R D) (env : Ev) : R Ow := (f env).bind fun d => R.of (gRevA d)
@[simp] theorem eRevA_eq (f : Ev → R D) (env : Ev) : eRevA f env = (f env).bind fun d => R.of (gRevA d) := rfl
end
end Mir
end
set_option Elab.async false
set_option linter.all false
set_option maxRecDepth 100000
set_option maxHeartbeats 4000000
noncomputable section
namespace Mir
open PySem PySem.Spec PyProof.Rows L2
def noFrz (u : HO) : Prop := ∀ o v, u ≠ .frz o v
/-- what F tells F' tells, but for locks -/
structure Rl (F F' : Hp) : Prop where
  rd : ∀ a u, noFrz u → Rd F a u → Rd F' a u
  ins : ∀ a C dx fs, F a = some (.ins C dx fs) → F' a = some (.ins C dx fs)
theorem Rl.seq {K : PySem.W.Frag} {F F' : Hp} (r : Rl F F') {a : Addr} {xs : List V} (h : SqL K F a xs) : SqL K F' a xs := h.imp (r.rd a _ fun _ _ z => nomatch z) id
theorem Rl.seqT {K : PySem.W.Frag} {F F' : Hp} (r : Rl F F') {a : Addr} {xs : List V} (h : SqT K F a xs) : SqT K F' a xs := h.imp (r.rd a _ fun _ _ z => nomatch z) id
section
variable {K : Kw}
mutual
theorem Dp.rl {H H' : Hp} (e : Rl H H') : ∀ (d : D) (v : V), Dp K H v d → Dp K H' v d
  | .none, _, h => by cases h; exact .non
  | .bool b, _, h => by cases h; exact .bl b
  | .int b, _, h => by cases h; exact .int b
  | .str b, _, h => by cases h; exact .str b
  | .list ds, _, h => by
    cases h with
    | lst hs ha => exact .lst (e.seq hs) (DpAll.rl e ds _ ha)
  | .tuple ds, _, h => by
    cases h with
    | tup hs ha => exact .tup (e.seqT hs) (DpAll.rl e ds _ ha)
  | .dict ps, _, h => by
    cases h with
    | dct hs ha => exact .dct (e.rd _ _ (fun _ _ z => nomatch z) hs) (DpKv.rl e ps _ ha)
    | dcn hs ha => exact .dcn (e.rd _ _ (fun _ _ z => nomatch z) hs) (DpKn.rl e ps _ ha)
    | exc hs => exact .exc (e.rd _ _ (fun _ _ z => nomatch z) hs)
    | ins hs => exact .ins (e.ins _ _ _ _ hs)
    | fnv hs => exact .fnv hs
theorem DpAll.rl {H H' : Hp} (e : Rl H H') : ∀ (ds : List D) (vs : List V), DpAll K H vs ds → DpAll K H' vs ds
  | [], _, h => by cases h; exact .nil
  | d :: ds, _, h => by
    cases h with
    | cons h1 h2 => exact .cons (Dp.rl e d _ h1) (DpAll.rl e ds _ h2)
theorem DpKv.rl {H H' : Hp} (e : Rl H H') : ∀ (ps : List (D × D)) (kvs : List (Key × V)), DpKv K H kvs ps → DpKv K H' kvs ps
  | [], _, h => by cases h; exact .nil
  | (x, d) :: ps, _, h => by
    cases h with
    | cons h1 h2 => exact .cons (Dp.rl e d _ h1) (DpKv.rl e ps _ h2)
theorem DpKn.rl {H H' : Hp} (e : Rl H H') : ∀ (ps : List (D × D)) (kvs : List (NestedKey × Addr × V)), DpKn K H kvs ps → DpKn K H' kvs ps
  | [], _, h => by cases h; exact .nil
  | (x, d) :: ps, _, h => by
    cases h with
    | cons h0 h1 h2 h3 => exact .cons (Dp.rl e _ _ h0) h1 (Dp.rl e d _ h2) (DpKn.rl e ps _ h3)
end
/-- .. and what stands beside F stays -/
structure Rlh (F H F' H' : Hp) : Prop where
  rl : Rl F F'
  fn : ∀ a, F a = none → F' a = none
  hh : ∀ a x, F a = none → H a = some x → H' a = some x
mutual
theorem OwnAt.rl {F H F' H' : Hp} (e : Rlh F H F' H') : ∀ (o : Ow) (v : V) (fp : List Addr), OwnAt K F H v o fp → OwnAt K F' H' v o fp
  | .d x, _, _, h => by cases h with | d h => exact .d (Dp.rl e.rl _ _ h)
  | .l os, _, _, h => by cases h with | l h1 h2 h3 => exact .l (e.fn _ h1) (e.hh _ _ h1 h2) (OwnAll.rl e os _ _ h3)
  | .m ps, _, _, h => by cases h with | m h1 h2 h3 => exact .m (e.fn _ h1) (e.hh _ _ h1 h2) (DpKv.rl e.rl _ _ h3)
  | .t os, _, _, h => by cases h with | t h1 h2 => exact .t (e.rl.seqT h1) (OwnAll.rl e os _ _ h2)
  | .k ks os, _, _, h => by cases h with | k h1 h2 h3 => exact .k (e.fn _ h1) (e.hh _ _ h1 h2) (OwnAll.rl e os _ _ h3)
  | .n ks os, _, _, h => by cases h with | n h1 h2 h3 h4 => exact .n (e.fn _ h1) (e.hh _ _ h1 h2) (fun p hp => ⟨Dp.rl e.rl _ _ (h3 p hp).1, (h3 p hp).2⟩) (OwnAll.rl e os _ _ h4)
  | .o c ns os, _, _, h => by cases h with | o h1 h2 h3 h4 h5 h6 => exact .o h1 (e.fn _ h2) (e.fn _ h3) (e.hh _ _ h2 h4) (e.hh _ _ h3 h5) (OwnAll.rl e os _ _ h6)
theorem OwnAll.rl {F H F' H' : Hp} (e : Rlh F H F' H') : ∀ (os : List Ow) (vs : List V) (fp : List Addr), OwnAll K F H vs os fp → OwnAll K F' H' vs os fp
  | [], _, _, h => by cases h; exact .nil
  | o :: os, _, _, h => by
    cases h with
    | cons h1 h2 => exact .cons (OwnAt.rl e o _ _ h1) (OwnAll.rl e os _ _ h2)
end
theorem EnvAt.rl {F H F' H' : Hp} (e : Rlh F H F' H') {σ : L2.St} {env : Ev} {fp : List Addr} (h : EnvAt K F H σ env fp) : EnvAt K F' H' σ env fp := by
  induction h with
  | nil => exact .nil
  | non h ih => exact .non ih
  | som h1 h2 ih => exact .som (OwnAt.rl e _ _ _ h1) ih
theorem rlh_lock {F H : Hp} {d : Addr} {u : HO} {od : Obj} (hF : F d = some u) (nf : noFrz u) (ni : ∀ C dx fs, u ≠ .ins C dx fs) : Rlh F H (upd F d (.frz od u)) (upd H d (.frz od u)) where
  rl := ⟨fun a x nx h => by
    by_cases e : a = d
    · subst e
      rcases h with h | ⟨o, h⟩
      · rw [hF] at h; cases h; exact .inr ⟨od, upd_same⟩
      · rw [hF] at h; exact absurd (Option.some.inj h) (nf _ _)
    · rcases h with h | ⟨o, h⟩
      · exact .inl (by rw [upd_ne e]; exact h)
      · exact .inr ⟨o, by rw [upd_ne e]; exact h⟩, fun a C dx fs h => by
    by_cases e : a = d
    · subst e; rw [hF] at h; exact absurd (Option.some.inj h) (ni _ _ _)
    · rw [upd_ne e]; exact h⟩
  fn := fun a h => by
    by_cases e : a = d
    · subst e; rw [hF] at h; cases h
    · rw [upd_ne e]; exact h
  hh := fun a x h g => by
    by_cases e : a = d
    · subst e; rw [hF] at h; cases h
    · rw [upd_ne e]; exact g
theorem rlh_unlock {F H : Hp} {d : Addr} {u : HO} {od : Obj} (hF : F d = some (.frz od u)) : Rlh F H (upd F d u) (upd H d u) where
  rl := ⟨fun a x nx h => by
    by_cases e : a = d
    · subst e
      rcases h with h | ⟨o, h⟩
      · rw [hF] at h; cases h; exact absurd rfl (nx _ _)
      · rw [hF] at h; cases h; exact .inl upd_same
    · rcases h with h | ⟨o, h⟩
      · exact .inl (by rw [upd_ne e]; exact h)
      · exact .inr ⟨o, by rw [upd_ne e]; exact h⟩, fun a C dx fs h => by
    by_cases e : a = d
    · subst e; rw [hF] at h; cases h
    · rw [upd_ne e]; exact h⟩
  fn := fun a h => by
    by_cases e : a = d
    · subst e; rw [hF] at h; cases h
    · rw [upd_ne e]; exact h
  hh := fun a x h g => by
    by_cases e : a = d
    · subst e; rw [hF] at h; cases h
    · rw [upd_ne e]; exact g
theorem same_both {F H : Hp} (s : Same F H) {d : Addr} (u : HO) : Same (upd F d u) (upd H d u) := fun b o q => by
  by_cases e : b = d
  · subst e; rw [upd_same] at q ⊢; exact q
  · rw [upd_ne e] at q ⊢; exact s _ _ q
theorem Sat.lock {F H : Hp} {σ : L2.St} {env : Ev} {fp : List Addr} {d : Addr} {u : HO} (od : Obj) (sat : Sat K F H σ env fp) (hF : F d = some u) (nf : noFrz u) (ni : ∀ C dx fs, u ≠ .ins C dx fs) : Sat K (upd F d (.frz od u)) (upd H d (.frz od u)) σ env fp :=
  ⟨same_both sat.fh _, sat.en.rl (rlh_lock hF nf ni), sat.nd⟩
theorem Sat.unlock {F H : Hp} {σ : L2.St} {env : Ev} {fp : List Addr} {d : Addr} {u : HO} {od : Obj} (sat : Sat K F H σ env fp) (hF : F d = some (.frz od u)) : Sat K (upd F d u) (upd H d u) σ env fp :=
  ⟨same_both sat.fh _, sat.en.rl (rlh_unlock hF), sat.nd⟩
theorem StepS.unlock {F H F' H' : Hp} {fp fp' : List Addr} {d : Addr} {u : HO} {od : Obj} (hF : F d = some u) (hH : H d = some u) (s : StepS (upd F d (.frz od u)) (upd H d (.frz od u)) fp F' H' fp') : StepS F H fp (upd F' d u) (upd H' d u) fp' where
  ff := fun b o h => by
    by_cases e : b = d
    · subst e; rw [hF] at h; cases h; exact upd_same
    · rw [upd_ne e]; exact s.ff b o (by rw [upd_ne e]; exact h)
  fr := fun b o h n => by
    by_cases e : b = d
    · subst e; rw [hH] at h; cases h; exact upd_same
    · rw [upd_ne e]; exact s.fr b o (by rw [upd_ne e]; exact h) n
  fn := fun b o h => by
    by_cases e : b = d
    · subst e; rw [upd_same] at h; cases h; exact .inl hF
    · rw [upd_ne e] at h
      rcases s.fn b o h with g | g | g
      · rw [upd_ne e] at g; exact .inl g
      · exact .inr (.inl g)
      · rw [upd_ne e] at g; exact .inr (.inr g)
  sub := fun b h => by
    rcases s.sub b h with g | g
    · exact .inl g
    · by_cases e : b = d
      · subst e; rw [upd_same] at g; cases g
      · rw [upd_ne e] at g; exact .inr g
end
/-- the ends of what runs while d is locked -/
def lockEnds (d : Addr) (u : HO) (od : Obj) (D : Ends) : Ends := ⟨fun σ' H' => H' d = some (.frz od u) ∧ D.nx σ' (upd H' d u), fun v H' => H' d = some (.frz od u) ∧ D.rt v (upd H' d u), fun σ' H' => H' d = some (.frz od u) ∧ D.bk σ' (upd H' d u), fun σ' H' => H' d = some (.frz od u) ∧ D.ct σ' (upd H' d u)⟩
theorem PostS.lock {X : Cx} {W W2 : WX} {S : Nat → Bool} {σ0 : L2.St} {F H : Hp} {fp : List Addr} {D : Ends} {r : SR} {d : Addr} {u : HO} (od : Obj) (hF : F d = some u) (hH : H d = some u) (h : PostS X W S σ0 F H fp D (noX r)) : PostS X W2 S σ0 (upd F d (.frz od u)) (upd H d (.frz od u)) fp (lockEnds d u od D) r := by
  have loc : ∀ {F' H' : Hp} {fp'}, StepS (upd F d (.frz od u)) (upd H d (.frz od u)) fp F' H' fp' → F' d = some (.frz od u) := fun s => s.ff d _ upd_same
  cases r with
  | no => exact h
  | ex c env => exact h.elim
  | nx env => exact fun σ F' H' fp' o s sat => ⟨sat.fh d _ (loc s), h σ _ _ fp' o (s.unlock hF hH) (sat.unlock (loc s))⟩
  | bk env => exact fun σ F' H' fp' o s sat => ⟨sat.fh d _ (loc s), h σ _ _ fp' o (s.unlock hF hH) (sat.unlock (loc s))⟩
  | ct env => exact fun σ F' H' fp' o s sat => ⟨sat.fh d _ (loc s), h σ _ _ fp' o (s.unlock hF hH) (sat.unlock (loc s))⟩
  | rt r env => exact fun v σ F' H' fx fp' o s sat ow nd => ⟨sat.fh d _ (loc s), h v σ _ _ fx fp' o (s.unlock hF hH) (sat.unlock (loc s)) (OwnAt.rl (rlh_unlock (loc s)) _ _ _ ow) nd⟩
theorem dp_kV {K : Kw} {H : Hp} (k : Key) : Dp K H (kV k) (keyD k) := by
  cases k with
  | inl i => exact .int i
  | inr z => exact .str z
section
variable {X : Cx} {pins : List (Addr × Obj)} {σ : L2.St} {H : Hp} {s : Shared} {d : Addr} {o : Obj}
theorem Inv.frzN {kvs : List (NestedKey × Addr × V)} (I : Inv X pins σ H s) (h : H d = some (.frz o (dnO X.w d kvs))) :
    (d == sysModules) = false ∧ s.heap.get? d = some o ∧ o.ExactDict ∧ ∃ (es : Array DictEntry) (ep : Nat), o.data = .dict es ep ∧ es.size = kvs.length ∧
      ∀ (i : Nat) (k : NestedKey) (b : Addr) (v : V), kvs[i]? = some (k, b, v) → ∃ en : DictEntry, es[i]? = some en ∧ en.key = .ref b := by
  obtain ⟨hd, ⟨z, hs, xs, pr, o', es, ep, ho, hx, hdt, he, _⟩, _⟩ := I.hok d _ h
  rw [hd] at ho
  cases ho
  have le : es.size = xs.length := by rw [← Array.length_toList, he, List.length_map]
  refine ⟨hs, hd, hx, es, ep, hdt, by rw [le]; exact (Paired.length pr).symm, fun i k b v e => ?_⟩
  obtain ⟨q, hq, r1, r2, r3⟩ := L2.paired_get pr e
  have : es[i]? = some (rowN X.w q) := by rw [← Array.getElem?_toList, he, List.getElem?_map, hq]; rfl
  exact ⟨_, this, by show Value.ref q.2.1 = _; rw [← r2]⟩
end
section
variable {X : Cx} {W : WX} {S : Nat → Bool} {tg e : Expr} {td : TE}
theorem PS.or {st : Stmt} {t t' : TS} (h : PS X st t) (h' : PS X st t') : PS X st (fun D σ H => t D σ H ∨ t' D σ H) := ⟨fun pins s σ H D I q => by
  rcases q with q | q
  · exact h.run pins s σ H D I q
  · exact h'.run pins s σ H D I q⟩
theorem forK_core {body : List Stmt} {g : D → Ev → Option Ev} {fs : Ev → SR} {tb : TS} {ix : List Nat} {wi : TI} {i : Nat} (sb : SmS X W S tb fs) (hS : ix.all S = true) {F H : Hp} {σ : L2.St} {env : Ev} {fp : List Addr} {D : Ends} {items : List PyData} {J : It} (sat : Sat X.KK F H σ env fp) (wk : WalkF X.KK J F items) (wh : ∀ R : It → Hp → Prop, R J H → wi σ H R) (h : PostS X W S σ F H fp D (forL g fs items env)) : tFor wi (tgOf X.KK ix g) tb D σ H := by
  refine wh _ ?_
  refine ⟨fun i m σ' H' => m = items.length - i ∧ i ≤ items.length ∧ ∃ F' env' fp', Same F F' ∧ Sat X.KK F' H' σ' env' fp' ∧ PostS X W S σ' F' H' fp' D (forL g fs (items.drop i) env'),
    ⟨items.length, by simp, Nat.zero_le _, F, env, fp, Same.refl _, sat, h⟩, ?_⟩
  rintro i m σ' H' ⟨rfl, hi, F', env', fp', st, sat', h2⟩
  by_cases hlt : i < items.length
  · refine .inr ⟨wk.go i F' H' hlt st sat'.fh, fun σ2 H2 => ∃ F2 env2 fp2, Same F F2 ∧ Sat X.KK F2 H2 σ2 env2 fp2 ∧ PostS X W S σ2 F2 H2 fp2 D (forL g fs (items.drop (i + 1)) env2), ?_, ?_⟩
    · rintro σ2 H2 ⟨F2, env2, fp2, a, b, c⟩
      exact ⟨items.length - (i + 1), by omega, rfl, hlt, F2, env2, fp2, a, b, c⟩
    · intro x H3 y
      obtain ⟨d, F3, e1, x3, dp⟩ := wk.yld i F' H' x H3 hlt st sat'.fh y
      have ed : items.drop i = d :: items.drop (i + 1) := by
        rw [List.drop_eq_getElem_cons hlt]
        have : items[i] = d := by rw [List.getElem?_eq_getElem hlt] at e1; exact Option.some.inj e1
        rw [this]
      rw [ed] at h2
      unfold forL at h2
      cases eg : g d env' with
      | none => rw [eg] at h2; exact h2.elim
      | some env1 =>
        rw [eg] at h2
        simp only at h2
        refine ⟨F3, env', fp', d, env1, sat'.ext x3, dp, eg, fun σ4 fp4 sat4 sub4 off4 => ?_⟩
        have st4 : StepS F' H' fp' F3 H3 fp4 := (StepS.of_ext x3 fp').subset sub4
        have h4 := PostS.step h2 (.of off4 hS) st4
        refine sb F3 H3 σ4 env1 fp4 _ sat4 ?_
        cases ef : fs env1 with
        | no => rw [ef] at h4; exact h4
        | nx env2 => rw [ef] at h4; exact fun σ5 F5 H5 fp5 o5 s5 sat5 => ⟨F5, env2, fp5, st.trans (x3.ff.trans s5.ff), sat5, PostS.step h4 o5 s5⟩
        | ct env2 => rw [ef] at h4; exact fun σ5 F5 H5 fp5 o5 s5 sat5 => ⟨F5, env2, fp5, st.trans (x3.ff.trans s5.ff), sat5, PostS.step h4 o5 s5⟩
        | bk env2 => rw [ef] at h4; exact h4
        | rt r env2 => rw [ef] at h4; exact h4
        | ex c env2 => rw [ef] at h4; exact h4
  · have e : i = items.length := by omega
    subst e
    rw [List.drop_length] at h2
    exact .inl ⟨wk.stop F' H' st sat'.fh, h2 σ' F' H' fp' (.refl _ _) (StepS.of_ext (.refl sat'.fh) fp') sat'⟩
end
end Mir
end
set_option Elab.async false
set_option linter.all false
set_option maxRecDepth 100000
set_option maxHeartbeats 4000000
noncomputable section
namespace Mir
open PySem PySem.Spec PyProof.Rows L2
abbrev NKvs := List (NestedKey × Addr × V)
section
variable {X : Cx} {pins : List (Addr × Obj)} {σ : L2.St} {H : Hp} {s : Shared}
mutual
/-- data that is a key: the key stands there -/
theorem nested_dp (I : Inv X pins σ H s) : ∀ (k : NestedKey) (v : V) (u : Value), Dp X.KK H v k.data → RelV v u → NestedIs s.heap k u
  | .none, v, u, h, r => by
    rw [NestedKey.data] at h
    cases h
    cases (show u = Value.none from r)
    exact .none
  | .num i, v, u, h, r => by
    rw [NestedKey.data] at h
    cases h
    obtain ⟨t, rfl⟩ := (show ∃ t, u = Value.int i t from r)
    exact .int i t
  | .text x, v, u, h, r => by
    rw [NestedKey.data] at h
    cases h
    obtain ⟨t, rfl⟩ := (show ∃ t, u = Value.str x t from r)
    exact .text x t
  | .tup ks, v, u, h, r => by
    rw [NestedKey.data] at h
    cases h with
    | @tup a xs _ hs ha =>
      cases (show u = Value.ref a from r)
      obtain ⟨its, rv, ⟨o, h1, h2, n, h3⟩, hz⟩ := I.tuple hs
      exact .tup h1 h2 h3 (by simpa using nested_dps I ks xs its ha rv)
theorem nested_dps (I : Inv X pins σ H s) : ∀ (ks : List NestedKey) (vs : List V) (us : List Value), DpAll X.KK H vs (NestedKey.datas ks) → Vals vs us → NestedAll s.heap ks us
  | [], vs, us, h, r => by
    rw [NestedKey.datas] at h
    cases h
    cases r
    exact .nil
  | k :: ks, vs, us, h, r => by
    rw [NestedKey.datas] at h
    cases h with
    | cons h1 h2 =>
      cases r with
      | cons r1 r2 => exact .cons (nested_dp I k _ _ h1 r1) (nested_dps I ks _ _ h2 r2)
end
/-- the keys as they stand -/
def KeysN (K : Kw) (H : Hp) (kvs : NKvs) : Prop := ∀ p ∈ kvs, Dp K H (.ref p.2.1) p.1.data ∧ p.1.depth ≤ 8
/-- a dict of such keys stands there (an empty one may be told either way) -/
def IsN (w : World) (H : Hp) (d : Addr) (kvs : NKvs) : Prop := Rd H d (dnO w d kvs) ∨ (kvs = [] ∧ Rd H d (.dK []))
theorem dn_rd (I : Inv X pins σ H s) {d : Addr} {kvs : NKvs} (h : IsN X.w H d kvs) (hk : KeysN X.KK H kvs) : kvs.length ≤ sizeLine ∧ (d == sysModules) = false ∧ ∃ xs, Paired RelN kvs xs ∧ s.heap.DictOfH (nestedKind X.prog X.w) d xs := by
  rcases h with h | ⟨rfl, h⟩
  rotate_left
  · obtain ⟨z, hs, vs, kv, o, es, ep, ho, hx, hdt, r⟩ := dk_rd I.hok h
    cases kv
    have l1 := r.2.1.length
    have e0 : es.toList = [] := by
      rw [List.length_nil] at l1
      exact List.eq_nil_of_length_eq_zero (by first | exact l1 | exact l1.symm | omega)
    exact ⟨z, hs, [], .nil, o, es, ep, ho, hx, hdt, by rw [e0]; rfl, (fun x hx => nomatch hx), List.nodup_nil⟩
  obtain ⟨⟨z, hs, xs, pr, o, es, ep, ho, hx, hdt, he, nd⟩, _⟩ := (show ObjOk X.prog X.w H s.heap d (dnO X.w d kvs) from h.ok I.hok)
  refine ⟨z, hs, xs, pr, o, es, ep, ho, hx, hdt, he, fun x hxm => ?_, nd⟩
  have all : ∀ {l : NKvs} {m : List (NestedKey × Addr × Value)}, Paired RelN l m → KeysN X.KK H l → ∀ x ∈ m, (nestedKind X.prog X.w).is s.heap x.1 x.2.1 := by
    intro l m q
    induction q with
    | nil => intro _ x hx; exact nomatch hx
    | @cons p q ps qs hq t ih =>
      intro hk x hx
      rcases List.mem_cons.mp hx with e | hx
      · subst e
        obtain ⟨h1, h2, _⟩ := hq
        obtain ⟨k1, k2⟩ := hk p List.mem_cons_self
        rw [← h1, ← h2]
        exact ⟨nested_dp I p.1 (.ref p.2.1) _ k1 rfl, k2⟩
      · exact ih (fun p hp => hk p (List.mem_cons_of_mem _ hp)) x hx
  exact all pr hk x hxm
variable {A : Around} {E : Value → Shared → Prop} {d b : Addr} {kvs : NKvs} {k : NestedKey}
end
def eqD (a b : D) : Bool := @decide (a = b) (Classical.propDecidable _)
theorem eqD_iff {a b : D} : eqD a b = true ↔ a = b := @decide_eq_true_iff _ (Classical.propDecidable _)
@[simp] theorem eqD_self (a : D) : eqD a a = true := eqD_iff.mpr rfl
section
variable {X : Cx} {W : WX} {a b e k : Expr} {f g : Ev → R D} {pos : Pos}
end
def nO (ps : List (D × D)) : Ow := .n (ps.map (·.1)) (ps.map fun p => .d p.2)
theorem zip_fs : ∀ ps : List (D × D), (ps.map (·.1)).zip (ps.map (·.2)) = ps
  | [] => rfl
  | p :: ps => by rw [List.map_cons, List.map_cons, List.zip_cons_cons, zip_fs ps]
@[simp] theorem viewD_nO (ps : List (D × D)) : viewD (nO ps) = .dict ps := by
  unfold nO
  rw [viewD_n]
  have : viewAll (ps.map fun p => Ow.d p.2) = ps.map (·.2) := by
    have := viewAll_mapd (ps.map (·.2))
    rw [List.map_map] at this
    exact this
  rw [this, zip_fs]
section
variable {X : Cx} {W : WX} {S : Nat → Bool} {e k : Expr} {pos tpos npos : Pos} {x : Str} {f g : Ev → R D}
def eDictNewN (_ : Ev) : R Ow := .ok (nO [])
@[simp] theorem eDictNewN_eq (env : Ev) : eDictNewN env = .ok (nO []) := rfl
end
end Mir
end
set_option Elab.async false
set_option linter.all false
set_option maxRecDepth 100000
set_option maxHeartbeats 4000000
noncomputable section
namespace Mir
open PySem PySem.Spec PyProof.Rows L2
section
variable {K : Kw} {F H : Hp} {σ : L2.St} {env : Ev} {fp : List Addr}
end
section
variable {X : Cx} {W : WX} {S : Nat → Bool} {e k : Expr} {pos tpos npos apos cpos : Pos} {x : Str} {f : Ev → R Ow} {g : Ev → R D}
end
end Mir
end
set_option Elab.async false
set_option linter.all false
set_option maxRecDepth 100000
set_option maxHeartbeats 4000000
noncomputable section
namespace Mir
open PySem PySem.Spec PyProof.Rows L2
section
variable {X : Cx} {W : WX} {a b : Expr} {pos : Pos} {f g : Ev → R D}
end
end Mir
set_option Elab.async false
set_option linter.all false
set_option maxRecDepth 100000
set_option maxHeartbeats 4000000
noncomputable section
namespace Mir
open PySem PySem.Spec PyProof.Rows L2
section
variable {X : Cx} {W : WX}
end
end Mir
set_option Elab.async false
set_option linter.all false
set_option maxRecDepth 100000
set_option maxHeartbeats 4000000
noncomputable section
namespace Mir
open PySem PySem.Spec PyProof.Rows L2
section
variable {X : Cx} {W : WX} {a b : Expr} {pos : Pos} {f g : Ev → R D}
end
def gMulZ : D → D → Option D
  | .int i, .int j => gMul (.int i) (.int j)
  | .str z, .int n => if 0 ≤ n ∧ n ≤ 1000000 ∧ z.length * n.toNat ≤ sizeLine then some (.str (repS z n.toNat)) else none
  | _, _ => none
@[simp] theorem gMulZ_int (i j : Int) : gMulZ (.int i) (.int j) = gMul (.int i) (.int j) := rfl
section
variable {X : Cx} {W : WX} {a b : Expr} {pos : Pos} {f g : Ev → R D}
end
section
variable {K : Kw} {F H : Hp} {σ : L2.St} {env : Ev} {fp : List Addr}
end
section
variable {X : Cx} {x : Str}
end
end Mir
set_option Elab.async false
set_option linter.all false
set_option maxRecDepth 100000
set_option maxHeartbeats 4000000
noncomputable section
namespace RT
open PySem PySem.Spec PyProof.Rows
open PySem.Sem (wp)
section
variable {prog : Program} {w : World} {A : Around} {E : Value → Shared → Prop} {s : Shared} {z TI TO i1 i2 T : Addr} {fp1 fp2 : List Addr} {n1 n2 i : Nat} {P1 P2 : Nat → Value → Prop} {St1 St2 : Nat → Heap → Prop} {f : Bool} {oT : Obj}
/-- a zip at turn i, with no tuple out or with one that is held -/
def ZipSt (h : Heap) (z TI TO S i1 i2 : Addr) (i : Nat) : Prop :=
  (i = 0 ∧ IsZip h z TI TO .none ∧ ∃ a1 a2, IsTupOf2 h TO a1 a2) ∨ ∃ T f oT, IsZipHeld h z TI TO T f ∧ h.get? T = some oT ∧ T ≠ z ∧ T ≠ i1 ∧ T ≠ i2 ∧ T ≠ S
theorem ZipSt.keep {h h' : Heap} {z TI TO S i1 i2 : Addr} {i : Nat} (q : ZipSt h z TI TO S i1 i2 i) (up : ∀ b o, b ≠ S → h.get? b = some o → h'.get? b = some o) (zs : z ≠ S) (ts : TO ≠ S) : ZipSt h' z TI TO S i1 i2 i := by
  rcases q with ⟨a, b, c, d, e⟩ | ⟨T, f, oT, a, b, c, d, e, g⟩
  · exact .inl ⟨a, up _ _ zs b, c, d, up _ _ ts e⟩
  · exact .inr ⟨T, f, oT, up _ _ zs a, up _ _ g b, c, d, e, g⟩
end
end RT
set_option Elab.async false
set_option linter.all false
set_option maxRecDepth 100000
set_option maxHeartbeats 4000000
noncomputable section
namespace RT
open PySem PySem.Spec PyProof.Rows
open PySem.Sem (wp)
structure ZipG (P1 P2 : Nat → Value → Prop) (lo : Addr) (h : Heap) (as : List Addr) : Prop where
  rise : as.Pairwise (· < ·)
  above : ∀ a ∈ as, lo < a
  pairs : ∀ (j : Nat) (a : Addr), as[j]? = some a → ∃ x y, P1 j x ∧ P2 j y ∧ h.get? a = some { cls := .type "tuple", data := .seq #[x, y] }
theorem ZipG.there {P1 P2 : Nat → Value → Prop} {lo : Addr} {h : Heap} {as : List Addr} (g : ZipG P1 P2 lo h as) {a : Addr} (ha : a ∈ as) : a < h.objs.size := by
  obtain ⟨j, hj⟩ := List.mem_iff_getElem?.mp ha
  obtain ⟨_, _, _, _, e⟩ := g.pairs j a hj
  exact Heap.lt_size e
section
variable {prog : Program} {w : World} {A : Around} {E : Value → Shared → Prop} {s : Shared} {R : Result → Shared → Prop} {z TI TO i1 i2 : Addr} {fp1 fp2 : List Addr} {n1 n2 : Nat} {P1 P2 : Nat → Value → Prop} {St1 St2 : Nat → Heap → Prop}
end
end RT
set_option Elab.async false
set_option linter.all false
set_option maxRecDepth 100000
set_option maxHeartbeats 4000000
noncomputable section
namespace Mir
open PySem PySem.Spec PyProof.Rows L2 RT
section
variable {X : Cx} {pins : List (Addr × Obj)} {σ : L2.St} {H : Hp} {s : Shared} {h' : Heap}
end
section
variable {X : Cx} {W : WX}
end
end Mir
end
noncomputable section
namespace Mir
open PySem PySem.Spec PyProof.Rows L2 RT
def ownL1 (zs : List D) : Ow := .l (zs.map Ow.d)
def eListZip (fa : Ev → R (List D)) : Ev → R Ow := eM (eB fa zpArg) ownL1
@[simp] theorem eListZip_eq (fa : Ev → R (List D)) (env : Ev) : eListZip fa env = ((fa env).bind zpArg).map ownL1 := rfl
section
variable {X : Cx} {W : WX}
end
end Mir
end
noncomputable section
namespace Mir
open PySem PySem.Spec PyProof.Rows L2
def gtLst (n : Nat) (h : List D → Ev → Option Ev) : D → Ev → Option Ev
  | .list ds, env => if ds.length = n then h ds env else none
  | _, _ => none
@[simp] theorem gtLst_eq (n : Nat) (h : List D → Ev → Option Ev) (ds : List D) (env : Ev) : gtLst n h (.list ds) env = if ds.length = n then h ds env else none := rfl
end Mir
end
set_option Elab.async false
set_option linter.all false
set_option maxRecDepth 100000
set_option maxHeartbeats 4000000
noncomputable section
namespace Mir
open PySem PySem.Spec PyProof.Rows L2
section
variable {K : Kw} {F H : Hp} {σ : L2.St} {env : Ev} {fp : List Addr}
/-- what lies beside it may change -/
theorem Sat.beside {F' H' : Hp} {fx fy : List Addr} (sat : Sat K F H σ env fp) (st : StepS F H fx F' H' fy) (dj : ∀ b ∈ fp, b ∉ fx) (sf : Same F' H') : Sat K F' H' σ env fp := ⟨sf, sat.en.keep st dj, sat.nd⟩
end
def insV {α : Type} (p : Nat) (x : α) (xs : List α) : List α := xs.take p ++ x :: xs.drop p
@[simp] theorem insV_0 {α : Type} (x : α) (xs : List α) : insV 0 x xs = x :: xs := by simp [insV]
@[simp] theorem insV_s {α : Type} (p : Nat) (x y : α) (xs : List α) : insV (p + 1) x (y :: xs) = y :: insV p x xs := by simp [insV]
def envP (p l : Nat) (o : Ow) (ds : List D) : Ev := insV p (some o) (ds.map fun d => some (Ow.d d)) ++ List.replicate l none
section
variable {P : Program} {w : World} {K : PySem.W.Frag} {mg : Str → Option Value} {base : Heap}
end
inductive RY (α : Type) where
  | no
  | ok (a : α) (env : Ev)
  | ex (c : Str) (env : Ev)
def RY.bind {α β : Type} : RY α → (α → Ev → RY β) → RY β
  | .no, _ => .no
  | .ok a env, g => g a env
  | .ex c env, _ => .ex c env
@[simp] theorem RY.bind_ok {α β : Type} (a : α) (env : Ev) (g : α → Ev → RY β) : (RY.ok a env).bind g = g a env := rfl
@[simp] theorem RY.bind_ex {α β : Type} (c : Str) (env : Ev) (g : α → Ev → RY β) : (RY.ex c env : RY α).bind g = .ex c env := rfl
def PostY (X : Cx) (W : WX) {α β : Type} (P : Hp → α → β → Prop) (F H : Hp) (fp : List Addr) (σ : L2.St) : RY α → (β → Hp → Prop) → Prop
  | .no, _ => False
  | .ok a env, Q => ∀ v F' H' fp', StepS F H fp F' H' fp' → Sat X.KK F' H' σ env fp' → P F' a v → Q v H'
  | .ex c env, _ => ∀ C F' H' fp', X.mg c = some (.ref C) → StepS F H fp F' H' fp' → Sat X.KK F' H' σ env fp' → W (.ref C) none σ H'
def SmY (X : Cx) (W : WX) {α β : Type} (P : Hp → α → β → Prop) (t : L2.St → Hp → (β → Hp → Prop) → Prop) (f : Ev → RY α) : Prop :=
  ∀ F H σ env fp Q, Sat X.KK F H σ env fp → PostY X W P F H fp σ (f env) Q → t σ H Q
section
variable {X : Cx} {W : WX} {α β γ δ : Type} {P : Hp → α → β → Prop} {P2 : Hp → γ → δ → Prop} {F H F1 H1 : Hp} {fp fp1 : List Addr} {σ : L2.St}
theorem PostY.step {r : RY α} {Q : β → Hp → Prop} (h : PostY X W P F H fp σ r Q) (s : StepS F H fp F1 H1 fp1) : PostY X W P F1 H1 fp1 σ r Q := by
  cases r with
  | no => exact h
  | ex c env => exact fun C F' H' fp' m s' => h C F' H' fp' m (s.trans s')
  | ok a env => exact fun v F' H' fp' s' => h v F' H' fp' (s.trans s')
theorem SmY.go {t : L2.St → Hp → (β → Hp → Prop) → Prop} {f : Ev → RY α} (s : SmY X W P t f) {g : α → Ev → RY γ} {env : Ev} {Q : δ → Hp → Prop} {T : β → Hp → Prop} (sat : Sat X.KK F H σ env fp) (h : PostY X W P2 F H fp σ ((f env).bind g) Q)
    (k : ∀ a env1 v F1 H1 fp1, StepS F H fp F1 H1 fp1 → Sat X.KK F1 H1 σ env1 fp1 → P F1 a v → PostY X W P2 F1 H1 fp1 σ (g a env1) Q → T v H1) : t σ H T := by
  refine s F H σ env fp T sat ?_
  cases e : f env with
  | no => rw [e] at h; exact h
  | ex c env1 => rw [e] at h; exact h
  | ok a env1 =>
    rw [e] at h
    exact fun v F' H' fp' st sat' q => k a env1 v F' H' fp' st sat' q (PostY.step (show PostY X W P2 F H fp σ (g a env1) Q from h) st)
end
section
variable {X : Cx} {W : WX} {e a b : Expr} {es : List Expr} {pos p : Pos} {x : Str}
end
end Mir
end
set_option Elab.async false
set_option linter.all false
set_option maxRecDepth 100000
set_option maxHeartbeats 4000000
noncomputable section
namespace Mir
open PySem PySem.Spec PyProof.Rows L2
section
variable {X : Cx} {W : WX} {e a b : Expr} {es : List Expr} {pos p : Pos} {x : Str}
end
section
variable {X : Cx} {pins : List (Addr × Obj)} {σ : L2.St} {H : Hp} {s : Shared} {A : Around} {E : Value → Shared → Prop} {d b : Addr} {kvs : NKvs} {k : NestedKey}
end
section
variable {X : Cx} {W : WX} {o e f : Expr} {td ty tx : TE} {apos cpos npos : Pos} {x : Str}
end
section
variable {X : Cx} {W : WX} {S : Nat → Bool} {e : Expr} {pos cpos apos npos : Pos} {x : Str} {f : Ev → RY D}
end
end Mir
end
set_option Elab.async false
set_option linter.all false
set_option maxRecDepth 100000
set_option maxHeartbeats 4000000
noncomputable section
namespace Mir
open PySem PySem.Spec PyProof.Rows L2
section
variable {X : Cx} {W : WX} {e : Expr} {p pos npos : Pos} {x : Str} {td : TE}
theorem items_all {es : Array DictEntry} {vs : List Value} (hv : es.toList.map (·.key) = vs) {acc : Array Value} (h : ItemsOf (fun i v => ∃ hi : i < es.size, v = es[i].key) acc es.size) : acc.toList = vs := by
  subst hv
  obtain ⟨h1, h2⟩ := h
  refine List.ext_getElem? fun j => ?_
  by_cases hj : j < es.size
  · have hja : j < acc.size := by omega
    have e1 : acc.toList[j]? = some acc[j] := by rw [Array.getElem?_toList, Array.getElem?_eq_getElem hja]
    obtain ⟨hi, e2⟩ := h2 j acc[j] (Array.getElem?_eq_getElem hja)
    rw [e1, e2, List.getElem?_map, Array.getElem?_toList, Array.getElem?_eq_getElem hj]
    rfl
  · rw [List.getElem?_eq_none (by rw [Array.length_toList]; omega), List.getElem?_eq_none (by rw [List.length_map, Array.length_toList]; omega)]
end
end Mir
end
set_option Elab.async false
set_option linter.all false
set_option maxRecDepth 100000
set_option maxHeartbeats 4000000
noncomputable section
namespace Mir
open PySem PySem.Spec PyProof.Rows L2
section
variable {X : Cx} {W : WX} {x : Str} {p pos npos : Pos}
end
def finP1 (p : Nat) (d : D) (env : Ev) : R (D × Ow) := match env[p]? with
  | some (some o) => .ok (d, o)
  | _ => .no
def finP (p : Nat) : SR → R (D × Ow)
  | .nx env => finP1 p .none env
  | .rt (.d d) env => finP1 p d env
  | .ex c _ => .ex c
  | _ => .no
@[simp] theorem finP_nx (p : Nat) (env : Ev) : finP p (.nx env) = finP1 p .none env := rfl
@[simp] theorem finP_rt (p : Nat) (d : D) (env : Ev) : finP p (.rt (.d d) env) = finP1 p d env := rfl
@[simp] theorem finP_ex (p : Nat) (c : Str) (env : Ev) : finP p (.ex c env) = .ex c := rfl
@[simp] theorem finP1_0 (d : D) (o : Ow) (env : Ev) : finP1 0 d (some o :: env) = .ok (d, o) := rfl
@[simp] theorem finP1_s (p : Nat) (d : D) (x : Option Ow) (env : Ev) : finP1 (p + 1) d (x :: env) = finP1 p d env := rfl
@[simp] theorem envP_0 (l : Nat) (o : Ow) (ds : List D) : envP 0 l o ds = some o :: envOf l ds := by
  induction ds with
  | nil => simp [envP, envOf]
  | cons d ds ih => simp [envP, envOf] at ih ⊢
@[simp] theorem envP_s (p l : Nat) (o : Ow) (d : D) (ds : List D) : envP (p + 1) l o (d :: ds) = some (.d d) :: envP p l o ds := by simp [envP]
end Mir
end
set_option Elab.async false
set_option linter.all false
set_option maxRecDepth 100000
set_option maxHeartbeats 4000000
noncomputable section
namespace Mir
open PySem PySem.Spec L2
section
variable {X : Cx} {W : WX} {e o : Expr} {pos cpos apos : Pos}
end
end Mir
end
set_option Elab.async false
set_option linter.all false
set_option maxRecDepth 100000
namespace Mir
open PySem PySem.Spec L2
noncomputable section
section
variable {X : Cx} {W : List Str} {a b : Expr} {pos : Pos}
end
end
end Mir
set_option Elab.async false
set_option linter.all false
set_option maxRecDepth 100000
set_option maxHeartbeats 4000000
noncomputable section
namespace Mir
open PySem PySem.Spec PyProof.Rows L2
abbrev Pl := Ow × (Ow → Ev)
def At (K : Kw) (F H : Hp) (σ : L2.St) (fp : List Addr) (w : V) (q : Pl) : Prop := ∃ fo, OwnAt K F H w q.1 fo ∧ fo.Nodup ∧ (∀ b ∈ fo, b ∈ fp) ∧
  ∀ F1 H1 o' fn fx, StepS F H fx F1 H1 [] → (∀ b ∈ fx, b ∈ fo) → Same F1 H1 → OwnAt K F1 H1 w o' fn → fn.Nodup → (∀ b ∈ fn, b ∈ fo ∨ b ∉ fp) → ∃ fp', Sat K F1 H1 σ (q.2 o') fp' ∧ ∀ b ∈ fp', b ∈ fp ∨ b ∈ fn
section
variable {K : Kw} {F H F1 H1 : Hp} {σ : L2.St} {env : Ev} {fp : List Addr} {w : V} {q : Pl}
theorem At.ext (h : At K F H σ fp w q) (x : Ext F H F1 H1) : At K F1 H1 σ fp w q := by
  obtain ⟨fo, a1, a2, a3, a4⟩ := h
  exact ⟨fo, a1.ext x, a2, a3, fun F2 H2 o' fn fx st hx sm ow nd sub => a4 F2 H2 o' fn fx ((StepS.of_ext x fx).trans st) hx sm ow nd sub⟩
theorem At.var (sat : Sat K F H σ env fp) {i : Nat} {o : Ow} (hi : env[i]? = some (some o)) : ∃ w, σ[i]? = some (some w) ∧ At K F H σ fp w (o, fun o' => env.set i (some o')) := by
  have hl : i < env.length := (List.getElem?_eq_some_iff.mp hi).1
  obtain ⟨fr, fo, a1, a2, a3, a3', a4, a5, a6⟩ := sat.en.put hl sat.nd
  obtain ⟨w, e1, e2⟩ := a5 _ hi
  refine ⟨w, e1, fo, e2, a3', a2, fun F1 H1 o' fn fx st hx sm ow nd sub => ?_⟩
  obtain ⟨fp', b1, b2, b3⟩ := (a6 F1 H1 fx [] st fun b hb z => a4 b (hx b z) hb).2 w o' fn ow nd fun b hb z => by
    rcases sub b hb with u | u
    · exact a4 b u z
    · exact u (a1 b z)
  rw [set_self e1] at b3
  exact ⟨fp', ⟨sm, b3, b1⟩, fun b hb => (b2 b hb).elim .inr fun z => .inl (a1 b z)⟩
/-- one place further, in a list .. -/
theorem At.lst {os : List Ow} {bk : Ow → Ev} (h : At K F H σ fp w (.l os, bk)) {j : Nat} {o : Ow} (hj : os[j]? = some o) : ∃ a vs u, w = .ref a ∧ H a = some (.lst vs) ∧ vs.length = os.length ∧ vs[j]? = some u ∧ At K F H σ fp u (o, fun o' => bk (.l (os.set j o'))) := by
  obtain ⟨fo, a1, a2, a3, a4⟩ := h
  cases a1 with
  | @l a vs _ f0 m1 m2 m3 =>
  obtain ⟨nd1, nd2⟩ := List.nodup_cons.mp a2
  obtain ⟨u, f1, fr, g1, g2, g3, g4, g5, g6, g7, g8⟩ := OwnAll.get m3 nd2 hj
  refine ⟨a, vs, u, rfl, m2, m3.len, g1, f1, g2, g3, fun b hb => a3 b (List.mem_cons_of_mem _ (g5 b hb)), fun F1 H1 o' fn fx st hx sm ow nd sub => ?_⟩
  have na : a ∉ fx := fun z => nd1 (g5 a (hx a z))
  obtain ⟨f2, k1, k2, k3⟩ := g8 F1 H1 fx [] u o' fn st (fun b hb z => g7 b (hx b z) hb) ow nd fun b hb z => by
    rcases sub b hb with q | q
    · exact g7 b q z
    · exact q (a3 b (List.mem_cons_of_mem _ (g6 b z)))
  rw [set_selfV g1] at k1
  have nn : a ∉ f2 := fun z => by
    rcases k3 a z with q | q
    · rcases sub a q with q | q
      · exact nd1 (g5 a q)
      · exact q (a3 a List.mem_cons_self)
    · exact nd1 (g6 a q)
  obtain ⟨fp', s1, s2⟩ := a4 F1 H1 (.l (os.set j o')) (a :: f2) fx st (fun b hb => List.mem_cons_of_mem _ (g5 b (hx b hb))) sm (.l (st.none_of m1 m2 na) (st.fr _ _ m2 na) k1) (List.nodup_cons.mpr ⟨nn, k2⟩) fun b hb => by
    rcases List.mem_cons.mp hb with q | q
    · subst q; exact .inl List.mem_cons_self
    · rcases k3 b q with q | q
      · exact (sub b q).imp (fun z => List.mem_cons_of_mem _ (g5 b z)) id
      · exact .inl (List.mem_cons_of_mem _ (g6 b q))
  refine ⟨fp', s1, fun b hb => ?_⟩
  rcases s2 b hb with q | q
  · exact .inl q
  · rcases List.mem_cons.mp q with q | q
    · subst q; exact .inl (a3 _ List.mem_cons_self)
    · rcases k3 b q with q | q
      · exact .inr q
      · exact .inl (a3 b (List.mem_cons_of_mem _ (g6 b q)))
/-- .. and in a tuple -/
theorem At.tup {os : List Ow} {bk : Ow → Ev} (h : At K F H σ fp w (.t os, bk)) : ∃ a vs, w = .ref a ∧ SqT K.K F a vs ∧ vs.length = os.length ∧ ∀ (j : Nat) (o : Ow), os[j]? = some o → ∃ u, vs[j]? = some u ∧ At K F H σ fp u (o, fun o' => bk (.t (os.set j o'))) := by
  obtain ⟨fo, a1, a2, a3, a4⟩ := h
  cases a1 with
  | @t a vs _ f0 m1 m3 =>
  refine ⟨a, vs, rfl, m1, m3.len, fun j o hj => ?_⟩
  obtain ⟨u, f1, fr, g1, g2, g3, g4, g5, g6, g7, g8⟩ := OwnAll.get m3 a2 hj
  refine ⟨u, g1, f1, g2, g3, fun b hb => a3 b (g5 b hb), fun F1 H1 o' fn fx st hx sm ow nd sub => ?_⟩
  obtain ⟨f2, k1, k2, k3⟩ := g8 F1 H1 fx [] u o' fn st (fun b hb z => g7 b (hx b z) hb) ow nd fun b hb z => by
    rcases sub b hb with q | q
    · exact g7 b q z
    · exact q (a3 b (g6 b z))
  rw [set_selfV g1] at k1
  obtain ⟨fp', s1, s2⟩ := a4 F1 H1 (.t (os.set j o')) f2 fx st (fun b hb => g5 b (hx b hb)) sm (.t (SqT_mono st.ff m1) k1) k2 fun b hb => by
    rcases k3 b hb with q | q
    · exact (sub b q).imp (g5 b) id
    · exact .inl (g6 b q)
  refine ⟨fp', s1, fun b hb => ?_⟩
  rcases s2 b hb with q | q
  · exact .inl q
  · rcases k3 b q with q | q
    · exact .inr q
    · exact .inl (a3 b (g6 b q))
/-- the list that stands there, changed -/
theorem At.mut {os : List Ow} {bk : Ow → Ev} (h : At K F H σ fp w (.l os, bk)) (sat : Sat K F H σ env fp) : ∃ a vs fo, w = .ref a ∧ F a = none ∧ H a = some (.lst vs) ∧ a ∈ fp ∧ OwnAll K F H vs os fo ∧ fo.Nodup ∧ a ∉ fo ∧ (∀ b ∈ fo, b ∈ fp) ∧
    ∀ F1 H1 vs' os' fo', Ext F H F1 H1 → OwnAll K F1 (upd H1 a (.lst vs')) vs' os' fo' → fo'.Nodup → (∀ b ∈ fo', b ∈ fo ∨ b ∉ fp) → ∃ fp', Sat K F1 (upd H1 a (.lst vs')) σ (bk (.l os')) fp' ∧ ∀ b ∈ fp', b ∈ fp ∨ b ∈ fo' := by
  obtain ⟨fo, a1, a2, a3, a4⟩ := h
  cases a1 with
  | @l a vs _ f0 m1 m2 m3 =>
  obtain ⟨nd1, nd2⟩ := List.nodup_cons.mp a2
  refine ⟨a, vs, f0, rfl, m1, m2, a3 a List.mem_cons_self, m3, nd2, nd1, fun b hb => a3 b (List.mem_cons_of_mem _ hb), fun F1 H1 vs' os' fo' x ow nd sub => ?_⟩
  have fa := mut_free x m1 m2
  have na : a ∉ fo' := fun z => by
    rcases sub a z with q | q
    · exact nd1 q
    · exact q (a3 a List.mem_cons_self)
  obtain ⟨fp', s1, s2⟩ := a4 F1 (upd H1 a (.lst vs')) (.l os') (a :: fo') [a] (mut_step x m2) (fun b hb => by rw [List.mem_singleton.mp hb]; exact List.mem_cons_self) (mut_same x.fh fa) (.l fa upd_same ow) (List.nodup_cons.mpr ⟨na, nd⟩) fun b hb => by
    rcases List.mem_cons.mp hb with q | q
    · subst q; exact .inl List.mem_cons_self
    · exact (sub b q).imp (List.mem_cons_of_mem _) id
  refine ⟨fp', s1, fun b hb => ?_⟩
  rcases s2 b hb with q | q
  · exact .inl q
  · rcases List.mem_cons.mp q with q | q
    · subst q; exact .inl (a3 _ List.mem_cons_self)
    · exact .inr q
end
def PostPl (X : Cx) (W : WX) (F H : Hp) (σ : L2.St) (fp : List Addr) : R Pl → (V → Hp → Prop) → Prop
  | .no, _ => False
  | .ok q, Q => ∀ w F' H', Ext F H F' H' → At X.KK F' H' σ fp w q → Q w H'
  | .ex c, _ => ∀ C F' H', X.mg c = some (.ref C) → Ext F H F' H' → W (.ref C) none σ H'
def DPt (X : Cx) (W : WX) (e : Expr) (f : Ev → R Pl) : Prop := ∃ t, PE X e t ∧ ∀ F H σ env fp Q, Sat X.KK F H σ env fp → PostPl X W F H σ fp (f env) Q → t σ H Q
def pVar (i : Nat) (env : Ev) : R Pl := match env[i]? with
  | some (some o) => .ok (o, fun o' => env.set i (some o'))
  | _ => .no
def ixP (q : Pl) : D → R Pl
  | .int k => match q.1 with
    | .l os => match ixN os.length k with
      | some j => match os[j]? with
        | some o => .ok (o, fun o' => q.2 (.l (os.set j o')))
        | none => .no
      | none => .no
    | .t os => match ixN os.length k with
      | some j => match os[j]? with
        | some o => .ok (o, fun o' => q.2 (.t (os.set j o')))
        | none => .no
      | none => .no
    | _ => .no
  | _ => .no
def pIx (f : Ev → R Pl) (g : Ev → R D) (env : Ev) : R Pl := (f env).bind fun q => (g env).bind fun d => ixP q d
section
variable {X : Cx} {W : WX} {S : Nat → Bool} {e a b : Expr} {pos cpos apos npos tpos : Pos} {x : Str}
theorem dpt_var (i : Nat) {x : Str} (hN : X.N[i]? = some x := by rfl) (hv : Vis X.env.scope x := by first | exact Or.inl rfl | exact Or.inr (Or.inl rfl) | exact Or.inr (Or.inr rfl)) (hd : (x == ("__debug__" : Str)) = false := by decide)
    (hcd : (x == ("__classdict__" : Str)) = false := by decide) : DPt X W (.Name x pos) (pVar i) := by
  refine ⟨_, pe_var hN hv hd hcd, fun F H σ env fp Q sat h => ?_⟩
  unfold pVar at h
  split at h
  · rename_i o he
    obtain ⟨w, h1, h2⟩ := At.var sat he
    exact ⟨w, h1, h w F H (.refl sat.fh) h2⟩
  · exact h.elim
theorem dpt_ix {f : Ev → R Pl} {g : Ev → R D} (ha : DPt X W a f) (hb : DV X W b g) (hs : PlainIx b := by exact fun _ _ => rfl) : DPt X W (.Subscript a b pos) (pIx f g) := by
  obtain ⟨ta, pa, sa⟩ := ha
  obtain ⟨tb, pb, sb⟩ := hb
  refine ⟨_, pe_ix ix_seq pa pb hs, fun F H σ env fp Q sat h => ?_⟩
  refine sa F H σ env fp _ sat ?_
  unfold pIx at h
  cases ef : f env with
  | no => rw [ef] at h; exact h.elim
  | ex c => rw [ef] at h; exact h
  | ok q =>
  rw [ef, R.bind_ok] at h
  intro w F1 H1 x1 at1
  refine sb F1 H1 σ env fp _ (sat.ext x1) ?_
  cases eg : g env with
  | no => rw [eg] at h; exact h.elim
  | ex c => rw [eg] at h; exact fun C F' H' m x => h C F' H' m (x1.trans x)
  | ok d =>
  rw [eg, R.bind_ok] at h
  intro u F2 H2 x2 qd
  have at2 := at1.ext x2
  have x := x1.trans x2
  unfold ixP at h
  cases d with
  | int k =>
    cases dp_int qd
    obtain ⟨o, bk⟩ := q
    simp only at h
    cases o with
    | l os =>
      simp only at h
      cases hj : ixN os.length k with
      | none => rw [hj] at h; exact h.elim
      | some j =>
      rw [hj] at h
      simp only at h
      cases ho : os[j]? with
      | none => rw [ho] at h; exact h.elim
      | some o =>
      rw [ho] at h
      obtain ⟨p, vs, v, rfl, p1, p2, p3, p4⟩ := at2.lst ho
      exact .inl ⟨p, vs, k, v, rfl, rfl, SqL.of p1, by unfold atI; rw [p2, hj]; exact p3, h v F2 H2 x p4⟩
    | t os =>
      simp only at h
      cases hj : ixN os.length k with
      | none => rw [hj] at h; exact h.elim
      | some j =>
      rw [hj] at h
      simp only at h
      cases ho : os[j]? with
      | none => rw [ho] at h; exact h.elim
      | some o =>
      rw [ho] at h
      obtain ⟨p, vs, rfl, p1, p2, pj⟩ := at2.tup
      obtain ⟨v, p3, p4⟩ := pj j o ho
      exact .inr (.inl ⟨p, vs, k, v, rfl, rfl, SqT_mono (sat.ext x).fh p1, by unfold atI; rw [p2, hj]; exact p3, h v F2 H2 x p4⟩)
    | _ => exact h.elim
  | _ => exact h.elim
end
/-- an own thing taken out of its slot -/
theorem Sat.take {K : Kw} {F H : Hp} {σ : L2.St} {env : Ev} {fp : List Addr} (s : Sat K F H σ env fp) {i : Nat} {o : Ow} (hi : env[i]? = some (some o)) : ∃ v fo fr, σ[i]? = some (some v) ∧ OwnAt K F H v o fo ∧ fo.Nodup ∧ Sat K F H σ (env.set i none) fr ∧ (∀ b ∈ fr, b ∈ fp) ∧ (∀ b ∈ fo, b ∈ fp) ∧ (∀ b ∈ fo, b ∉ fr) := by
  have hl : i < env.length := (List.getElem?_eq_some_iff.mp hi).1
  obtain ⟨fr, fo, a1, a2, a3, a4, a5, a6, a7⟩ := s.en.put hl s.nd
  obtain ⟨v, e1, e2⟩ := a6 o hi
  have z := (a7 F H [] [] (StepS.of_ext (.refl s.fh) []) fun _ _ => by simp).1 (some v)
  rw [set_self e1] at z
  exact ⟨v, fo, fr, e1, e2, a4, ⟨s.fh, z, a3⟩, a1, a2, a5⟩
section
variable {X : Cx} {W : WX} {S : Nat → Bool} {e a b : Expr} {pos pos2 cpos apos npos tpos p1 p2 p3 p4 : Pos} {x y : Str} {sts : List Stmt} {gs : Ev → SR} {k1 : Nat}
end
end Mir
end
set_option Elab.async false
set_option linter.all false
set_option maxRecDepth 100000
set_option maxHeartbeats 4000000
noncomputable section
namespace Mir
open PySem PySem.Spec PyProof.Rows L2
section
variable {X : Cx} {W : WX} {S : Nat → Bool} {e a : Expr} {pos cpos apos : Pos}
end
def mNil (env : Ev) : R (List Ow × Ev) := .ok ([], env)
def mCons (f : Ev → R Ow) (g : Ev → R (List Ow × Ev)) (env : Ev) : R (List Ow × Ev) := (f env).bind fun o => (g env).map fun p => (o :: p.1, p.2)
section
variable {X : Cx} {W : WX} {S : Nat → Bool} {e : Expr} {es : List Expr} {pos p1 : Pos} {x : Str}
end
section
variable (env : Ev)
@[simp] theorem mNil_eq : mNil env = .ok ([], env) := rfl
@[simp] theorem mCons_eq (f : Ev → R Ow) (g : Ev → R (List Ow × Ev)) : mCons f g env = (f env).bind fun o => (g env).map fun p => (o :: p.1, p.2) := rfl
end
end Mir
end
set_option Elab.async false
set_option linter.all false
set_option maxRecDepth 100000
set_option maxHeartbeats 4000000
noncomputable section
namespace Mir
open PySem PySem.Spec PyProof.Rows L2
section
variable {X : Cx} {W : WX} {S : Nat → Bool} {e : Expr} {p p2 pos pos2 p1 p3 : Pos} {x y : Str} {k1 : Nat}
end
end Mir
end
set_option Elab.async false
set_option linter.all false
set_option maxRecDepth 100000
set_option maxHeartbeats 4000000
noncomputable section
namespace Mir
open PySem PySem.Spec PyProof.Rows L2
section
variable {X : Cx} {W : WX} {e a b : Expr} {es : List Expr} {pos p : Pos} {x : Str}
end
end Mir
end
set_option Elab.async false
set_option linter.all false
set_option maxRecDepth 100000
set_option maxHeartbeats 4000000
noncomputable section
namespace Mir
open PySem PySem.Spec PyProof.Rows L2
section
variable {K : Kw} {F H : Hp} {σ : L2.St} {fp : List Addr} {w : V}
end
section
variable {X : Cx} {W : WX} {a b c : Expr} {apos cpos : Pos}
end
end Mir
end
set_option Elab.async false
set_option linter.all false
set_option maxRecDepth 100000
set_option maxHeartbeats 4000000
noncomputable section
namespace Mir
open PySem PySem.Spec PyProof.Rows L2
section
variable {T : Type} [DecidableEq T]
def onceL (ks : List T) : List T := ks.foldl step_dedup []
theorem onceL_snoc (ks : List T) (k : T) : onceL (ks ++ [k]) = step_dedup (onceL ks) k := by unfold onceL; rw [List.foldl_append]; rfl
theorem onceL_le (ks : List T) : (onceL ks).length ≤ ks.length := by
  have := foldl_step_dedup_length_le ([] : List T) ks
  simpa [onceL] using this
theorem sd_any (u : List T) (k j : T) : (step_dedup u k).any (· == j) = (u.any (· == j) || decide (j = k)) := by
  unfold step_dedup
  cases q : u.any (· == k) with
  | true =>
    rw [if_pos rfl]
    by_cases e : j = k
    · rw [e, q]; rfl
    · rw [decide_eq_false e, Bool.or_false]
  | false =>
    rw [if_neg (by simp), List.any_append, List.any_cons, List.any_nil, Bool.or_false]
    congr 1
    by_cases e : j = k
    · simp [e]
    · rw [decide_eq_false e]; exact beq_eq_false_iff_ne.mpr fun z => e z.symm
theorem sd_len (u : List T) (k : T) : (step_dedup u k).length = if u.any (· == k) = true then u.length else u.length + 1 := by
  unfold step_dedup; split <;> simp_all
end
section
variable {prog : Program} {w : World} {A : Around} {R : Result → Shared → Prop} {I : Addr} {fp wr : List Addr} {G : Array GenState → Array GenState → Prop} {P : Nat → Value → Prop} {St : Nat → Shared → Prop}
variable {T : Type} [DecidableEq T] {kd : KeyKind prog w T}
def SetHas (kd : KeyKind prog w T) (h : Heap) (S : Addr) (us : List T) : Prop := h.SetOf kd S (fun k => us.any (· == k)) us.length
theorem SetHas.eqv {h : Heap} {S : Addr} {us vs : List T} {f : T → Bool} {n : Nat} (g : h.SetOf kd S f n) (e : ∀ k, f k = vs.any (· == k)) (en : n = vs.length) : SetHas kd h S vs := by
  have e' : f = fun k => vs.any (· == k) := funext e
  subst e' en
  exact g
theorem set_run (ks : List T) (W : WalksS prog w A.in1 I fp wr G ks.length P St) (S : Addr) (out : S ∉ fp) (at' : ∀ i v, P i v → ∃ k, ks[i]? = some k ∧ kd.is k v = true ∧ v.scannable = true) (room : ks.length + 1 < scanBound) :
    ∀ (left i : Nat) (s : Shared), ks.length - i = left → i ≤ ks.length → St i s → SetHas kd s.heap S (onceL (ks.take i)) →
      (∀ s1, Moved (S :: wr) G s s1 → SetHas kd s1.heap S (onceL ks) → R (.ok (.ret .none)) s1) → codeAny (model prog w) A (.builtin "set.update.loop" ⟨[.ref S, .ref I], []⟩) R s := by
  have out2 : S ∉ wr := fun z => out (W.sub _ z)
  have more : ∀ b ∈ wr, b ∈ S :: wr := fun b z => .tail _ z
  intro left
  induction left with
  | zero =>
    intro i s e1 e2 st has fin
    obtain rfl : i = ks.length := by omega
    rw [List.take_length] at has
    refine codeAny_builtin PyProof.Rows.F.entry_set_update_loop ?_
    rw [Around.under_plainId PyProof.Rows.F.plain_set_update_loop _]
    show wpAny _ A.in1 (pyNext (.ref I) >>= _) _ _ s
    refine wpAny_bind (W.done s _ _ st fun s1 mv => ?_)
    show wpAny _ A.in1 (ret Value.none) _ _ s1
    refine wpAny_pure (fin s1 (mv.mono more) ?_)
    obtain ⟨o, es, ep, t, q, rest⟩ := has
    exact ⟨o, es, ep, t, mv.heap S _ out2 q, rest⟩
  | succ left ih =>
    intro i s e1 e2 st has fin
    have lt : i < ks.length := by omega
    refine codeAny_builtin PyProof.Rows.F.entry_set_update_loop ?_
    rw [Around.under_plainId PyProof.Rows.F.plain_set_update_loop _]
    show wpAny _ A.in1 (pyNext (.ref I) >>= _) _ _ s
    refine wpAny_bind (W.item i s _ _ lt st fun v s1 pv st1 mv => ?_)
    obtain ⟨k, gk, isk, sc⟩ := at' i v pv
    have has1 : SetHas kd s1.heap S (onceL (ks.take i)) := by
      obtain ⟨o, es, ep, t, q, rest⟩ := has
      exact ⟨o, es, ep, t, mv.heap S _ out2 q, rest⟩
    show wpAny _ A.in1 (holding [v] (setAdd S v) >>= _) _ _ s1
    refine wpAny_bind (wpAny_holding ?_)
    unfold setAdd
    refine wpAny_holding (wpAny_bind (kd.pyHash (k := k) isk ?_))
    have small : (onceL (ks.take i)).length + 1 < scanBound := by
      have q1 := onceL_le (ks.take i)
      have q2 := List.length_take_le i ks
      have q3 : (ks.take i).length ≤ ks.length := by rw [List.length_take]; omega
      omega
    refine wpAny_setAddHashed_of (knd := kd) (s := { s1 with toks := s1.toks + 1 }) isk sc has1 small fun h2 but has2 => ?_
    have tk : ks.take (i + 1) = ks.take i ++ [k] := by
      rw [List.take_add_one, gk]; rfl
    have has3 : SetHas kd h2 S (onceL (ks.take (i + 1))) := SetHas.eqv (us := ks) has2 (fun j => by rw [tk, onceL_snoc, sd_any]) (by rw [tk, onceL_snoc, sd_len])
    refine wpAny_pure ⟨plainId_quiet PyProof.Rows.F.plain_set_update_loop _, ih (i + 1) _ (by omega) lt (W.frame _ s1 _ _ st1 (Nat.le_succ _) fun b hb o e => ?_) has3 fun s2 mv2 has4 => ?_⟩
    · rw [but.2 b (fun z : b = S => out (z ▸ hb))]; exact e
    · refine fin s2 (Moved.trans W.gtrans ((mv.mono more).then_heap (Nat.le_succ _) fun b o hb e => ?_) mv2) has4
      rw [but.2 b (fun z : b = S => hb (by rw [z]; exact .head _))]; exact e
end
section
variable {prog : Program} {w : World} {A : Around} {E : Value → Shared → Prop} {s : Shared} {T : Type} [DecidableEq T]
def bareSet (led : Bool) : Obj := { cls := .type "set", dict := none, data := .set #[] 0 (.fresh 0 0 led) }
theorem call_setK (kd : KeyKind prog w T) {l : Addr} {items : Array Value} {ks : List T} {Q : Value → Shared → Prop}
    (hh : A.handled = none) (hl : s.heap.IsList l items) (len : items.size = ks.length) (at' : ∀ (i : Nat) (v : Value), items[i]? = some v → ∃ k, ks[i]? = some k ∧ kd.is k v = true ∧ v.scannable = true) (room : ks.length + 1 < scanBound)
    (h : ∀ (h1 : Heap) (tk : Nat), SetHas kd h1 s.heap.objs.size (onceL ks) → (∀ b o, b < s.heap.objs.size → s.heap.get? b = some o → h1.get? b = some o) → Q (.ref s.heap.objs.size) { s with heap := h1, toks := tk }) :
    wpAny (model prog w) A (call (.type "set") [.ref l]) Q E s := by
  obtain ⟨cc, tl, mro⟩ := PySem.F.called_set.mro
  have made := PySem.F.called_set.made
  have subt := PySem.F.called_set.sub
  refine wpAny_call (codeAny_of_tree ?_)
  show wpAny _ _ (callAny (.type "set") _) _ _ _
  refine wpAny_pure ⟨Code.quiet_builtin _ (by decide +kernel), codeAny_builtin PySem.F.entry_type_call ?_⟩
  rw [Around.under_plain (weight_type_call_type "set" [.ref l] []) rfl]
  have f1 := PySem.F.called_set.notType
  have f2 := PySem.F.called_set.canCreate
  have f3 := PySem.F.typeCall_set_1 (.ref l)
  repeat (any_goals (first | assumption | wp_step))
  refine codeAny_mono (code_set_new_1 (.ref l) (E := E) (Q₁ := fun u z => ∃ led : Bool, u = .ref s.heap.objs.size ∧ z = { s with heap := s.heap.push (bareSet led) }) fun led => ⟨led, rfl, rfl⟩) fun r z hr => ?_
  cases r with
  | error e => exact hr
  | ok fl =>
    cases fl with
    | ret u =>
      obtain ⟨led, rfl, rfl⟩ := hr
      have new : (s.heap.push (bareSet led)).get? s.heap.objs.size = some (bareSet led) := Heap.get?_push_size _ rfl
      have isT : Shared.TypeIs { s with heap := s.heap.push (bareSet led) } (.ref s.heap.objs.size) "set" := ⟨_, new, rfl⟩
      have f4 := PySem.F.called_set.init.lookup
      have f5 := PySem.F.called_set.init.bind (.ref s.heap.objs.size)
      repeat (any_goals (first | assumption | wp_step))
      refine codeAny_mono (codeAny_call_builtin (R := wants (fun u z => u = .none ∧ ∃ h1 tk, z = { s with heap := h1, toks := tk } ∧ SetHas kd h1 s.heap.objs.size (onceL ks) ∧ (∀ b o, b < s.heap.objs.size → s.heap.get? b = some o → h1.get? b = some o)) E)
        PySem.F.called_set.init.plain PySem.F.entry_set_init (check_set_init_1 isT ?_)) fun r2 z2 hr2 => ?_
      · obtain ⟨⟨oc, od, oda, osl⟩, ho, hc, nl, hd⟩ := hl
        simp only at hc hd
        subst hc
        subst hd
        have ho1 : (s.heap.push (bareSet led)).get? l = some { cls := .type "list", dict := od, data := .seq items nl, slots := osl } := Heap.get?_push_of_some _ ho
        have f6 := PySem.F.sub_list_set
        have f7 := PySem.F.sub_list_frozenset
        have f8 : (Value.type "list" == Value.type "dict") = false := by decide
        have hl1 : (s.heap.push (bareSet led)).IsList l items := ⟨_, ho1, rfl, nl, rfl⟩
        unfold Builtin.«set.__init__» noKeywords Builtin.Frozenset.updateFrom
        generalize ep : pyIter = PI
        wp_walk
        subst ep
        refine wpAny_pyIter_list hl1 (wpAny_bind (wpAny_runValue ?_))
        have lt : l < s.heap.objs.size := Heap.lt_size ho
        have hh3 : A.in1.in1.in1.handled = none := by simp [hh]
        have ne1 : l ≠ (s.heap.push (bareSet led)).objs.size := by
          rw [Heap.size_push]; exact Nat.ne_of_lt (Nat.lt_succ_of_lt lt)
        have out : s.heap.objs.size ∉ [(s.heap.push (bareSet led)).objs.size, l] := fun z => by
          rw [Heap.size_push] at z
          rcases List.mem_cons.mp z with z | z
          · exact absurd z (Nat.ne_of_lt (Nat.lt_succ_self _))
          · exact absurd (List.mem_singleton.mp z) (Nat.ne_of_gt lt)
        have W := (Walks.list hh3 (s.heap.push (bareSet led)).objs.size l ne1 items).toS (prog := prog) (w := w)
        rw [len] at W
        refine set_run (kd := kd) ks W s.heap.objs.size out at' room (ks.length - 0) 0 _ (by omega) (Nat.zero_le _) ⟨⟨_, Heap.get?_push_size _ rfl, rfl, rfl⟩, hl1.push _⟩ ?_ ?_
        · have g2 : ((s.heap.push (bareSet led)).push { cls := .type "list_iterator", data := .fields #[.ref l, .int 0 0] }).get? s.heap.objs.size = some (bareSet led) := Heap.get?_push_of_some _ new
          exact SetHas.eqv (us := ks) ((PyProof.Rows.setObjOf_fresh (knd := kd) led).setOf g2 (by unfold scanBound; omega)) (fun _ => rfl) rfl
        · intro z mv has
          obtain ⟨h1, g1, d1, tk1, os1⟩ := z
          have eg : g1 = s.gens := mv.gens
          have ed : d1 = s.drawn := mv.drawn
          have eo : os1 = s.os := mv.os
          subst eg ed eo
          show wpAny _ _ _ _ _ _
          refine wpAny_pure ?_
          show wpAny _ _ (ret Value.none) _ _ _
          refine wpAny_pure ⟨rfl, h1, tk1, rfl, has, fun b o hb e => mv.heap b o (fun z => ?_) (Heap.get?_push_of_some _ (Heap.get?_push_of_some _ e))⟩
          rw [Heap.size_push] at z
          rcases List.mem_cons.mp z with z | z
          · exact absurd z (Nat.ne_of_lt hb)
          · exact absurd (List.mem_singleton.mp z) (Nat.ne_of_lt (Nat.lt_succ_of_lt hb))
      · cases r2 with
        | error e => exact hr2
        | ok fl2 =>
          cases fl2 with
          | ret r =>
            obtain ⟨rfl, h1, tk, rfl, has, kept⟩ := hr2
            repeat (any_goals (first | assumption | wp_step))
            exact h _ _ has kept
          | _ => exact hr2.elim
    | _ => exact hr.elim
end
end Mir
end
set_option Elab.async false
set_option linter.all false
set_option maxRecDepth 100000
set_option maxHeartbeats 4000000
noncomputable section
namespace Mir
open PySem PySem.Spec PyProof.Rows L2
section
variable {X : Cx} {W : WX}
def tLenS (K : PySem.W.Frag) (ta : TE) : TE := fun σ H Q => ta σ H fun x H1 => ∃ l : Addr, x = .ref l ∧
  ((∃ ns : List Int, SqL K H1 l (ns.map V.int) ∧ ns.length ≤ 4000 ∧ Q (.int (onceL ns).length) H1) ∨ (∃ ts : List Str, SqL K H1 l (ts.map V.str) ∧ ts.length ≤ 4000 ∧ Q (.int (onceL ts).length) H1))
theorem intIs (w : World) (P : Program) {i : Int} {t : Nat} : (PySem.intKind P w).is i (.int i t) = true := intKind_is _ _ _ _
theorem strIs (w : World) (P : Program) {i : Str} {t : Nat} : (PySem.strKind P w).is i (.str i t) = true := by
  show (i == i) = true
  exact beq_self_eq_true i
theorem pe_lenS {a : Expr} {ta : TE} {p p2 q pos : Pos} (hg : Gl X "len") (hm : X.mg "len" = none) (hg2 : Gl X "set") (hm2 : X.mg "set" = none) (ha : PE X a ta) (hc : X.calm = true := by rfl)
    (na : starEach [a] X.env = (false, eval a X.env) :: starEach [] X.env := by rfl) : PE X (.Call (.Name "len" p) [.Call (.Name "set" p2) [a] [] q] [] pos) (tLenS X.K ta) := by
  refine ⟨fun pins s σ H Q I h => ?_⟩
  refine Call_ (ld_blt I hg hm boot_len (PyProof.Rows.callWith_builtin1 (PyProof.Rows.args_cons ?_ rfl) rfl rfl))
  refine Call_ (ld_blt I hg2 hm2 boot_set (PyProof.Rows.callWith_type1 (PyProof.Rows.args_cons (thn (ha.run pins s σ H _ I h) fun v s1 ⟨x, H1, I1, r1, q1⟩ => PyProof.Rows.args_nil ?_) na) na rfl))
  obtain ⟨l, rfl, q1⟩ := q1
  cases r1
  rcases q1 with ⟨ns, hq, small, q1⟩ | ⟨ns, hq, small, q1⟩
  all_goals
    obtain ⟨its, r, pl, hz⟩ := I1.list hq
    have e1 : its.toArray.size = ns.length := by rw [List.size_toArray, ← r.length, List.length_map]
  · refine call_setK (PySem.intKind X.prog X.w) (ks := ns) (I1.ok.hd hc) pl.isList e1 (fun i v e => ?_) (by unfold scanBound; omega) fun h1 tk has kept => PyProof.Rows.args_nil ?_
    · have e' : its[i]? = some v := by simpa using e
      obtain ⟨n, gn⟩ : ∃ n, ns[i]? = some n := by
        have := (List.getElem?_eq_some_iff.mp e').1
        exact ⟨_, List.getElem?_eq_getElem (by rw [← r.length, List.length_map] at this; exact this)⟩
      obtain ⟨w, gw, rw1⟩ := r.get (i := i) (x := .int n) (by rw [List.getElem?_map, gn]; rfl)
      rw [e'] at gw
      cases gw
      obtain ⟨t, rfl⟩ := rw1
      exact ⟨n, gn, intIs _ _, rfl⟩
    · obtain ⟨o, es, ep, t, ho, hex, hd, _, _, _, hf, hn⟩ := has
      have I2 : Inv X pins σ H1 { s1 with heap := h1, toks := tk } := I1.kept fun b o e => kept b o (Heap.lt_size e) e
      have := onceL_le ns
      exact call_len_set ho hex hd hf (by rw [hn] <;> omega) ⟨.int (onceL ns).length, H1, I2.tok _, ⟨_, by rw [hn]⟩, q1⟩
  · refine call_setK (PySem.strKind X.prog X.w) (ks := ns) (I1.ok.hd hc) pl.isList e1 (fun i v e => ?_) (by unfold scanBound; omega) fun h1 tk has kept => PyProof.Rows.args_nil ?_
    · have e' : its[i]? = some v := by simpa using e
      obtain ⟨n, gn⟩ : ∃ n, ns[i]? = some n := by
        have := (List.getElem?_eq_some_iff.mp e').1
        exact ⟨_, List.getElem?_eq_getElem (by rw [← r.length, List.length_map] at this; exact this)⟩
      obtain ⟨w, gw, rw1⟩ := r.get (i := i) (x := .str n) (by rw [List.getElem?_map, gn]; rfl)
      rw [e'] at gw
      cases gw
      obtain ⟨t, rfl⟩ := rw1
      exact ⟨n, gn, strIs _ _, rfl⟩
    · obtain ⟨o, es, ep, t, ho, hex, hd, _, _, _, hf, hn⟩ := has
      have I2 : Inv X pins σ H1 { s1 with heap := h1, toks := tk } := I1.kept fun b o e => kept b o (Heap.lt_size e) e
      have := onceL_le ns
      exact call_len_set ho hex hd hf (by rw [hn] <;> omega) ⟨.int (onceL ns).length, H1, I2.tok _, ⟨_, by rw [hn]⟩, q1⟩
def gLenSet : D → R D
  | .list ds => match intsD ds with
    | some ns => if ns.length ≤ 4000 then .ok (.int (onceL ns).length) else .no
    | none => match strsD ds with
      | some ts => if ts.length ≤ 4000 then .ok (.int (onceL ts).length) else .no
      | none => .no
  | _ => .no
theorem df_lenSet {a : Expr} {f : Ev → R D} {p p2 q pos : Pos} (hg : Gl X "len") (hm : X.mg "len" = none) (hg2 : Gl X "set") (hm2 : X.mg "set" = none) (ha : DL X W a f) (hc : X.calm = true := by rfl)
    (na : starEach [a] X.env = (false, eval a X.env) :: starEach [] X.env := by rfl) : DF X W (.Call (.Name "len" p) [.Call (.Name "set" p2) [a] [] q] [] pos) (eB f gLenSet) := by
  obtain ⟨t, pa, s⟩ := ha
  refine ⟨_, pe_lenS hg hm hg2 hm2 pa hc na, fun F H σ env fp Q sat hp => ?_⟩
  refine s.go sat hp fun d v F1 H1 sat1 q _ h1 => ?_
  unfold gLenSet at h1
  cases d with
  | list ds =>
    obtain ⟨l, vs, rfl, d1, d2⟩ := q
    simp only at h1
    cases e1 : intsD ds with
    | some ns =>
      rw [e1] at h1
      simp only at h1
      split at h1
      · rename_i small
        rw [intsD_eq e1] at d2
        rw [DpAll.ints _ d2] at d1
        exact ⟨l, rfl, .inl ⟨ns, d1, small, h1 _ F1 H1 (.refl sat1.fh) (.int _)⟩⟩
      · exact h1.elim
    | none =>
      rw [e1] at h1
      simp only at h1
      cases e2 : strsD ds with
      | some ts =>
        rw [e2] at h1
        simp only at h1
        split at h1
        · rename_i small
          rw [strsD_dp d2 e2] at d1
          exact ⟨l, rfl, .inr ⟨ts, d1, small, h1 _ F1 H1 (.refl sat1.fh) (.int _)⟩⟩
        · exact h1.elim
      | none => rw [e2] at h1; exact h1.elim
  | _ => exact h1.elim
end
end Mir
end
set_option Elab.async false
set_option linter.all false
set_option maxRecDepth 100000
set_option maxHeartbeats 4000000
noncomputable section
namespace Mir
open PySem PySem.Spec PySem.Calls PyProof.Rows L2
def itmD (ps : List (D × D)) : List D := ps.map fun p => .tuple [p.1, p.2]
def keysOk (ps : List (D × D)) : Bool := ps.all fun p => isKey p.1
section
variable {X : Cx} {W : WX} {e : Expr} {te : TE} {p apos cpos pos : Pos}
def gSortIt : D → Option Ow
  | .dict ps => if (keysOk ps && sortOk (itmD ps)) = true then some (.l ((sortedD (itmD ps)).map Ow.d)) else none
  | _ => none
end
@[simp] theorem gSortIt_dict (ps : List (D × D)) : gSortIt (.dict ps) = if (keysOk ps && sortOk (itmD ps)) = true then some (.l ((sortedD (itmD ps)).map Ow.d)) else none := rfl
end Mir
end
set_option Elab.async false
set_option linter.all false
set_option maxRecDepth 100000
set_option maxHeartbeats 4000000
noncomputable section
namespace Mir
open PySem PySem.Spec PyProof.Rows L2
section
variable {X : Cx} {W : WX} {e a b : Expr} {es : List Expr} {pos p : Pos}
end
end Mir
end
set_option Elab.async false
set_option linter.all false
set_option maxRecDepth 100000
set_option maxHeartbeats 4000000
noncomputable section
namespace Mir
open PySem PySem.Spec PyProof.Rows L2
/-- v the whole, u what stands at a place of it, s as told; put: the whole with another thing there; fr: the rest of the whole -/
structure Hole (K : Kw) (F H : Hp) (v u : V) (s : Ow) (put : Ow → Ow) (fo fr : List Addr) : Prop where
  own : OwnAt K F H u s fo
  ndo : fo.Nodup
  ndr : fr.Nodup
  dis : ∀ b ∈ fo, b ∉ fr
  thr : ∀ b ∈ fr, ∃ o, H b = some o
  back : ∀ F1 H1 fx fy s' fn, StepS F H fx F1 H1 fy → (∀ b ∈ fr, b ∉ fx) → OwnAt K F1 H1 u s' fn → fn.Nodup → (∀ b ∈ fn, b ∉ fr) → ∃ fp', OwnAt K F1 H1 v (put s') fp' ∧ fp'.Nodup ∧ ∀ b ∈ fp', b ∈ fn ∨ b ∈ fr
section
variable {K : Kw} {F H F1 H1 : Hp} {v u : V} {s s1 : Ow} {put : Ow → Ow} {fo fr fp fn fx fy : List Addr} {σ : L2.St} {env : Ev}
theorem Hole.here {o : Ow} (h : OwnAt K F H v o fp) (nd : fp.Nodup) : Hole K F H v v o id fp [] :=
  ⟨h, nd, List.nodup_nil, (fun _ _ z => nomatch z), (fun _ z => nomatch z), fun F1 H1 fx fy s' fn _ _ ow n _ => ⟨fn, ow, n, fun b hb => .inl hb⟩⟩
theorem Hole.move (h : Hole K F H v u s put fo fr) (st : StepS F H fx F1 H1 fy) (dj : ∀ b ∈ fr, b ∉ fx) (ow : OwnAt K F1 H1 u s1 fn) (nd : fn.Nodup) (dn : ∀ b ∈ fn, b ∉ fr) : Hole K F1 H1 v u s1 put fn fr where
  own := ow
  ndo := nd
  ndr := h.ndr
  dis := dn
  thr := fun b hb => by
    obtain ⟨o, e⟩ := h.thr b hb
    exact ⟨o, st.fr b o e (dj b hb)⟩
  back := fun F2 H2 gx gy s' fm st2 dj2 ow2 nd2 dn2 => by
    refine h.back F2 H2 (fx ++ gx) [] s' fm ⟨st.ff.trans st2.ff, fun b o e n => st2.fr b o (st.fr b o e fun z => n (List.mem_append_left _ z)) fun z => n (List.mem_append_right _ z), fun b o e => ?_, fun b z => nomatch z⟩ (fun b hb z => ?_) ow2 nd2 dn2
    · rcases st2.fn b o e with q | q | q
      · exact (st.fn b o q).imp id (.imp (List.mem_append_left _) id)
      · exact .inr (.inl (List.mem_append_right _ q))
      · by_cases hx : b ∈ fx
        · exact .inr (.inl (List.mem_append_left _ hx))
        · cases hb : H b with
          | none => exact .inr (.inr rfl)
          | some o2 => rw [st.fr b o2 hb hx] at q; cases q
    · rcases List.mem_append.mp z with z | z
      · exact dj b hb z
      · exact dj2 b hb z
theorem Hole.ext (h : Hole K F H v u s put fo fr) (x : Ext F H F1 H1) : Hole K F1 H1 v u s put fo fr :=
  h.move (StepS.of_ext x []) (fun _ _ z => (nomatch z)) (h.own.ext x) h.ndo h.dis
/-- one place further, in a list .. -/
theorem Hole.lst {os : List Ow} (h : Hole K F H v u (.l os) put fo fr) {j : Nat} {o : Ow} (hj : os[j]? = some o) : ∃ a vs w f1 f2, u = .ref a ∧ H a = some (.lst vs) ∧ vs.length = os.length ∧ vs[j]? = some w ∧ Hole K F H v w o (fun o' => put (.l (os.set j o'))) f1 f2 ∧
    (∀ b ∈ f1, b ∈ fo) ∧ (∀ b ∈ f2, b ∈ fo ∨ b ∈ fr) ∧ a ∈ f2 := by
  obtain ⟨h1, h2, h3, h4, h5, h6⟩ := h
  cases h1 with
  | @l a vs _ f0 m1 m2 m3 =>
  obtain ⟨nd1, nd2⟩ := List.nodup_cons.mp h2
  obtain ⟨w, f1, f2, g1, g2, g3, g4, g5, g6, g7, g8⟩ := OwnAll.get m3 nd2 hj
  have hm : ∀ b ∈ f1, b ∈ a :: f0 := fun b hb => List.mem_cons_of_mem _ (g5 b hb)
  have a2 : a ∉ f2 := fun z => nd1 (g6 a z)
  have d2 : ∀ b ∈ f2, b ∉ fr := fun b hb => h4 b (List.mem_cons_of_mem _ (g6 b hb))
  refine ⟨a, vs, w, f1, a :: (f2 ++ fr), rfl, m2, m3.len, g1, ⟨g2, g3, ?_, fun b hb z => ?_, fun b hb => ?_, fun F1 H1 fx fy s' fn st dj ow nd dn => ?_⟩, hm, fun b hb => ?_, List.mem_cons_self⟩
  · refine List.nodup_cons.mpr ⟨fun z => ?_, List.nodup_append.mpr ⟨g4, h3, fun b hb c hc e => d2 b hb (e ▸ hc)⟩⟩
    rcases List.mem_append.mp z with z | z
    · exact a2 z
    · exact h4 a List.mem_cons_self z
  · rcases List.mem_cons.mp z with z | z
    · exact nd1 (z ▸ g5 b hb)
    · rcases List.mem_append.mp z with z | z
      · exact g7 b hb z
      · exact h4 b (hm b hb) z
  · rcases List.mem_cons.mp hb with z | z
    · exact ⟨_, z ▸ m2⟩
    · rcases List.mem_append.mp z with z | z
      · exact (OwnAll.there _ _ _ m3 b (g6 b z)).2
      · exact h5 b z
  · obtain ⟨f3, k1, k2, k3⟩ := g8 F1 H1 fx fy w s' fn st (fun b hb => dj b (List.mem_cons_of_mem _ (List.mem_append_left _ hb))) ow nd fun b hb z => dn b hb (List.mem_cons_of_mem _ (List.mem_append_left _ z))
    rw [set_selfV g1] at k1
    have na : a ∉ fx := dj a List.mem_cons_self
    have a3 : a ∉ f3 := fun z => by
      rcases k3 a z with q | q
      · exact dn a q List.mem_cons_self
      · exact a2 q
    obtain ⟨fp', s1, s2, s3⟩ := h6 F1 H1 fx fy (.l (os.set j s')) (a :: f3) st (fun b hb => dj b (List.mem_cons_of_mem _ (List.mem_append_right _ hb))) (.l (st.none_of m1 m2 na) (st.fr _ _ m2 na) k1) (List.nodup_cons.mpr ⟨a3, k2⟩) fun b hb z => by
      rcases List.mem_cons.mp hb with q | q
      · exact h4 a List.mem_cons_self (q ▸ z)
      · rcases k3 b q with q | q
        · exact dn b q (List.mem_cons_of_mem _ (List.mem_append_right _ z))
        · exact d2 b q z
    refine ⟨fp', s1, s2, fun b hb => ?_⟩
    rcases s3 b hb with q | q
    · rcases List.mem_cons.mp q with q | q
      · exact .inr (q ▸ List.mem_cons_self)
      · rcases k3 b q with q | q
        · exact .inl q
        · exact .inr (List.mem_cons_of_mem _ (List.mem_append_left _ q))
    · exact .inr (List.mem_cons_of_mem _ (List.mem_append_right _ q))
  · rcases List.mem_cons.mp hb with z | z
    · exact .inl (z ▸ List.mem_cons_self)
    · rcases List.mem_append.mp z with z | z
      · exact .inl (List.mem_cons_of_mem _ (g6 b z))
      · exact .inr z
/-- .. or in a tuple -/
theorem Hole.tup {os : List Ow} (h : Hole K F H v u (.t os) put fo fr) : ∃ a vs, u = .ref a ∧ SqT K.K F a vs ∧ vs.length = os.length ∧ ∀ (j : Nat) (o : Ow), os[j]? = some o → ∃ w f1 f2, vs[j]? = some w ∧ Hole K F H v w o (fun o' => put (.t (os.set j o'))) f1 f2 ∧
    (∀ b ∈ f1, b ∈ fo) ∧ ∀ b ∈ f2, b ∈ fo ∨ b ∈ fr := by
  obtain ⟨h1, h2, h3, h4, h5, h6⟩ := h
  cases h1 with
  | @t a vs _ f0 m1 m3 =>
  refine ⟨a, vs, rfl, m1, m3.len, fun j o hj => ?_⟩
  obtain ⟨w, f1, f2, g1, g2, g3, g4, g5, g6, g7, g8⟩ := OwnAll.get m3 h2 hj
  have d2 : ∀ b ∈ f2, b ∉ fr := fun b hb => h4 b (g6 b hb)
  refine ⟨w, f1, f2 ++ fr, g1, ⟨g2, g3, List.nodup_append.mpr ⟨g4, h3, fun b hb c hc e => d2 b hb (e ▸ hc)⟩, fun b hb z => ?_, fun b hb => ?_, fun F1 H1 fx fy s' fn st dj ow nd dn => ?_⟩, g5, fun b hb => ?_⟩
  · rcases List.mem_append.mp z with z | z
    · exact g7 b hb z
    · exact h4 b (g5 b hb) z
  · rcases List.mem_append.mp hb with z | z
    · exact (OwnAll.there _ _ _ m3 b (g6 b z)).2
    · exact h5 b z
  · obtain ⟨f3, k1, k2, k3⟩ := g8 F1 H1 fx fy w s' fn st (fun b hb => dj b (List.mem_append_left _ hb)) ow nd fun b hb z => dn b hb (List.mem_append_left _ z)
    rw [set_selfV g1] at k1
    obtain ⟨fp', s1, s2, s3⟩ := h6 F1 H1 fx fy (.t (os.set j s')) f3 st (fun b hb => dj b (List.mem_append_right _ hb)) (.t (SqT_mono st.ff m1) k1) k2 fun b hb z => by
      rcases k3 b hb with q | q
      · exact dn b q (List.mem_append_right _ z)
      · exact d2 b q z
    refine ⟨fp', s1, s2, fun b hb => ?_⟩
    rcases s3 b hb with q | q
    · rcases k3 b q with q | q
      · exact .inl q
      · exact .inr (List.mem_append_left _ q)
    · exact .inr (List.mem_append_right _ q)
  · rcases List.mem_append.mp hb with z | z
    · exact .inl (g6 b z)
    · exact .inr z
end
section
variable {X : Cx} {W : WX} {S : Nat → Bool} {r : Nat} {e a b : Expr} {pos cpos apos npos tpos : Pos} {x : Str}
end
end Mir
end
set_option Elab.async false
set_option linter.all false
set_option maxRecDepth 100000
set_option maxHeartbeats 4000000
noncomputable section
namespace Mir
open PySem PySem.Spec PyProof.Rows L2
section
variable {K : Kw} {F H F1 H1 F' H' : Hp} {v u : V} {s s1 : Ow} {put : Ow → Ow} {fo fr fp fp1 fp' fp'' fx fy : List Addr} {σ : L2.St} {env e : Ev}
theorem step_comp (x : Ext F H F1 H1) (h1 : ∀ b ∈ fp1, b ∈ fp) (st : StepS F1 H1 fp1 F' H' fp') (h2 : ∀ b ∈ fp'', b ∈ fp' ∨ b ∈ fp) : StepS F H fp F' H' fp'' where
  ff := x.ff.trans st.ff
  fr := fun b o q n => st.fr b o (x.hh _ _ q) fun z => n (h1 b z)
  fn := fun b o q => by
    rcases st.fn b o q with z | z | z
    · exact (x.fn b o z).imp id .inr
    · exact .inr (.inl (h1 b z))
    · exact .inr (.inr (x.hh.free z))
  sub := fun b hb => by
    rcases h2 b hb with z | z
    · exact (st.sub b z).imp (h1 b) x.hh.free
    · exact .inl z
theorem put_back {r x : Nat} {s' : Ow} (sat : Sat K F' H' σ e fp') (hx : e[x]? = some (some s')) (ux : σ[x]? = some (some u)) (vr : σ[r]? = some (some v)) (hr : r < e.length) (ho : Hole K F1 H1 v u s put fo fr) (st : StepS F1 H1 fp1 F' H' fp') (d1 : ∀ b ∈ fr, b ∉ fp1) :
    ∃ fp'', Sat K F' H' σ ((e.set x none).set r (some (put s'))) fp'' ∧ (∀ b ∈ fp'', b ∈ fp' ∨ b ∈ fr) ∧ ∀ b ∈ fr, b ∉ fp' := by
  have d2 : ∀ b ∈ fr, b ∉ fp' := fun b hb z => by
    rcases st.sub b z with q | q
    · exact d1 b hb q
    · obtain ⟨o, eo⟩ := ho.thr b hb
      rw [q] at eo; cases eo
  obtain ⟨u', fn, fre, e1, e2, e3, e4, e5, e6, e7⟩ := sat.take hx
  rw [ux] at e1
  cases e1
  obtain ⟨f2, k1, k2, k3⟩ := ho.back F' H' fp1 fp' s' fn st d1 e2 e3 fun b hb z => d2 b z (e6 b hb)
  have hr' : r < (e.set x none).length := by rw [List.length_set]; exact hr
  obtain ⟨fp4, sat4, sub4⟩ := e4.put hr' k1 k2 fun b hb z => by
    rcases k3 b hb with q | q
    · exact e7 b q z
    · exact d2 b q (e5 b z)
  rw [set_self vr] at sat4
  refine ⟨fp4, sat4, fun b hb => ?_, d2⟩
  rcases sub4 b hb with q | q
  · exact (k3 b q).imp (e6 b) id
  · exact .inl (e5 b q)
end
def offB (S : Nat → Bool) (r x : Nat) (j : Nat) : Bool := S j && (j != r && j != x)
def fixB1 (r x : Nat) (put : Ow → Ow) (e : Ev) (k : Ev → SR) : SR := match e[x]? with
  | some (some s') => if r < e.length then k ((e.set x none).set r (some (put s'))) else .no
  | _ => .no
def fixB (r x : Nat) (put : Ow → Ow) : SR → SR
  | .no => .no
  | .nx e => fixB1 r x put e .nx
  | .bk e => fixB1 r x put e .bk
  | .ct e => fixB1 r x put e .ct
  | .rt q e => fixB1 r x put e (.rt q)
  | .ex c e => fixB1 r x put e (.ex c)
section
variable {X : Cx} {W : WX} {S : Nat → Bool} {r x : Nat}
theorem fixB1_some {put : Ow → Ow} {e : Ev} {k : Ev → SR} {P : SR → Prop} (hn : ¬ P .no) (h : P (fixB1 r x put e k)) : ∃ s', e[x]? = some (some s') ∧ r < e.length ∧ P (k ((e.set x none).set r (some (put s')))) := by
  unfold fixB1 at h
  split at h
  · rename_i s' hs
    split at h
    · exact ⟨s', hs, ‹_›, h⟩
    · exact absurd h hn
  · exact absurd h hn
theorem offB_sub {σ σ' : L2.St} (h : OffS (offB S r x) σ σ') : OffS S σ σ' := fun j hj => h j (by simp [offB, hj])
theorem fixB_post {σ σ1 : L2.St} {F H F1 H1 : Hp} {fp fp1 fo fr : List Addr} {v u : V} {s : Ow} {put : Ow → Ow} {D : Ends} {R0 : SR} (h : PostS X W S σ F H fp D (fixB r x put R0)) (x1 : Ext F H F1 H1) (sub : ∀ b ∈ fp1, b ∈ fp) (off : OffS S σ σ1)
    (ho : Hole X.KK F1 H1 v u s put fo fr) (d1 : ∀ b ∈ fr, b ∉ fp1) (frp : ∀ b ∈ fr, b ∈ fp) (vr : σ1[r]? = some (some v)) (ux : σ1[x]? = some (some u)) : PostS X W (offB S r x) σ1 F1 H1 fp1 D R0 := by
  have key : ∀ {σ' : L2.St} {F' H' : Hp} {fp' : List Addr} {e : Ev} {s' : Ow}, OffS (offB S r x) σ1 σ' → StepS F1 H1 fp1 F' H' fp' → Sat X.KK F' H' σ' e fp' → e[x]? = some (some s') → r < e.length →
      ∃ fp'', Sat X.KK F' H' σ' ((e.set x none).set r (some (put s'))) fp'' ∧ OffS S σ σ' ∧ StepS F H fp F' H' fp'' ∧ (∀ b ∈ fp'', b ∈ fp' ∨ b ∈ fr) := fun o st sat hx hr => by
    have ux' : _ := (o x (by simp [offB])).trans ux
    have vr' : _ := (o r (by simp [offB])).trans vr
    obtain ⟨fp'', k1, k2, k3⟩ := put_back sat hx ux' vr' hr ho st d1
    exact ⟨fp'', k1, off.trans (offB_sub o), step_comp x1 sub st fun b hb => (k2 b hb).imp id (frp b), k2⟩
  cases R0 with
  | no => exact h
  | nx e =>
    obtain ⟨s', hx, hr, h'⟩ := fixB1_some (P := fun q => PostS X W S σ F H fp D q) (fun z => z) h
    intro σ' F' H' fp' o st sat
    obtain ⟨fp'', k1, k2, k3, _⟩ := key o st sat hx hr
    exact h' σ' F' H' fp'' k2 k3 k1
  | bk e =>
    obtain ⟨s', hx, hr, h'⟩ := fixB1_some (P := fun q => PostS X W S σ F H fp D q) (fun z => z) h
    intro σ' F' H' fp' o st sat
    obtain ⟨fp'', k1, k2, k3, _⟩ := key o st sat hx hr
    exact h' σ' F' H' fp'' k2 k3 k1
  | ct e =>
    obtain ⟨s', hx, hr, h'⟩ := fixB1_some (P := fun q => PostS X W S σ F H fp D q) (fun z => z) h
    intro σ' F' H' fp' o st sat
    obtain ⟨fp'', k1, k2, k3, _⟩ := key o st sat hx hr
    exact h' σ' F' H' fp'' k2 k3 k1
  | ex c e =>
    obtain ⟨s', hx, hr, h'⟩ := fixB1_some (P := fun q => PostS X W S σ F H fp D q) (fun z => z) h
    intro C σ' F' H' fp' m o st sat
    obtain ⟨fp'', k1, k2, k3, _⟩ := key o st sat hx hr
    exact h' C σ' F' H' fp'' m k2 k3 k1
  | rt q e =>
    obtain ⟨s', hx, hr, h'⟩ := fixB1_some (P := fun q => PostS X W S σ F H fp D q) (fun z => z) h
    intro v' σ' F' H' fx fp' o st sat ow nd
    obtain ⟨n1, n2, n3⟩ := List.nodup_append.mp nd
    have st2 : StepS F1 H1 fp1 F' H' fp' := st.subset fun b hb => List.mem_append_right _ hb
    obtain ⟨fp'', k1, k2, k3, k4⟩ := key o st2 sat hx hr
    have dx : ∀ b ∈ fx, b ∉ fr := fun b hb z => by
      rcases st.sub b (List.mem_append_left _ hb) with q | q
      · exact d1 b z q
      · obtain ⟨w, e⟩ := ho.thr b z
        rw [q] at e; cases e
    refine h' v' σ' F' H' fx fp'' k2 (step_comp x1 sub st fun b hb => ?_) k1 ow ?_
    · rcases List.mem_append.mp hb with z | z
      · exact .inl (List.mem_append_left _ z)
      · exact (k4 b z).imp (List.mem_append_right _) (frp b)
    · rw [List.nodup_append]
      refine ⟨n1, k1.nd, fun b hb c hc e => ?_⟩
      subst e
      rcases k4 b hc with z | z
      · exact n3 b hb b z rfl
      · exact dx b hb z
end
section
variable {X : Cx} {W : WX} {S : Nat → Bool} {e a b : Expr} {pos cpos apos npos tpos : Pos} {y : Str} {rest : List Stmt}
end
end Mir
end
set_option Elab.async false
set_option linter.all false
set_option maxRecDepth 100000
set_option maxHeartbeats 4000000
noncomputable section
namespace Mir
open PySem PySem.Spec PyProof.Rows L2
def finB (r : Nat) (put : Ow → Ow) (os : List Ow) (e : Ev) : Ev := e.set r (some (put (.l os)))
section
variable {X : Cx} {W : WX} {S : Nat → Bool} {r x : Nat}
/-- the loop's state ahead of turn k -/
structure LoopB (X : Cx) (W : WX) (S : Nat → Bool) (r : Nat) (v u : V) (put : Ow → Ow) (D : Ends) (go : List Ow → Ev → SR) (σ : L2.St) (F H : Hp) (env : Ev) (fp : List Addr) (os : List Ow) (fo fr : List Addr) : Prop where
  sat : Sat X.KK F H σ env fp
  len : r < env.length
  vr : σ[r]? = some (some v)
  ho : Hole X.KK F H v u (.l os) put fo fr
  dj : ∀ b ∈ fo ++ fr, b ∉ fp
  po : PostS X W S σ F H (fp ++ (fo ++ fr)) D (go os env)
theorem LoopB.fin {v u : V} {put : Ow → Ow} {σ : L2.St} {F H : Hp} {env : Ev} {fp : List Addr} {os : List Ow} {fo fr : List Addr} (sat : Sat X.KK F H σ env fp) (len : r < env.length) (vr : σ[r]? = some (some v)) (ho : Hole X.KK F H v u (.l os) put fo fr) (dj : ∀ b ∈ fo ++ fr, b ∉ fp) :
    ∃ fp4, Sat X.KK F H σ (finB r put os env) fp4 ∧ ∀ b ∈ fp4, b ∈ fp ∨ b ∈ fo ++ fr := by
  obtain ⟨f2, k1, k2, k3⟩ := ho.back F H [] [] _ fo (StepS.of_ext (.refl sat.fh) []) (fun _ _ z => nomatch z) ho.own ho.ndo ho.dis
  have in2 : ∀ b ∈ f2, b ∈ fo ++ fr := fun b hb => List.mem_append.mpr (k3 b hb)
  obtain ⟨fp4, sat4, sub4⟩ := sat.put len k1 k2 fun b hb => dj b (in2 b hb)
  rw [set_self vr] at sat4
  exact ⟨fp4, sat4, fun b hb => (sub4 b hb).elim (fun z => .inr (in2 b z)) .inl⟩
theorem LoopB.done {v u : V} {put : Ow → Ow} {D : Ends} {σ : L2.St} {F H : Hp} {env : Ev} {fp : List Addr} {os : List Ow} {fo fr : List Addr} (L : LoopB X W S r v u put D (fun os e => .nx (finB r put os e)) σ F H env fp os fo fr) : D.nx σ H := by
  obtain ⟨sat, len, vr, ho, dj, po⟩ := L
  obtain ⟨fp4, k1, k2⟩ := LoopB.fin sat len vr ho dj
  exact po σ F H fp4 (.refl _ _) ((StepS.of_ext (.refl sat.fh) _).subset fun b hb => List.mem_append.mpr (k2 b hb)) k1
variable {e a b : Expr} {pos cpos apos npos tpos : Pos} {y : Str} {fs : Ev → SR}
end
end Mir
end
set_option Elab.async false
set_option linter.all false
set_option maxRecDepth 100000
set_option maxHeartbeats 4000000
noncomputable section
namespace Mir
open PySem PySem.Spec PySem.Calls PyProof.Rows L2
section
variable {X : Cx} {W : WX} {e : Expr} {p pos : Pos}
def gSortKD : D → Option Ow
  | .dict ps => if (keysOk ps && sortOk (ps.map (·.1))) = true then some (.l ((sortedD (ps.map (·.1))).map Ow.d)) else none
  | _ => none
end
@[simp] theorem gSortKD_dict (ps : List (D × D)) : gSortKD (.dict ps) = if (keysOk ps && sortOk (ps.map (·.1))) = true then some (.l ((sortedD (ps.map (·.1))).map Ow.d)) else none := rfl
end Mir
end
set_option Elab.async false
set_option linter.all false
set_option maxRecDepth 100000
set_option maxHeartbeats 4000000
noncomputable section
namespace Mir
open PySem PySem.Spec L2
section
variable {K : Kw} {F0 : Hp} {a b c : Addr} {vs ws us : List V} {ds es fs : List D}
end
section
variable {X : Cx} {W : WX} {tg e e2 e3 : Expr} {pos p : Pos} {fa : Ev → R (List D)}
end
end Mir
end
set_option Elab.async false
set_option linter.all false
set_option maxRecDepth 100000
set_option maxHeartbeats 4000000
noncomputable section
namespace Mir
open PySem PySem.Spec L2
section
variable {X : Cx} {W : WX} {e a b : Expr} {es : List Expr} {pos p : Pos} {x : Str}
def yNilA (env : Ev) : RY (List D) := .ok [] env
def yConsA (f : Ev → RY D) (g : Ev → RY (List D)) (env : Ev) : RY (List D) := (f env).bind fun d env1 => (g env1).bind fun ds env2 => .ok (d :: ds) env2
def guardY (c : Prop) [Decidable c] {α : Type} (r : RY α) : RY α := if c then r else .no
def yTup (f : Ev → RY (List D)) (env : Ev) : RY D := (f env).bind fun ds env1 => guardY (ds.length ≤ sizeLine) (.ok (.tuple ds) env1)
@[simp] theorem yNilA_eq (env : Ev) : yNilA env = .ok [] env := rfl
@[simp] theorem yConsA_eq (f : Ev → RY D) (g : Ev → RY (List D)) (env : Ev) : yConsA f g env = (f env).bind fun d env1 => (g env1).bind fun ds env2 => .ok (d :: ds) env2 := rfl
@[simp] theorem yTup_eq (f : Ev → RY (List D)) (env : Ev) : yTup f env = (f env).bind fun ds env1 => guardY (ds.length ≤ sizeLine) (.ok (.tuple ds) env1) := rfl
end
end Mir
end
set_option Elab.async false
set_option linter.all false
set_option maxRecDepth 100000
set_option maxHeartbeats 4000000
noncomputable section
namespace Mir
open PySem PySem.Spec L2
end Mir
end
set_option Elab.async false
set_option linter.all false
set_option maxRecDepth 100000
set_option maxHeartbeats 4000000
noncomputable section
namespace Mir
open PySem PySem.Spec L2
def subS (x z : Str) : Bool := !(PySem.Builtin.Str.occurrences z x 0 z.length 1).isEmpty
def gSubB (neg : Bool) : D → D → Option D
  | .str x, .str z => some (.bool (xor neg (subS x z)))
  | _, _ => none
def gSubIn := gSubB false
def gSubNotIn := gSubB true
@[simp] theorem gSubIn_str (x z : Str) : gSubIn (.str x) (.str z) = some (.bool (subS x z)) := by
  show some (PyData.bool (xor false (subS x z))) = _
  simp
@[simp] theorem gSubNotIn_str (x z : Str) : gSubNotIn (.str x) (.str z) = some (.bool (!subS x z)) := by
  show some (PyData.bool (xor true (subS x z))) = _
  simp
section
variable {X : Cx} {W : WX} {a b : Expr} {pos : Pos} {f g : Ev → R D}
end
end Mir
end
set_option Elab.async false
set_option linter.all false
set_option maxRecDepth 100000
set_option maxHeartbeats 4000000
noncomputable section
namespace Mir
open PySem PySem.Spec PyProof.Rows L2
section
variable {K : Kw} {F H F1 H1 : Hp} {v u : V} {s s1 : Ow} {put : Ow → Ow} {fo fr fp fn fx fy : List Addr} {σ : L2.St} {env : Ev}
theorem Hole.dct {ks : List D} {os : List Ow} (h : Hole K F H v u (.k ks os) put fo fr) : ∃ (a : Addr) (kvs : List (Key × V)), u = .ref a ∧ H a = some (.dK kvs) ∧ (kvs.map fun p => keyD p.1) = ks ∧ kvs.length = os.length ∧ ∀ (j : Nat) (o : Ow), os[j]? = some o → ∃ w f1 f2, (kvs[j]?).map (·.2) = some w ∧ Hole K F H v w o (fun o' => put (.k ks (os.set j o'))) f1 f2 ∧
    (∀ b ∈ f1, b ∈ fo) ∧ (∀ b ∈ f2, b ∈ fo ∨ b ∈ fr) ∧ a ∈ f2 := by
  obtain ⟨h1, h2, h3, h4, h5, h6⟩ := h
  cases h1 with
  | @k a kvs _ f0 m1 m2 m3 =>
  refine ⟨a, kvs, rfl, m2, rfl, by have := m3.len; simpa using this, fun j o hj => ?_⟩
  obtain ⟨nd1, nd2⟩ := List.nodup_cons.mp h2
  obtain ⟨w, f1, f2, g1, g2, g3, g4, g5, g6, g7, g8⟩ := OwnAll.get m3 nd2 hj
  have hm : ∀ b ∈ f1, b ∈ a :: f0 := fun b hb => List.mem_cons_of_mem _ (g5 b hb)
  have a2 : a ∉ f2 := fun z => nd1 (g6 a z)
  have d2 : ∀ b ∈ f2, b ∉ fr := fun b hb => h4 b (List.mem_cons_of_mem _ (g6 b hb))
  refine ⟨w, f1, a :: (f2 ++ fr), by rw [← g1, List.getElem?_map], ⟨g2, g3, ?_, fun b hb z => ?_, fun b hb => ?_, fun F1 H1 fx fy s' fn st dj ow nd dn => ?_⟩, hm, fun b hb => ?_, List.mem_cons_self⟩
  · refine List.nodup_cons.mpr ⟨fun z => ?_, List.nodup_append.mpr ⟨g4, h3, fun b hb c hc e => d2 b hb (e ▸ hc)⟩⟩
    rcases List.mem_append.mp z with z | z
    · exact a2 z
    · exact h4 a List.mem_cons_self z
  · rcases List.mem_cons.mp z with z | z
    · exact nd1 (z ▸ g5 b hb)
    · rcases List.mem_append.mp z with z | z
      · exact g7 b hb z
      · exact h4 b (hm b hb) z
  · rcases List.mem_cons.mp hb with z | z
    · exact ⟨_, z ▸ m2⟩
    · rcases List.mem_append.mp z with z | z
      · exact (OwnAll.there _ _ _ m3 b (g6 b z)).2
      · exact h5 b z
  · obtain ⟨f3, k1, k2, k3⟩ := g8 F1 H1 fx fy w s' fn st (fun b hb => dj b (List.mem_cons_of_mem _ (List.mem_append_left _ hb))) ow nd fun b hb z => dn b hb (List.mem_cons_of_mem _ (List.mem_append_left _ z))
    rw [set_selfV g1] at k1
    have na : a ∉ fx := dj a List.mem_cons_self
    have a3 : a ∉ f3 := fun z => by
      rcases k3 a z with q | q
      · exact dn a q List.mem_cons_self
      · exact a2 q
    obtain ⟨fp', s1, s2, s3⟩ := h6 F1 H1 fx fy (.k (kvs.map fun p => keyD p.1) (os.set j s')) (a :: f3) st (fun b hb => dj b (List.mem_cons_of_mem _ (List.mem_append_right _ hb))) (.k (st.none_of m1 m2 na) (st.fr _ _ m2 na) k1) (List.nodup_cons.mpr ⟨a3, k2⟩) fun b hb z => by
      rcases List.mem_cons.mp hb with q | q
      · exact h4 a List.mem_cons_self (q ▸ z)
      · rcases k3 b q with q | q
        · exact dn b q (List.mem_cons_of_mem _ (List.mem_append_right _ z))
        · exact d2 b q z
    refine ⟨fp', s1, s2, fun b hb => ?_⟩
    rcases s3 b hb with q | q
    · rcases List.mem_cons.mp q with q | q
      · exact .inr (q ▸ List.mem_cons_self)
      · rcases k3 b q with q | q
        · exact .inl q
        · exact .inr (List.mem_cons_of_mem _ (List.mem_append_left _ q))
    · exact .inr (List.mem_cons_of_mem _ (List.mem_append_right _ q))
  · rcases List.mem_cons.mp hb with z | z
    · exact .inl (z ▸ List.mem_cons_self)
    · rcases List.mem_append.mp z with z | z
      · exact .inl (List.mem_cons_of_mem _ (g6 b z))
      · exact .inr z
end
/-- the first place of a key -/
def findK (k : D) : List D → Option Nat
  | [] => none
  | x :: xs => if keyEq x k = true then some 0 else (findK k xs).map (· + 1)
theorem findK_val (q : Key) : ∀ kvs : List (Key × V), (findK (keyD q) (kvs.map fun p => keyD p.1) = none ∧ valV kvs q = none) ∨ ∃ j w, findK (keyD q) (kvs.map fun p => keyD p.1) = some j ∧ (kvs[j]?).map (·.2) = some w ∧ valV kvs q = some w
  | [] => .inl ⟨rfl, rfl⟩
  | (p, w) :: kvs => by
    have ke := keyEq_iff p q
    rw [List.map_cons, findK]
    by_cases c : p = q
    · subst c
      rw [decide_eq_true rfl] at ke
      refine .inr ⟨0, w, by rw [if_pos ke], rfl, ?_⟩
      unfold valV
      rw [List.find?_cons_of_pos (by simp)]
      rfl
    · rw [decide_eq_false c] at ke
      have vv : valV ((p, w) :: kvs) q = valV kvs q := by
        unfold valV
        rw [List.find?_cons_of_neg (by simpa using c)]
      rw [if_neg (by rw [ke]; simp), vv]
      rcases findK_val q kvs with ⟨a, b⟩ | ⟨j, w', a, b, d⟩
      · exact .inl ⟨by rw [a]; rfl, b⟩
      · exact .inr ⟨j + 1, w', by rw [a]; rfl, by simpa using b, d⟩
def sBorD (r x : Nat) (g : Ev → R D) (d : Ev → R Ow) (gs : Ev → SR) (env : Ev) : SR := match env[r]? with
  | some (some (.k ks os)) => (g env).st env fun k => (d env).st env fun o => if x < env.length ∧ r ≠ x ∧ isKey k = true ∧ ks.length < sizeLine then (match findK k ks with
    | some j => match os[j]? with
      | some s => fixB r x (fun o' => .k ks (os.set j o')) (gs ((env.set r none).set x (some s)))
      | none => .no
    | none => fixB r x (fun o' => .k (ks ++ [k]) (os ++ [o'])) (gs ((env.set r none).set x (some o)))) else .no
  | _ => .no
def eDictNewK (_ : Ev) : R Ow := .ok (.k [] [])
@[simp] theorem eDictNewK_eq (env : Ev) : eDictNewK env = .ok (.k [] []) := rfl
section
variable {X : Cx} {W : WX} {S : Nat → Bool} {e f : Expr} {pos cpos apos npos : Pos} {y z : Str} {rest : List Stmt}
theorem de_dictNewK : DE X W (.Dict [] [] pos) eDictNewK := by
  refine ⟨_, pe_dnewK, fun F H σ env fp Q sat hp => ?_⟩
  intro p hn
  refine hp _ F _ (Ext.own sat.fh hn _) ⟨[p], .k (kvs := []) (free_of sat.fh hn) upd_same .nil, by simp, fun b hb => by rw [List.mem_singleton.mp hb]; exact hn⟩
theorem dss_borD {g : Ev → R D} {d : Ev → R Ow} {gs : Ev → SR} {pos' : Pos} (r x : Nat) (hN : X.N.Nodup) (hk : DF X W e g) (hd : DE X W f d) (hb : DSs X W (offB S r x) rest gs) (hr : X.N[r]? = some z := by rfl) (hv : Vis X.env.scope z := by first | exact Or.inl rfl | exact Or.inr (Or.inl rfl) | exact Or.inr (Or.inr rfl)) (hdb : (z == ("__debug__" : Str)) = false := by decide) (hcd : (z == ("__classdict__" : Str)) = false := by decide)
    (m : M2 X (.Name z npos) "setdefault" apos e f cpos := by exact ⟨rfl, rfl, rfl, rfl⟩) (hi : X.N[x]? = some y := by rfl) (hx : Loc X.env.scope y := by first | exact Or.inl rfl | exact Or.inr rfl)
    (hs : swapsWith (.Call (.Attribute (.Name z npos) "setdefault" apos) [e, f] [] cpos) (some (.Name y pos')) pos.line X.env = pure false := by rfl) (hf : X.fn y = true ∨ X.env.scope.names.lookup y = some .local := by first | exact .inl rfl | exact .inr rfl | assumption) (hS : S x = true := by rfl) : DSs X W S (.Assign [.Name y pos'] (.Call (.Attribute (.Name z npos) "setdefault" apos) [e, f] [] cpos) pos :: rest) (sBorD r x g d gs) := by
  obtain ⟨t, pk, sk⟩ := hk
  obtain ⟨t', pd, sd⟩ := hd
  obtain ⟨t2, p2, s2⟩ := hb
  refine ⟨_, pss_cons (ps_set hN hi hx (pe_dsetd (pe_var hr hv hdb hcd) pk pd m) hs hf) p2, fun F H σ env fp D sat h => ?_⟩
  unfold sBorD at h
  split at h
  case h_2 => exact h.elim
  rename_i ks os he
  obtain ⟨v, fo, fr, e1, ow, ndo, sat0, i1, i2, i3⟩ := sat.take he
  have lσ : σ.length = env.length := sat.en.len
  have hl : r < env.length := (List.getElem?_eq_some_iff.mp he).1
  have ho0 := Hole.here ow ndo
  obtain ⟨a, kvs, rfl, m2, ek, el, _⟩ := Hole.dct ho0
  refine ⟨_, e1, a, rfl, .inl ⟨kvs, .inl m2⟩, ?_⟩
  cases eg : g env with
  | no => rw [eg] at h; exact h.elim
  | ex c =>
    rw [eg] at h
    refine sk F H σ env fp _ sat ?_
    rw [eg]
    exact fun C F' H' m x => h C σ F' H' fp m (.refl _ _) (StepS.of_ext x fp) (sat.ext x)
  | ok kd =>
  rw [eg] at h
  refine sk F H σ env fp _ sat ?_
  rw [eg]
  intro v1 F1 H1 x1 dk
  have sat1 := sat.ext x1
  cases ed : d env with
  | no =>
    have h : PostS X W S σ F H fp D ((d env).st env _) := h
    rw [ed] at h
    exact h.elim
  | ex c =>
    have h : PostS X W S σ F H fp D ((d env).st env _) := h
    rw [ed] at h
    refine sd F1 H1 σ env fp _ sat1 ?_
    rw [ed]
    exact fun C F' H' m x => h C σ F' H' fp m (.refl _ _) (StepS.of_ext (x1.trans x) fp) (sat1.ext x)
  | ok o =>
  have h2 : PostS X W S σ F H fp D ((d env).st env _) := h
  rw [ed] at h2
  refine sd F1 H1 σ env fp _ sat1 ?_
  rw [ed]
  intro v2 F2 H2 x2 dd
  have sat2 := sat1.ext x2
  obtain ⟨fx, ow2, nd2, fr2⟩ := dd
  simp only [R.st] at h2
  have x12 := x1.trans x2
  split at h2
  case isFalse => exact h2.elim
  rename_i c
  obtain ⟨c1, c2, c3, c4⟩ := c
  obtain ⟨q, rfl⟩ := key_of_data c3
  have ev1 : v1 = kV q := key_dp dk
  have kl : kvs.length < sizeLine := by rw [← ek, List.length_map] at c4; exact c4
  have H2a : H2 a = some (.dK kvs) := x12.hh _ _ m2
  have hl2 : x < (env.set r none).length := by rw [List.length_set]; exact c1
  refine ⟨kvs, q, H2a, ev1, kl, fun w hw => ?_, fun hn => ?_⟩
  · rcases findK_val q kvs with ⟨_, b⟩ | ⟨j, w', f1, f2, f3⟩
    · rw [b] at hw; cases hw
    · rw [hw] at f3
      cases f3
      rw [ek] at f1
      rw [f1] at h2
      simp only at h2
      cases es : os[j]? with
      | none => rw [es] at h2; exact h2.elim
      | some s =>
        rw [es] at h2
        simp only at h2
        obtain ⟨a', kvs', ea, m2', ek', el', get⟩ := Hole.dct (ho0.ext x12)
        cases ea
        have : kvs' = kvs := by
          rw [H2a] at m2'
          cases m2'
          rfl
        subst this
        obtain ⟨w2, g1, g2, gw, ho, s1, s3, s4⟩ := get j s es
        rw [f2] at gw
        cases gw
        have frz : ∀ b ∈ g2, b ∈ fo := fun b hb => by
          rcases s3 b hb with z | z
          · exact z
          · cases z
        obtain ⟨fp1, sat3, sub3⟩ := (sat0.ext x12).put hl2 ho.own ho.ndo fun b hb z => i3 b (s1 b hb) z
        refine s2 F2 H2 _ _ fp1 D sat3 (fixB_post h2 x12 (fun b hb => ?_) (.set hS _) ho (fun b hb z => ?_) (fun b hb => i2 b (frz b hb)) ?_ ?_)
        · rcases sub3 b hb with z | z
          · exact i2 b (s1 b z)
          · exact i1 b z
        · rcases sub3 b z with z | z
          · exact ho.dis b z hb
          · exact i3 b (frz b hb) z
        · rw [List.getElem?_set_ne (Ne.symm c2)]; exact e1
        · rw [List.getElem?_set_self (by omega)]
  · rcases findK_val q kvs with ⟨f1, _⟩ | ⟨j, w', _, _, f3⟩
    case inr => rw [hn] at f3; cases f3
    rw [ek] at f1
    rw [f1] at h2
    simp only at h2
    cases ow with
    | @k _ kvs0 _ f0 m1 m2b m3 =>
    have : kvs0 = kvs := by
      rw [m2b] at m2
      cases m2
      rfl
    subst this
    obtain ⟨n1, n2⟩ := List.nodup_cons.mp ndo
    have pk : putK kvs0 q v2 = kvs0 ++ [(q, v2)] := by
      unfold putK
      rw [if_neg]
      intro an
      rw [List.any_eq_true] at an
      obtain ⟨p, hp, e⟩ := an
      unfold valV at hn
      cases ef : kvs0.find? (fun kv => decide (kv.1 = q)) with
      | none =>
        rw [List.find?_eq_none] at ef
        exact ef p hp e
      | some z => rw [ef] at hn; cases hn
    rw [pk]
    have F2a := mut_freeO x12 m1 m2b
    obtain ⟨H3, hH3⟩ : ∃ H3, H3 = upd H2 a (.dK (kvs0 ++ [(q, v2)])) := ⟨_, rfl⟩
    have st : StepS F2 H2 [a] F2 H3 [a] := by rw [hH3]; exact mut_stepO (Ext.refl sat2.fh) F2a H2a
    have sf : Same F2 H3 := by rw [hH3]; exact mut_same sat2.fh F2a
    have fxa : ∀ b ∈ fx, b ∉ a :: f0 := fun b hb z => by
      have e0 := fr2 b hb
      have th := OwnAt.there _ _ _ (.k m1 m2b m3 : OwnAt X.KK F H (.ref a) (.k (kvs0.map fun p => keyD p.1) os) (a :: f0)) b z
      obtain ⟨o', ho'⟩ := th.2
      rw [x1.hh _ _ ho'] at e0
      cases e0
    have ow3 : OwnAt X.KK F2 H3 v2 o fx := OwnAt.keep st _ _ _ ow2 fun b hb z => fxa b hb (by rw [List.mem_singleton.mp z]; exact List.mem_cons_self)
    have m3' : OwnAll X.KK F2 H3 (kvs0.map (·.2)) os f0 := OwnAll.keep st _ _ _ (m3.ext x12) fun b hb z => n1 (by rw [← List.mem_singleton.mp z]; exact hb)
    have m2' : H3 a = some (.dK (kvs0 ++ [(q, v2)])) := by rw [hH3]; exact upd_same
    have ho : Hole X.KK F2 H3 (.ref a) v2 o (fun o' => .k ((kvs0.map fun p => keyD p.1) ++ [keyD q]) (os ++ [o'])) fx (a :: f0) := {
      own := ow3
      ndo := nd2
      ndr := ndo
      dis := fxa
      thr := fun b hb => by
        rcases List.mem_cons.mp hb with rfl | hb
        · exact ⟨_, m2'⟩
        · exact (OwnAll.there _ _ _ m3' b hb).2
      back := fun F4 H4 gx gy s' fn st4 dj ow4 nd4 dn => by
        have k1 := OwnAll.keep st4 _ _ _ m3' fun b hb => dj b (List.mem_cons_of_mem _ hb)
        obtain ⟨fp', k2, k3, k4⟩ := OwnAll.snoc k1 ow4 n2 nd4 fun b hb z => dn b hb (List.mem_cons_of_mem _ z)
        have na : a ∉ fp' := fun z => by
          rcases k4 a z with z | z
          · exact n1 z
          · exact dn a z List.mem_cons_self
        have nx : a ∉ gx := dj a List.mem_cons_self
        have ow5 : OwnAt X.KK F4 H4 (.ref a) (.k ((kvs0 ++ [(q, v2)]).map fun p => keyD p.1) (os ++ [s'])) (a :: fp') := .k (st4.none_of F2a m2' nx) (st4.fr _ _ m2' nx) (by rw [List.map_append]; exact k2)
        have ekk : ((kvs0 ++ [(q, v2)]).map fun p => keyD p.1) = (kvs0.map fun p => keyD p.1) ++ [keyD q] := by rw [List.map_append]; rfl
        rw [ekk] at ow5
        refine ⟨a :: fp', ow5, List.nodup_cons.mpr ⟨na, k3⟩, fun b hb => ?_⟩
        rcases List.mem_cons.mp hb with rfl | hb
        · exact .inr List.mem_cons_self
        · rcases k4 b hb with z | z
          · exact .inr (List.mem_cons_of_mem _ z)
          · exact .inl z }
    have afo : a ∈ fp := i2 a List.mem_cons_self
    have stB : StepS F H fp F2 H3 (fp ++ fx) := ⟨x12.ff, fun b o' e n => st.fr b o' (x12.hh _ _ e) fun z => n (by rw [List.mem_singleton.mp z]; exact afo), fun b o' e => (x12.fn b o' e).imp id .inr, fun b hb => by
      rcases List.mem_append.mp hb with z | z
      · exact .inl z
      · exact .inr (x1.hh.free (fr2 b z))⟩
    have h3 := PostS.step h2 (.refl _ _) stB
    have sat0' : Sat X.KK F2 H3 σ (env.set r none) fr := Sat.beside (sat0.ext x12) st (fun b hb z => i3 a List.mem_cons_self (by rw [← List.mem_singleton.mp z]; exact hb)) sf
    have fxr : ∀ b ∈ fx, b ∉ fr := fun b hb z => by
      have e0 := x1.hh.free (fr2 b hb)
      obtain ⟨o', ho'⟩ := (sat0.en.there b z).2
      rw [ho'] at e0
      cases e0
    obtain ⟨fp1, sat3, sub3⟩ := sat0'.put hl2 ow3 nd2 fxr
    rw [← hH3]
    refine s2 F2 H3 _ _ fp1 D sat3 (fixB_post h3 (Ext.refl sf) (fun b hb => ?_) (.set hS _) ho (fun b hb z => ?_) (fun b hb => List.mem_append_left _ (i2 b hb)) ?_ ?_)
    · rcases sub3 b hb with z | z
      · exact List.mem_append_right _ z
      · exact List.mem_append_left _ (i1 b z)
    · rcases sub3 b z with z | z
      · exact fxa b z hb
      · exact i3 b hb z
    · rw [List.getElem?_set_ne (Ne.symm c2)]; exact e1
    · rw [List.getElem?_set_self (by omega)]
end
end Mir
end
set_option Elab.async false
set_option linter.all false
set_option maxRecDepth 100000
set_option maxHeartbeats 4000000
noncomputable section
namespace Mir
open PySem PySem.Spec PyProof.Rows L2
section
variable {K : Kw} {F H : Hp} {σ : L2.St} {env : Ev} {fp : List Addr} {w : V}
theorem At.mutM {ps : List (D × D)} {bk : Ow → Ev} (h : At K F H σ fp w (.m ps, bk)) (sat : Sat K F H σ env fp) : ∃ a kvs, w = .ref a ∧ F a = none ∧ H a = some (.dK kvs) ∧ a ∈ fp ∧ DpKv K F kvs ps ∧
    ∀ F1 H1 kvs' ps', Ext F H F1 H1 → DpKv K F1 kvs' ps' → ∃ fp', Sat K F1 (upd H1 a (.dK kvs')) σ (bk (.m ps')) fp' ∧ ∀ b ∈ fp', b ∈ fp := by
  obtain ⟨fo, a1, a2, a3, a4⟩ := h
  cases a1 with
  | @m a kvs _ m1 m2 m3 =>
  refine ⟨a, kvs, rfl, m1, m2, a3 a List.mem_cons_self, m3, fun F1 H1 kvs' ps' x dp => ?_⟩
  have fa := mut_freeO x m1 m2
  have st : StepS F H [a] F1 (upd H1 a (.dK kvs')) [a] := mut_stepO x m1 m2
  obtain ⟨fp', s1, s2⟩ := a4 F1 (upd H1 a (.dK kvs')) (.m ps') [a] [a] ⟨st.ff, st.fr, st.fn, fun b z => nomatch z⟩ (fun b hb => hb) (mut_same x.fh fa) (.m fa upd_same dp) (by simp) fun b hb => .inl hb
  refine ⟨fp', s1, fun b hb => ?_⟩
  rcases s2 b hb with q | q
  · exact q
  · rw [List.mem_singleton.mp q]; exact a3 a List.mem_cons_self
end
def sPPutM (p : Ev → R Pl) (g : Ev → R D) (f : Ev → R D) (env : Ev) : SR := (f env).st env fun d => (p env).st env fun q => match q.1 with
  | .m ps => (g env).st env fun k => if isKey k = true ∧ ps.length < sizeLine then .nx (q.2 (.m (putP ps k d))) else .no
  | _ => .no
def eInPM (no : Bool) (g : Ev → R D) (p : Ev → R Pl) (env : Ev) : R D := (g env).bind fun k => (p env).bind fun q => match q.1 with
  | .m ps => if isKey k = true then .ok (.bool ((ps.any fun x => keyEq x.1 k) != no)) else .no
  | _ => .no
section
variable {X : Cx} {W : WX} {S : Nat → Bool} {e a b : Expr} {pos tpos : Pos}
theorem ds_pputM {p : Ev → R Pl} {f : Ev → R D} {g : Ev → R D} (hu : X.A.units + 140 < cLine) (hp : DPt X W a p) (hk : DV X W b g) (he : DF X W e f)
    (hs : swapsWith e (some (.Subscript a b tpos)) pos.line X.env = pure false := by rfl) : DS X W S (.Assign [.Subscript a b tpos] e pos) (sPPutM p g f) := by
  obtain ⟨te, pe, se⟩ := he
  obtain ⟨t, pk, sk⟩ := hk
  obtain ⟨t2, pp, s2⟩ := hp
  refine ⟨_, ps_dput (by omega) pp pk pe hs, fun F H σ env fp D sat h => ?_⟩
  unfold sPPutM at h
  refine se.st sat h fun d v F1 H1 sat1 q1 x1 h1 => ?_
  refine s2 F1 H1 σ env fp _ sat1 ?_
  cases ep : p env with
  | no => rw [ep] at h1; exact h1.elim
  | ex c => rw [ep] at h1; exact fun C F' H' m x => h1 C σ F' H' fp m (.refl _ _) (StepS.of_ext x fp) (sat1.ext x)
  | ok q =>
  rw [ep, R.st_ok] at h1
  obtain ⟨o, bk⟩ := q
  simp only at h1
  cases o with
  | m ps =>
    simp only at h1
    intro w F2 H2 x2 at2
    have sat2 := sat1.ext x2
    have h2 := h1.ext x2
    refine sk.st sat2 h2 fun dk u F3 H3 sat3 q3 x3 h3 => ?_
    split at h3
    · rename_i c
      obtain ⟨q, rfl⟩ := key_of_data c.1
      obtain ⟨a2, kvs2, rfl, m1, m2, m3, m4, fin⟩ := At.mutM (at2.ext x3) sat3
      have ll := dpKv_len m4
      have q1' := dpUp q1 (x2.trans x3).ff
      obtain ⟨fp', s1, s2'⟩ := fin F3 H3 (putK kvs2 q v) (putP ps (keyD q) d) (Ext.refl sat3.fh) (dpKv_put q1' m4)
      have st : StepS F3 H3 [a2] F3 (upd H3 a2 (.dK (putK kvs2 q v))) [a2] := mut_stepO (Ext.refl sat3.fh) m1 m2
      refine ⟨a2, upd H3 a2 (.dK (putK kvs2 q v)), rfl, ?_, h3 σ F3 _ fp' (.refl _ _) ⟨st.ff, fun b o e n => st.fr b o e fun z => n (by rw [List.mem_singleton.mp z]; exact m3), fun b o e => .inl e, fun b hb => .inl (s2' b hb)⟩ s1⟩
      rw [key_dp q3]
      exact DPut.k m2 (by rw [ll]; exact c.2)
    · exact h3.elim
  | _ => exact h1.elim
theorem inPM_core (no : Bool) {p : Ev → R Pl} {g : Ev → R D} {t t2 : TE} {σ : L2.St} {F H : Hp} {env : Ev} {fp : List Addr} {Q : VK} (sk : Sm X W (PVw X.KK) t g) (s2 : ∀ F H σ env fp Q, Sat X.KK F H σ env fp → PostPl X W F H σ fp (p env) Q → t2 σ H Q) (sat : Sat X.KK F H σ env fp) (hp : Post X W (PFz X.KK) F H σ (eInPM no g p env) Q) :
    t σ H fun y H1 => t2 σ H1 fun v H2 => ∃ a o, v = .ref a ∧ DGet H2 a y o ∧ Q (.bl (o.isSome != no)) H2 := by
  unfold eInPM at hp
  refine sk.go sat hp fun d u F1 H1 sat1 q1 x1 h1 => ?_
  refine s2 F1 H1 σ env fp _ sat1 ?_
  cases ep : p env with
  | no => rw [ep] at h1; exact h1.elim
  | ex c => rw [ep] at h1; exact h1
  | ok q =>
  rw [ep, R.bind_ok] at h1
  obtain ⟨o, bk⟩ := q
  simp only at h1
  cases o with
  | m ps =>
    simp only at h1
    intro w F2 H2 x2 at2
    have sat2 := sat1.ext x2
    have h2 := h1.ext x2
    split at h2
    · rename_i c
      obtain ⟨q, rfl⟩ := key_of_data c
      obtain ⟨a2, kvs2, rfl, m1, m2, m3, m4, _⟩ := At.mutM at2 sat2
      refine ⟨a2, valV kvs2 q, rfl, ?_, ?_⟩
      · rw [key_dp q1]
        exact DGet.k (k := q) m2
      · have e3 : (ps.any fun p => keyEq p.1 (keyD q)) = (valV kvs2 q).isSome := by rw [dpKv_any q m4, valV_any]
        rw [e3] at h2
        exact h2 _ F2 H2 (.refl sat2.fh) (.bl _)
    · exact h2.elim
  | _ => exact h1.elim
theorem asB_post {F H : Hp} {σ : L2.St} {r : R D} {Q : Bool → Hp → Prop} (hp : Post X W PTb F H σ (r.bind asB) Q) : Post X W (PFz X.KK) F H σ r (fun v H' => ∃ b, v = .bl b ∧ Q b H') := by
  cases r with
  | no => exact hp.elim
  | ex c => exact hp
  | ok d =>
    intro v F' H' x q
    have q' : Dp X.KK F' v d := q
    cases d with
    | bool b =>
      cases dp_bool q'
      exact ⟨b, rfl, hp b F' H' x rfl⟩
    | _ => exact hp.elim
theorem dt_inPM {p : Ev → R Pl} {g : Ev → R D} (hu : X.A.units + 140 < cLine) (hk : DV X W b g) (hp : DPt X W a p) (hbm : behindInMarks .In a = false := by rfl) : DT X W (.Compare b [.In] [a] pos) (eB (eInPM false g p) asB) := by
  obtain ⟨t, pk, sk⟩ := hk
  obtain ⟨t2, pp, s2⟩ := hp
  refine ⟨_, pt_cmp (pc_din (by omega) pk pp) hbm, fun F H σ env fp Q sat hp => ?_⟩
  have := inPM_core false sk s2 sat (asB_post hp)
  simp only [Bool.bne_false] at this
  exact this
end
end Mir
end
set_option Elab.async false
set_option linter.all false
set_option maxRecDepth 100000
set_option maxHeartbeats 4000000
noncomputable section
namespace Mir
open PySem PySem.Spec PyProof.Rows L2
/-- k in d, k not in d, d any data that is a dict with at least one key -/
def gInDD (no : Bool) : D → D → Option D
  | k, .dict (q :: ps) => if isKey k = true ∧ (q :: ps).all (fun p => isKey p.1) = true then some (.bool (((q :: ps).any fun x => keyEq x.1 k) != no)) else none
  | _, _ => none
def gListKD : D → Option Ow
  | .dict [] => some (.l [])
  | .dict (q :: ps) => if (q :: ps).all (fun p => isKey p.1) = true then some (.l (((q :: ps).map (·.1)).map Ow.d)) else none
  | _ => none
def eListKD (f : Ev → R D) (env : Ev) : R Ow := (f env).bind fun d => R.of (gListKD d)
@[simp] theorem gListKD_nil : gListKD (.dict []) = some (.l []) := rfl
@[simp] theorem gListKD_dict (q : D × D) (ps : List (D × D)) : gListKD (.dict (q :: ps)) = if (q :: ps).all (fun p => isKey p.1) = true then some (.l (((q :: ps).map (·.1)).map Ow.d)) else none := rfl
@[simp] theorem gInDD_dict (no : Bool) (k : D) (q : D × D) (ps : List (D × D)) : gInDD no k (.dict (q :: ps)) = if isKey k = true ∧ (q :: ps).all (fun p => isKey p.1) = true then some (.bool (((q :: ps).any fun x => keyEq x.1 k) != no)) else none := rfl
theorem isKey_nested {K : Kw} {H : Hp} {k : NestedKey} {b : Addr} (h : Dp K H (.ref b) k.data) : isKey k.data = false := by
  cases e : k.data with
  | int i => rw [e] at h; cases h
  | str z => rw [e] at h; cases h
  | none => rfl
  | bool b => rfl
  | list l => rfl
  | tuple l => rfl
  | dict l => rfl
section
variable {X : Cx} {W : WX} {S : Nat → Bool} {e k : Expr} {f g : Ev → R D} {pos p : Pos}
/-- a dict all of whose keys are whole numbers or texts -/
theorem dct_of {K : Kw} {F : Hp} {v : V} {ps : List (D × D)} (h : Dp K F v (.dict ps)) (hk : ps.all (fun p => isKey p.1) = true) : ∃ a, v = .ref a ∧ ((∃ kvs, Rd F a (.dK kvs) ∧ DpKv K F kvs ps) ∨ ps = []) := by
  cases h with
  | @dct a kvs _ m2 m3 => exact ⟨a, rfl, .inl ⟨kvs, m2, m3⟩⟩
  | @dcn a kvs _ m2 m3 =>
    cases m3 with
    | nil => exact ⟨a, rfl, .inr rfl⟩
    | cons h0 h1 h2 h3 =>
      rw [List.all_cons] at hk
      rw [isKey_nested h0] at hk
      cases hk
  | exc _ => cases hk
  | ins _ => cases hk
  | fnv _ => cases hk
theorem inDD_core (no : Bool) {t t2 : TE} (sk : Sm X W (PVw X.KK) t g) (se : Sm X W (PVw X.KK) t2 f) {σ : L2.St} {F H : Hp} {env : Ev} {fp : List Addr} {Q : VK} (sat : Sat X.KK F H σ env fp) (hp : Post X W (PFz X.KK) F H σ (eBin (gInDD no) g f env) Q) :
    t σ H fun y H1 => t2 σ H1 fun v H2 => ∃ a o, v = .ref a ∧ DGet H2 a y o ∧ Q (.bl (o.isSome != no)) H2 := by
  refine sk.go sat hp fun d u F1 H1 sat1 q1 x1 h1 => ?_
  refine se.go sat1 h1 fun d2 u2 F2 H2 sat2 q2 x2 h2 => ?_
  obtain ⟨z, hz, h3⟩ := post_of h2
  cases d2 with
  | dict ps0 =>
    cases ps0 with
    | nil => cases hz
    | cons pq ps =>
      rw [gInDD_dict] at hz
      split at hz
      · rename_i c
        obtain ⟨c1, c2⟩ := c
        cases hz
        obtain ⟨q, rfl⟩ := key_of_data c1
        have q2' : Dp X.KK H2 u2 (.dict (pq :: ps)) := q2
        obtain ⟨a, rfl, z | z⟩ := dct_of q2' c2
        · obtain ⟨kvs, m2, m3⟩ := z
          have hg : DGet H2 a (kV q) (valV kvs q) := .inl ⟨kvs, q, m2, rfl, rfl⟩
          refine ⟨a, valV kvs q, rfl, ?_, ?_⟩
          · rw [key_dp q1]; exact hg
          · have e3 : ((pq :: ps).any fun p => keyEq p.1 (keyD q)) = (valV kvs q).isSome := by rw [dpKv_any q m3, valV_any]
            rw [e3] at h3
            exact h3 _ F2 H2 (.refl sat2.fh) (.bl _)
        · cases z
      · cases hz
  | _ => cases hz
theorem dt_notInDD (hu : X.A.units + 140 < cLine) (hk : DV X W k g) (he : DV X W e f) (hbm : behindInMarks .NotIn e = false := by rfl) : DT X W (.Compare k [.NotIn] [e] pos) (eB (eBin (gInDD true) g f) asB) := by
  obtain ⟨t, pk, sk⟩ := hk
  obtain ⟨t2, pp, s2⟩ := he
  refine ⟨_, pt_cmp (pc_dnotin (by omega) pk pp) hbm, fun F H σ env fp Q sat hp => ?_⟩
  have := inDD_core true sk s2 sat (asB_post hp)
  simp only [Bool.bne_true] at this
  exact this
end
section
variable {X : Cx} {W : WX} {e : Expr} {f : Ev → R D} {pos p : Pos}
theorem dpKv_ks {K : Kw} {H : Hp} (F : Hp) : ∀ {ps : List (D × D)} {kvs : List (Key × V)}, DpKv K H kvs ps → PySem.W.EachIs (Dp K F) (kvs.map fun kv => kV kv.1) (ps.map (·.1))
  | [], _, h => by cases h; exact .nil
  | p :: ps, _, h => by
    cases h with
    | @cons k v kvs d ps h1 h2 => exact .cons (dp_kV k) (dpKv_ks F h2)
theorem dict_empty {K : Kw} {F H : Hp} {v : V} (h : Dp K F v (.dict [])) (fh : Same F H) : ∃ a, v = .ref a ∧ IsN K.w H a [] := by
  cases h with
  | @dct a kvs _ m2 m3 => cases m3; exact ⟨a, rfl, .inr ⟨rfl, Same.rd fh m2⟩⟩
  | @dcn a kvs _ m2 m3 => cases m3; exact ⟨a, rfl, .inl (Same.rd fh m2)⟩
theorem call_listN0 (hcalm : X.calm = true) : CallR X (.type "list") (fun xs H Q => ∃ a : Addr, xs = [.ref a] ∧ IsN X.w H a [] ∧ ∀ p, H p = none → Q (.ref p) (upd H p (.lst []))) := by
  intro pins s σ H xs us Q I r q
  obtain ⟨a, rfl, hd, q⟩ := q
  obtain ⟨u, rfl, rx⟩ := r.one
  obtain rfl : u = Value.ref a := rx
  obtain ⟨z, hsm, xs, rel, o, es, ep, ho, hx, hdt, hes, _, _⟩ := dn_rd I hd fun _ z => nomatch z
  have sz : es.size = xs.length := size_of_entries hes
  cases rel
  refine PySem.W.kdl_call (KdlSrc.rawDict (es := es) (ep := ep) hsm) (I.ok.hd hcalm) ⟨o, ho, hx, hdt⟩ (by rw [sz]; exact Nat.zero_le _) fun h' tk acc c hkk hS hi => ?_
  have hacc := items_all (vs := []) (by rw [hes]; rfl) hi
  refine ⟨.ref s.heap.objs.size, _, I.laid (t' := tk) hkk (Nat.le_refl _) ?_, rfl, q _ (I.hok.fresh (Nat.le_refl _))⟩
  refine ⟨Nat.zero_le _, acc.toList, c, ?_, by rw [Array.toArray_toList]; exact hS⟩
  rw [hacc]
  exact .nil
theorem de_listKD (hc : X.calm = true) (hg : Gl X "list") (hm : X.mg "list" = none) (ha : DF X W e f)
    (he : starEach [e] X.env = (false, eval e X.env) :: starEach [] X.env := by rfl) (hpl : (backTo pos (starEach [] X.env)).any (·.1) = false := by rfl) :
    DE X W (.Call (.Name "list" p) [e] [] pos) (eListKD f) := by
  obtain ⟨t, pe, s⟩ := ha
  refine ⟨_, pe_callTy (CallR.or (call_listD hc) (call_listN0 hc)) hg hm (by first | rfl | decide +kernel) (pa_cons pe pa_nil he) (he := he) (hpl := hpl), fun F H σ env fp Q sat hp => ?_⟩
  unfold eListKD at hp
  refine s.go sat hp fun d v F1 H1 sat1 q1 x1 h1 => ?_
  have q1 : Dp X.KK F1 v d := q1
  cases d with
  | dict ps0 =>
    cases ps0 with
    | nil =>
      obtain ⟨a, rfl, hn⟩ := dict_empty q1 sat1.fh
      exact .inr ⟨a, rfl, hn, fun b hb => h1 _ _ _ (Ext.own sat1.fh hb _) (own_l (ds := []) sat1.fh hb .nil)⟩
    | cons pq ps =>
      rw [gListKD_dict] at h1
      split at h1
      · rename_i c
        obtain ⟨a, rfl, z | z⟩ := dct_of q1 c
        · obtain ⟨kvs, m2, m3⟩ := z
          exact .inl ⟨a, kvs, rfl, Same.rd sat1.fh m2, fun b hb => h1 _ _ _ (Ext.own sat1.fh hb _) (own_l sat1.fh hb (dpAll_each (dpKv_ks F1 m3)))⟩
        · cases z
      · exact h1.elim
  | _ => exact h1.elim
def valsD (ps : List (D × D)) : List D := ps.map (·.2)
theorem dpKv_vals {K : Kw} {H : Hp} : ∀ {ps : List (D × D)} {kvs : List (Key × V)}, DpKv K H kvs ps → kvs.length = ps.length ∧ ∀ (i : Nat) (k : Key) (v : V), kvs[i]? = some (k, v) → ∃ d, (valsD ps)[i]? = some d ∧ Dp K H v d
  | [], _, h => by cases h; exact ⟨rfl, fun i k v e => by simp at e⟩
  | p :: ps, _, h => by
    cases h with
    | @cons k v kvs d ps h1 h2 =>
      obtain ⟨a, b⟩ := dpKv_vals h2
      refine ⟨by simp [a], fun i k' v' e => ?_⟩
      cases i with
      | zero =>
        simp at e
        exact ⟨d, by simp [valsD], by rw [← e.2]; exact h1⟩
      | succ i =>
        obtain ⟨d', q1, q2⟩ := b i k' v' (by simpa using e)
        exact ⟨d', by simpa [valsD] using q1, q2⟩
theorem walkF_dv {K : Kw} {F0 : Hp} {d : Addr} {o : Obj} {kvs : List (Key × V)} {ps : List (D × D)} (h1 : F0 d = some (.frz o (.dK kvs))) (h2 : DpKv K F0 kvs ps) : WalkF K (Itd d o kvs) F0 (valsD ps) where
  go := fun i F H hi s1 s2 => by
    rw [valsD, List.length_map, ← (dpKv_vals h2).1] at hi
    exact ⟨s2 _ _ (s1 _ _ h1), hi⟩
  yld := fun i F H x H' hi s1 s2 ⟨e, k, q⟩ => by
    subst e
    obtain ⟨dd, q1, q2⟩ := (dpKv_vals h2).2 i k x q
    exact ⟨dd, F, q1, .refl s2, dpUp q2 s1⟩
  stop := fun F H s1 s2 => ⟨s2 _ _ (s1 _ _ h1), by rw [valsD, List.length_map, (dpKv_vals h2).1]; exact Nat.le_refl _⟩
/-- for .. in x.values(): body, x a dict told as data; the body raises nothing -/
def sForVD (i : Nat) (g : D → Ev → Option Ev) (f : Ev → SR) (env : Ev) : SR := match env[i]? with
  | some (some (.d (.dict []))) => .nx env
  | some (some (.d (.dict (q :: ps)))) => if (q :: ps).all (fun p => isKey p.1) = true then noX (forL g f (valsD (q :: ps)) env) else .no
  | _ => .no
end
def Itz (w : World) (d : Addr) (o : Obj) : It := ⟨fun _ _ => False, fun _ _ _ _ => False, fun _ H => H d = some (.frz o (dnO w d []))⟩
theorem turn_valsZ {P : Program} {w : World} {K : PySem.W.Frag} {tg : Expr} {d : Addr} {o : Obj} {es : Array DictEntry} {ep : Nat} (it : Addr) (hod : o.data = .dict es ep) : Turn P w K tg (Itz w d o) [it] it (fun i h => h.IsValIter it d i 0 ep) where
  mem := by simp
  obj := fun i h st b hb => by
    have e : b = it := by simpa using hb
    subst e
    obtain ⟨oi, e, c, dd⟩ := st
    exact ⟨oi, e, fun v z => by rw [dd] at z; cases z⟩
  keep := fun i h h' st k => st.at fun oi e => k it (by simp) oi e
  item := by
    intro X hP hw hK hc i pins s σ H E I hf st hg
    exact hg.elim
  done := by
    intro X hP hw hK hc i pins s σ H E I hf st hg
    subst hP hw hK
    obtain ⟨f0, f1, f2, f3, f4, f5⟩ := hf it (by simp)
    obtain ⟨hs, hgd, hx, es', ep', hdt, hsz, ent⟩ := Inv.frzN I hg
    obtain ⟨rfl, rfl⟩ := dict_ep hod hdt
    have hsz : es'.size = 0 := hsz
    rw [← hsz] at st
    exact wpAny_pyNext_values_end_raw (I.ok.hd hc) st ⟨_, hgd, hx, hdt⟩ (by omega) fun h' eb => ⟨rfl, I.turned (t' := s.toks) (fun b ob hb e => eb b ob hb e) f0 f1 f3 f4 f5⟩
  self := fun A i s Q E st h => wpAny_pyIter_valiter st h
def iValsZ (w : World) (td : TE) : TI := fun σ H R => td σ H fun x H1 => ∃ d o, x = .ref d ∧ H1 d = some (.frz o (dnO w d [])) ∧ R (Itz w d o) H1
section
variable {X : Cx} {tg e : Expr} {td : TE} {apos cpos : Pos}
theorem pi_valuesZ (he : PE X e td) (hbase : attributeBase e "values" X.env (eval e X.env) = eval e X.env := by rfl) (hline : (apos.endLine == cpos.line) = true := by rfl) : PI X tg (.Call (.Attribute e "values" apos) [] [] cpos) (iValsZ X.w td) := by
  refine ⟨fun pins s σ H R I h => ?_⟩
  refine wpAny_Call_method (T := "dict") (id := "dict.values") hbase rfl hline F.plainAttrs_dict F.slot_dict_values F.type_dict_values (thn (he.run pins s σ H _ I h) fun u s1 ⟨x, H1, I1, rx, d, o, ex, hd, q⟩ => ?_)
  subst ex
  obtain rfl : u = Value.ref d := rx
  obtain ⟨hs, hgd, hx, es, ep, hdt, hsz, ent⟩ := Inv.frzN I1 hd
  have hsz : es.size = 0 := hsz
  have hm : s1.heap.DictRaw d es ep := ⟨o, hgd, hx, hdt⟩
  refine ⟨hm.typeIs, fun b e => ?_, ?_⟩
  · cases e
    exact ⟨o, hgd, hx.2.1⟩
  have I2 : Inv X pins σ H1 { s1 with heap := s1.heap.push { cls := .type "dict_values", data := .fields #[.ref d] } } := I1.kept (t' := s1.toks) fun b ob q => Heap.get?_push_of_some _ q
  have fin : wpAny (model X.prog X.w) X.A (pyIter (.ref s1.heap.objs.size)) (PIE X pins σ tg R) X.xe { s1 with heap := s1.heap.push { cls := .type "dict_values", data := .fields #[.ref d] } } := by
    refine wpAny_pyIter_values_raw (d := d) ⟨_, Heap.get?_push_size _ rfl, rfl, rfl⟩ (hm.push _) (pi_one (tk := s1.toks) I2 _ (turn_valsZ _ hdt) ⟨_, Heap.get?_push_size _ rfl, rfl, ?_⟩ q)
    rw [hsz]
    rfl
  show wpAny _ _ (callWith cpos (.builtin "dict.values") [.ref d] [] []) _ X.xe s1
  exact method_meetsIn F.slot_dict_values F.entry_dict_values rfl (PySem.evalArgs_none ⟨rfl, hm.typeIs, F.args_dict_values_1 _, _, meets_dict_values_raw d hs, ⟨es, ep, hm⟩, fin⟩)
end
theorem walkF_dz {K : Kw} {F0 : Hp} {d : Addr} {o : Obj} (h1 : F0 d = some (.frz o (dnO K.w d []))) : WalkF K (Itz K.w d o) F0 [] where
  go := fun i F H hi s1 s2 => absurd hi (Nat.not_lt_zero _)
  yld := fun i F H x H' hi s1 s2 _ => absurd hi (Nat.not_lt_zero _)
  stop := fun F H s1 s2 => s2 _ _ (s1 _ _ h1)
section
variable {X : Cx} {W : WX} {S : Nat → Bool} {tg : Expr} {apos cpos : Pos}
theorem ds_forVD {x : Str} {npos pos : Pos} {body : List Stmt} {g : D → Ev → Option Ev} {fs : Ev → SR} {ix : List Nat} (i : Nat) (hp : PassesOwn (model X.prog X.w) X.A X.env X.xe) (hc : X.calm = true) (hg : DG X tg ix g) (hb : DSs X W0 S body fs)
    (hN : X.N[i]? = some x := by rfl) (hv : Vis X.env.scope x := by first | exact Or.inl rfl | exact Or.inr (Or.inl rfl) | exact Or.inr (Or.inr rfl)) (hd : (x == ("__debug__" : Str)) = false := by decide) (hcd : (x == ("__classdict__" : Str)) = false := by decide)
    (hbase : attributeBase (.Name x npos) "values" X.env (eval (.Name x npos) X.env) = eval (.Name x npos) X.env := by rfl) (hline : (apos.endLine == cpos.line) = true := by rfl)
    (hs : ∀ y, foldedSetIterable (.Call (.Attribute (.Name x npos) "values" apos) [] [] cpos) X.env y = pure y := by intro _; rfl) (hS : ix.all S = true := by rfl) : DS X W S (.For tg (.Call (.Attribute (.Name x npos) "values" apos) [] [] cpos) body [] pos) (sForVD i g fs) := by
  obtain ⟨tb, pb, sb⟩ := hb
  have pf := ps_for hp hc (pi_values (tg := tg) (apos := apos) (cpos := cpos) (pe_var (pos := npos) hN hv hd hcd) hbase hline) hg pb hs (pos := pos)
  have pz := ps_for hp hc (pi_valuesZ (tg := tg) (apos := apos) (cpos := cpos) (pe_var (pos := npos) hN hv hd hcd) hbase hline) hg pb hs (pos := pos)
  refine ⟨_, PS.or (PS.or (ps_lock pf) pf) (PS.or (ps_lock pz) pz), fun F H σ env fp D sat h => ?_⟩
  have toW0 : ∀ {F H : Hp} {fp : List Addr} {D : Ends} {r : SR}, PostS X W S σ F H fp D (noX r) → PostS X W0 S σ F H fp D r := fun {F H fp D r} q => by
    cases r with
    | ex c env => exact q.elim
    | _ => exact q
  unfold sForVD at h
  split at h
  · rename_i he
    obtain ⟨v, fo, hv, ho, _⟩ := sat.en.get he
    have h : PostS X W S σ F H fp D (noX (forL g fs [] env)) := h
    cases ho with
    | d dp =>
      cases dp with
      | @dct a kvs _ m2 m3 =>
        cases m3
        rcases m2 with m2 | ⟨o, m2⟩
        · refine .inl (.inl ⟨a, .dK [], sat.fh _ _ m2, trivial, fun od => ?_⟩)
          have sat1 := sat.lock od m2 (fun _ _ z => nomatch z) (fun _ _ _ z => nomatch z)
          exact forK_core (i := i) (body := body) sb hS sat1 (walkF_dv (ps := []) upd_same .nil) (fun R r => ⟨_, hv, a, od, [], rfl, upd_same, r⟩) (PostS.lock od m2 (sat.fh _ _ m2) h)
        · exact .inl (.inr (forK_core (i := i) (body := body) sb hS sat (walkF_dv (ps := []) m2 .nil) (fun R r => ⟨_, hv, a, o, [], rfl, sat.fh _ _ m2, r⟩) (toW0 h)))
      | @dcn a kvs _ m2 m3 =>
        cases m3
        rcases m2 with m2 | ⟨o, m2⟩
        · refine .inr (.inl ⟨a, _, sat.fh _ _ m2, trivial, fun od => ?_⟩)
          have sat1 := sat.lock od m2 (fun _ _ z => nomatch z) (fun _ _ _ z => nomatch z)
          exact forK_core (i := i) (body := body) sb hS sat1 (walkF_dz (K := X.KK) upd_same) (fun R r => ⟨_, hv, a, od, rfl, upd_same, r⟩) (PostS.lock od m2 (sat.fh _ _ m2) h)
        · exact .inr (.inr (forK_core (i := i) (body := body) sb hS sat (walkF_dz (K := X.KK) m2) (fun R r => ⟨_, hv, a, o, rfl, sat.fh _ _ m2, r⟩) (toW0 h)))
  · rename_i pq ps he
    split at h
    case isFalse => exact h.elim
    rename_i hk
    obtain ⟨v, fo, hv, ho, _⟩ := sat.en.get he
    cases ho with
    | d dp =>
      obtain ⟨a, rfl, z | z⟩ := dct_of dp hk
      · obtain ⟨kvs, m2, m3⟩ := z
        rcases m2 with m2 | ⟨o, m2⟩
        · refine .inl (.inl ⟨a, .dK kvs, sat.fh _ _ m2, trivial, fun od => ?_⟩)
          have sat1 := sat.lock od m2 (fun _ _ z => nomatch z) (fun _ _ _ z => nomatch z)
          have m3' := DpKv.rl (rlh_lock (H := H) (od := od) m2 (fun _ _ z => nomatch z) (fun _ _ _ z => nomatch z)).rl _ _ m3
          exact forK_core (i := i) (body := body) sb hS sat1 (walkF_dv upd_same m3') (fun R r => ⟨_, hv, a, od, kvs, rfl, upd_same, r⟩) (PostS.lock od m2 (sat.fh _ _ m2) h)
        · exact .inl (.inr (forK_core (i := i) (body := body) sb hS sat (walkF_dv m2 m3) (fun R r => ⟨_, hv, a, o, kvs, rfl, sat.fh _ _ m2, r⟩) (toW0 h)))
      · cases z
  · exact h.elim
end
end Mir
end
set_option Elab.async false
set_option linter.all false
set_option maxRecDepth 100000
set_option maxHeartbeats 4000000
noncomputable section
namespace Mir
open PySem PySem.Spec PyProof.Rows L2
def ePtD (p : Ev → R Pl) (env : Ev) : R D := (p env).bind fun q => asD q.1
section
variable {X : Cx} {W : WX} {e : Expr}
theorem df_pt {p : Ev → R Pl} (hp : DPt X W e p) : DF X W e (ePtD p) := by
  obtain ⟨t, pp, s⟩ := hp
  refine ⟨t, pp, fun F H σ env fp Q sat h => ?_⟩
  refine s F H σ env fp Q sat ?_
  unfold ePtD at h
  cases ep : p env with
  | no => rw [ep] at h; exact h.elim
  | ex c => rw [ep] at h; exact h
  | ok q =>
    rw [ep, R.bind_ok] at h
    obtain ⟨o, bk⟩ := q
    intro w F' H' x at1
    cases o with
    | d y =>
      obtain ⟨fo, a1, _⟩ := at1
      have a1 : OwnAt X.KK F' H' w (.d y) fo := a1
      cases a1 with
      | d dp => exact h w F' H' x dp
    | _ => exact h.elim
end
end Mir
end
set_option Elab.async false
set_option linter.all false
set_option maxRecDepth 100000
set_option maxHeartbeats 4000000
noncomputable section
namespace Mir
open PySem PySem.Spec PyProof.Rows L2
def stepL {α : Type} (xs : List α) (lo hi st : Option Int) : List α := (sliceRange (sliceBounds lo hi st xs.length).1 (sliceBounds lo hi st xs.length).2.1 (sliceBounds lo hi st xs.length).2.2).filterMap (xs[·]?)
section
variable {X : Cx} {W : WX} {e : Expr} {te : TE} {lo hi : Option Expr} {ste : Expr} {tl th ts : TO} {p2 pos : Pos}
def gSlS : D → Option Int → Option Int → Option Int → Option Ow
  | .list ds, lo, hi, st => if st ≠ some 0 then some (.l ((stepL ds lo hi st).map Ow.d)) else none
  | _, _, _, _ => none
def eSlS (f : Ev → R D) (l h c : Ev → R (Option Int)) (env : Ev) : R Ow := (f env).bind fun x => (l env).bind fun i => (h env).bind fun j => (c env).bind fun k => R.of (gSlS x i j k)
@[simp] theorem eSlS_eq (f : Ev → R D) (l h c : Ev → R (Option Int)) (env : Ev) : eSlS f l h c env = (f env).bind fun x => (l env).bind fun i => (h env).bind fun j => (c env).bind fun k => R.of (gSlS x i j k) := rfl
end
end Mir
end
set_option Elab.async false
set_option linter.all false
set_option maxRecDepth 100000
set_option maxHeartbeats 4000000
noncomputable section
namespace Mir
open PySem PySem.Spec PyProof.Rows L2
section
variable {X : Cx} {pins : List (Addr × Obj)} {σ : L2.St} {H : Hp} {s : Shared} {xe : Value → Shared → Prop}
end
section
variable {M : Model} {A : Around} {E : Value → Shared → Prop} {s : Shared} {Z : Obj → Prop} {base : Heap} {env : Env} {outer : List Env} {L e : Addr}
end
section
variable {X : Cx}
end
end Mir
end
set_option Elab.async false
set_option linter.all false
set_option maxRecDepth 100000
set_option maxHeartbeats 4000000
noncomputable section
namespace Mir
open PySem PySem.Spec PyProof.Rows L2
section
variable {X : Cx} {W : WX} {S : Nat → Bool} {pos : Pos}
end
end Mir
end
set_option Elab.async false
set_option linter.all false
set_option maxRecDepth 100000
set_option maxHeartbeats 4000000
noncomputable section
namespace Mir
open PySem PySem.Spec PyProof.Rows L2
def fnD (x : Str) : D := .dict [(.none, .tuple [.str x])]
theorem dp_fnD {K : Kw} {H : Hp} {v : V} {x : Str} (h : Dp K H v (fnD x)) : ∃ a, v = .ref a ∧ PySem.W.nsIn K.K mainGlobals x = some (some (.ref a)) := by
  unfold fnD at h
  cases h with
  | dct h1 h2 =>
    exfalso
    generalize hd : (PyData.none, PyData.tuple [.str x]) = p at h2
    cases h2 with
    | @cons k =>
      cases k <;> cases hd
  | dcn h1 h2 =>
    exfalso
    generalize hd : (PyData.none, PyData.tuple [.str x]) = p at h2
    cases h2 with
    | @cons k b v kvs d ps g1 g2 g3 g4 =>
      injection hd with e1 e2
      rw [← e1] at g1
      cases g1
  | fnv h1 => exact ⟨_, rfl, h1⟩
def unFn : D → Option Str
  | .dict [(.none, .tuple [.str x])] => some x
  | _ => none
theorem unFn_fnD (x : Str) : unFn (fnD x) = some x := rfl
theorem unFn_eq {d : D} {x : Str} (h : unFn d = some x) : d = fnD x := by
  unfold unFn at h
  split at h
  · cases h; rfl
  · cases h
abbrev FTab := List (Str × (List D → R Ow))
def tabF : FTab → Str → Option (List D → R Ow)
  | [], _ => none
  | q :: t, x => if x = q.1 then some q.2 else tabF t x
section
variable {X : Cx} {W : WX} {e : Expr} {es : List Expr} {pos p : Pos} {x : Str}
theorem df_fn {a : Addr} (hg : Gl X x) (hm : X.mg x = some (.ref a)) (hn : PySem.W.nsIn X.K mainGlobals x = some (some (.ref a))) (hd : (x == ("__debug__" : Str)) = false := by decide) : DF X W (.Name x pos) (eC (fnD x)) :=
  ⟨_, pe_glob (v := .ref a) hg hm rfl hd, fun F H σ env fp Q sat h => h _ F H (.refl sat.fh) (.fnv hn)⟩
/-- a def of n parameters by its name -/
def FunV (X : Cx) (n : Nat) (z : Str) (m : List D → R Ow) : Prop := ∃ k a fd ps, PySem.W.nsIn X.K mainGlobals z = some (some (.ref a)) ∧ FnOk X.prog X.w X.K X.mg X.base (L2.CX X.prog X.w) k a fd ps (spM X.KK X.mg n m) ∧ Room k X.A ∧ PySem.W.keepIn X.K (.ref a) = true ∧ Binds X.K fd ps []
def FunVs (X : Cx) (n : Nat) (tab : FTab) : Prop := ∀ z m, tabF tab z = some m → FunV X n z m
theorem fvs_nil {n : Nat} : FunVs X n [] := fun z m h => nomatch h
theorem fvs_cons {n : Nat} {z : Str} {m : List D → R Ow} {tab : FTab} (h : FunV X n z m) (t : FunVs X n tab) : FunVs X n ((z, m) :: tab) := fun y m' e => by
  unfold tabF at e
  split at e
  · rename_i c
    cases e
    rw [c]
    exact h
  · exact t y m' e
theorem pe_callV {i : Nat} {t : TA} (tk : Takes X W) (ha : PA X (e :: es) t) (hN : X.N[i]? = some x) (hv : Vis X.env.scope x) (hd : (x == ("__debug__" : Str)) = false) (hcd : (x == ("__classdict__" : Str)) = false)
    (he : starEach (e :: es) X.env = (false, eval e X.env) :: starEach es X.env := by rfl) (hpl : (backTo pos (starEach es X.env)).any (·.1) = false := by rfl) :
    PE X (.Call (.Name x p) (e :: es) [] pos) (fun σ H Q => ∃ a, σ[i]? = some (some (.ref a)) ∧ ∃ k fd ps sp, FnOk X.prog X.w X.K X.mg X.base (L2.CX X.prog X.w) k a fd ps sp ∧ Room k X.A ∧ PySem.W.keepIn X.K (.ref a) = true ∧ Binds X.K fd ps [] ∧ tCallS sp (WE W) t σ H Q) := by
  refine ⟨fun pins s σ H Q I ⟨a, e0, k, fd, ps, sp, F, hr, hk, hb, h⟩ => ?_⟩
  refine wpAny_Call_Name_kw (thn ((pe_var hN hv hd hcd).run pins s σ H (fun v H1 => v = .ref a ∧ H1 = H) I ⟨.ref a, e0, rfl, rfl⟩) fun u s1 ⟨v, H1, I1, r, ev, eH⟩ => ?_)
  subst ev eH
  obtain rfl : u = Value.ref a := r
  exact PySem.W.callWith_K (h₀ := X.base) I1.ok.mod.kin hk (thn (ha.run pos pins s1 σ _ _ I1 h) fun us s2 ⟨vs, H2, I2, r2, q⟩ => ⟨I2.kIn, run_fnS F hr hb (passAt tk σ) I2 r2 q⟩) he hpl
def eCallF (i : Nat) (fa : Ev → R (List D)) (tab : FTab) (env : Ev) : R Ow := match env[i]? with
  | some (some (.d d)) => match unFn d with
    | some z => match tabF tab z with
      | some m => eB fa m env
      | none => .no
    | none => .no
  | _ => .no
theorem eCallF_of {i : Nat} {fa : Ev → R (List D)} {tab : FTab} {env : Ev} {z : Str} {m : List D → R Ow} (h : env[i]? = some (some (.d (fnD z)))) (ht : tabF tab z = some m) : eCallF i fa tab env = eB fa m env := by
  unfold eCallF
  rw [h]
  simp only [unFn_fnD, ht]
theorem de_callF (i : Nat) {n : Nat} {fa : Ev → R (List D)} {tab : FTab} (tk : Takes X W) (ft : FunVs X n tab) (ha : DA X W (e :: es) fa) (hn : ∀ ds env, fa env = .ok ds → ds.length = n)
    (hN : X.N[i]? = some x := by rfl) (hv : Vis X.env.scope x := by first | exact Or.inl rfl | exact Or.inr (Or.inl rfl) | exact Or.inr (Or.inr rfl)) (hd : (x == ("__debug__" : Str)) = false := by decide) (hcd : (x == ("__classdict__" : Str)) = false := by decide)
    (he : starEach (e :: es) X.env = (false, eval e X.env) :: starEach es X.env := by rfl) (hpl : (backTo pos (starEach es X.env)).any (·.1) = false := by rfl) :
    DE X W (.Call (.Name x p) (e :: es) [] pos) (eCallF i fa tab) := by
  obtain ⟨t, pa, s⟩ := ha
  refine ⟨_, pe_callV (i := i) tk pa hN hv hd hcd he hpl, fun F0 H σ env fp Q sat hp => ?_⟩
  unfold eCallF at hp
  split at hp
  · rename_i d hi
    split at hp
    · rename_i z hz
      split at hp
      · rename_i m ht
        obtain ⟨v, fo, h1, h2, _⟩ := sat.en.get hi
        rw [unFn_eq hz] at h2
        cases h2 with
        | d q =>
          obtain ⟨a, rfl, hna⟩ := dp_fnD q
          obtain ⟨k, a', fd, ps, hn', FO, hr, hk, hb⟩ := ft z m ht
          have ea : a' = a := by
            have hna : PySem.W.nsIn X.K mainGlobals z = some (some (.ref a)) := hna
            rw [hn'] at hna
            cases hna
            rfl
          subst ea
          refine ⟨a', h1, k, fd, ps, _, FO, hr, hk, hb, ?_⟩
          refine s.choose sat hp (fun z => z _) fun ds ed k => k _ fun vs F1 H1 sat1 q1 _ hh => ?_
          refine ⟨F1, ds, sat1.fh, q1, hn ds env ed, ?_⟩
          cases em : m ds with
          | no => rw [em] at hh; exact hh
          | ok r => rw [em] at hh; exact hh
          | ex c => rw [em] at hh; exact hh
      · exact hp.elim
    · exact hp.elim
  · exact hp.elim
def eDisp1 (k v : Str) (_ : Ev) : R Ow := .ok (.m [(.str k, .str v)])
theorem de_disp1 {k v : Str} {j j2 : Nat} {p2 : Pos} : DE X W (.Dict [some (.Constant (.str k) j p)] [.Constant (.str v) j2 p2] pos) (eDisp1 k v) := by
  refine ⟨_, pe_disp (pps_cons pe_str pe_str pps_nil) rfl rfl (by simp) (by simp), fun F H σ env fp Q sat hp => ?_⟩
  intro q hq
  have hp : ∀ v F' H', Ext F H F' H' → POw X.KK H (.m [(.str k, .str _)]) v F' H' → Q v H' := hp
  show _ ∧ _
  refine ⟨upd_same, [(Sum.inr k, V.str v)], rfl, by simp, ?_⟩
  have e2 : upd (upd H q (.dK [])) q (.dK (mergeK [] [(Sum.inr k, V.str v)])) = upd H q (.dK [(Sum.inr k, V.str v)]) := by
    funext b
    by_cases c : b = q
    · subst c; rw [upd_same, upd_same]; rfl
    · rw [upd_ne c, upd_ne c, upd_ne c]
  rw [e2]
  refine hp _ F _ (Ext.own sat.fh hq _) ⟨[q], .m (free_of sat.fh hq) upd_same (.cons (.str v) .nil), by simp, fun b hb => by rw [List.mem_singleton.mp hb]; exact hq⟩
def isDctW : D → Bool
  | .dict ((.str _, _) :: _) => false
  | .dict _ => true
  | _ => false
theorem dp_tyW {K : Kw} {H : Hp} {v : V} {d : D} (h : Dp K H v d) (nd : isDctW d = false) : TyX K H v (.type (dTy d)) := by
  cases h with
  | non => exact .base .non
  | bl b => exact .base (.bl b)
  | int i => exact .base (.int i)
  | str i => exact .base (.str i)
  | lst a b => exact sqL_ty a
  | tup a b => exact sqT_ty a
  | dct a b =>
    rcases a with a | ⟨o, a⟩
    · exact .base (.dK a)
    · exact .fDict a
  | dcn a b =>
    cases b with
    | nil => cases nd
    | @cons k b v kvs d ps h1 h2 h3 h4 =>
      generalize k.data = kd at *
      cases h1 <;> cases nd
  | exc a => cases nd
  | ins a => cases nd
  | fnv a => cases nd
def gIsiW (T : String) (d : D) : R D := if isDctW d = true then .no else match kitB (dTy d) T with
  | some b => .ok (.bool b)
  | none => .no
section
variable {X : Cx} {W : WX} {a : Expr} {f : Ev → R D} {pos p : Pos}
theorem df_isiW {T : String} {y : Str} {p p2 : Pos} (ha : DV X W a f) (hg : Gl X "isinstance") (hm : X.mg "isinstance" = none) (gT : Gl X y) (mT : X.mg y = none) (bT : bootBuiltins y = some (.type T))
    (he : starEach [a, .Name y p2] X.env = (false, eval a X.env) :: starEach [.Name y p2] X.env := by rfl) (he2 : starEach [.Name y p2] X.env = (false, eval (.Name y p2) X.env) :: starEach [] X.env := by rfl) (hpl : (backTo pos (starEach [.Name y p2] X.env)).any (·.1) = false := by rfl)
    (hn : y ≠ "__name__" := by decide) (hd : (y == ("__debug__" : Str)) = false := by decide) : DF X W (.Call (.Name "isinstance" p) [a, .Name y p2] [] pos) (eB f (gIsiW T)) := by
  obtain ⟨t, pa, s⟩ := ha
  refine ⟨_, pe_callB call_isi hg hm (by decide +kernel) (pa_cons pa (pa_cons (pe_bltn (v := .ty T) gT mT bT rfl hn hd) pa_nil he2) he) (he := he) (hpl := hpl), fun F H σ env fp Q sat hp => ?_⟩
  refine s.go sat hp fun d v F1 H1 sat1 q _ h1 => ?_
  unfold gIsiW at h1
  cases nd : isDctW d with
  | true => rw [nd] at h1; exact h1.elim
  | false =>
  rw [nd] at h1
  simp only [Bool.false_eq_true, if_false] at h1
  split at h1
  · rename_i b hb
    exact ⟨v, .ty T, _, _, b, rfl, .ty T, dp_tyW q nd, hb, h1 _ F1 H1 (.refl sat1.fh) (.bl _)⟩
  · exact h1.elim
end
end
end Mir
end
set_option Elab.async false
set_option linter.all false
set_option maxRecDepth 100000
set_option maxHeartbeats 4000000
namespace Mir
open PySem PySem.Spec L2

inductive Tr where
  | mk (nm : Str) (mk : Int) (bs : List Tr)
mutual
def encT : Tr → D
  | .mk nm k bs => .tuple [.str nm, .int k, .tuple (encTs bs)]
def encTs : List Tr → List D
  | [] => []
  | b :: bs => encT b :: encTs bs
end
mutual
def sizeT : Tr → Nat
  | .mk _ _ bs => 1 + sizeTs bs
def sizeTs : List Tr → Nat
  | [] => 0
  | b :: bs => sizeT b + sizeTs bs
end
mutual
def levT : Tr → Nat
  | .mk _ _ bs => levTs bs + 1
def levTs : List Tr → Nat
  | [] => 0
  | b :: bs => max (levT b) (levTs bs)
end
mutual
def plT : Tr → List (List Nat)
  | .mk _ _ bs => [] :: plTs 0 bs
def plTs : Nat → List Tr → List (List Nat)
  | _, [] => []
  | o, b :: bs => (plT b).map (fun p => o :: p) ++ plTs (o + 1) bs
end

/-- the forests that hang below the first rows, and all places that they make -/
def pz : List (List Nat) → List Nat → List (List Tr) → List (List Nat)
  | p :: ps, l :: ls, b :: bs => ([] :: plTs l b).map (fun q => p ++ q) ++ pz ps ls bs
  | _, _, _ => []
structure TRow where
  nm : Str
  mar : Int
  up : Nat
end Mir
set_option Elab.async false
set_option linter.all false
set_option maxRecDepth 100000
set_option maxHeartbeats 4000000
namespace Mir
open PySem PySem.Spec L2

def kf (rs : List TRow) : Nat → Nat → List Nat
  | 0, _ => []
  | s + 1, j => if (rs[rs.length - 1 - s]?).map TRow.up = some j then (rs.length - 1 - s) :: kf rs s j else kf rs s j
def kids (rs : List TRow) (j : Nat) : List Nat := kf rs (rs.length - 1) j
abbrev zs (p : List Nat) : List Int := p.map fun k : Nat => (k : Int)

end Mir
set_option Elab.async false
set_option linter.all false
set_option maxRecDepth 100000
set_option maxHeartbeats 4000000
namespace Mir
open PySem PySem.Spec L2

theorem map_at {α β : Type} {f : α → β} {xs : List α} {i : Nat} {y : β} (h : (xs.map f)[i]? = some y) : ∃ x, xs[i]? = some x ∧ y = f x := by
  rw [List.getElem?_map] at h
  cases e : xs[i]? with
  | none => rw [e] at h; simp at h
  | some x => rw [e] at h; simp at h; exact ⟨x, rfl, h.symm⟩
theorem unDs_of {α : Type} (f : α → D) (xs : List α) : shD (.l (xs.map fun x => Ow.d (f x))) = .ok (.list (xs.map f)) := by
  have : (xs.map fun x => Ow.d (f x)) = (xs.map f).map Ow.d := by rw [List.map_map]; rfl
  rw [this, shD_l]
theorem viewAll_of {α : Type} (f : α → D) (xs : List α) : viewAll (xs.map fun x => Ow.d (f x)) = xs.map f := by
  rw [viewAll_map, List.map_map]
  rfl
theorem viewD_of {α : Type} (f : α → D) (xs : List α) : viewD (.l (xs.map fun x => Ow.d (f x))) = .list (xs.map f) := by
  rw [viewD_l, viewAll_of]
theorem str_len (z : Str) : z.length = z.cps.toList.length := by first | rfl | simp [Str.length]
theorem gDiv_small {i j : Int} (h1 : 0 < j) (h2 : j.natAbs < 2 ^ 250) : gDiv (.int i) (.int j) = some (.int (i / j)) := by
  refine gDiv_int ⟨h1, ?_⟩
  have := (Nat.log2_lt (n := j.natAbs) (k := 250) (by omega)).mpr h2
  omega
theorem gPow10 (k : Nat) (h : k ≤ 1000) : gPow (.int 10) (.int k) = some (.int (10 ^ k)) := by
  rw [gPow_int ⟨by omega, by omega, by decide⟩]
  simp
theorem cutL_take {α : Type} (xs : List α) (k : Nat) : cutL xs none (some (k : Int)) = xs.take k := by
  unfold cutL
  rw [HT.sIx_none, HT.sIx_nat, List.drop_zero, Nat.sub_zero]
  by_cases h : k ≤ xs.length
  · rw [Nat.min_eq_left h]
  · rw [Nat.min_eq_right (by omega), List.take_of_length_le (Nat.le_refl _), List.take_of_length_le (by omega)]
theorem cutL_drop {α : Type} (xs : List α) (k : Nat) : cutL xs (some (k : Int)) none = xs.drop k := by
  unfold cutL
  rw [HT.sIx_none, HT.sIx_nat]
  by_cases h : k ≤ xs.length
  · rw [Nat.min_eq_left h, List.take_of_length_le (by rw [List.length_drop]; exact Nat.le_refl _)]
  · rw [Nat.min_eq_right (by omega), List.drop_of_length_le (by omega), List.drop_of_length_le (by omega)]
    simp
theorem canAll_of : ∀ ds : List D, (∀ d ∈ ds, d.canLay0 = true) → PyData.canLayAll0 ds = true
  | [], _ => by simp [PyData.canLayAll0]
  | d :: ds, h => by
    rw [PyData.canLayAll0, h d List.mem_cons_self, canAll_of ds fun d hd => h d (List.mem_cons_of_mem _ hd)]
    rfl
theorem depthAll_of {n : Nat} : ∀ ds : List D, (∀ d ∈ ds, d.depth ≤ n) → PyData.depthAll ds ≤ n
  | [], _ => by simp [PyData.depthAll]
  | d :: ds, h => by
    rw [PyData.depthAll]
    have := h d List.mem_cons_self
    have := depthAll_of ds fun d hd => h d (List.mem_cons_of_mem _ hd)
    omega
/-- data that == can be asked of -/
def Nice (d : D) : Prop := d.canLay0 = true ∧ d.depth ≤ 130
theorem gEq_nice {d e : D} (h : Nice d) (g : Nice e) : gEq d e = some (.bool (PyData.eqv d e)) := by
  have z : eqOk d e = true := by unfold eqOk; simp [h.1, h.2, g.1]
  unfold gEq; rw [if_pos (by rw [z, Bool.or_true])]
theorem eqv_self {d : D} (h : Nice d) : PyData.eqv d d = true := SeqAt.eqv_refl d h.1
theorem gEq_self {d : D} (h : Nice d) : gEq d d = some (.bool true) := by rw [gEq_nice h h, eqv_self h]
mutual
def okT : Tr → Prop
  | .mk nm _ bs => PyData.strOk nm = true ∧ bs.length ≤ 1000 ∧ okTs bs
def okTs : List Tr → Prop
  | [] => True
  | b :: bs => okT b ∧ okTs bs
end
abbrev abc : Str := "abcdefghijklmnopqrstuvwxyz"
end Mir
set_option Elab.async false
set_option linter.all false
set_option maxRecDepth 100000
set_option maxHeartbeats 4000000
namespace Mir
open PySem PySem.Spec L2

def tx (l : List Nat) : Str := ⟨l.toArray⟩
@[simp] theorem tx_cps (l : List Nat) : (tx l).cps.toList = l := by simp [tx]
@[simp] theorem tx_len (l : List Nat) : (tx l).length = l.length := by rw [str_len, tx_cps]
theorem tx_of (z : Str) : z = tx z.cps.toList := by
  cases z with
  | mk a => simp [tx]
theorem tx_app (a b : List Nat) : tx a ++ tx b = tx (a ++ b) := by
  show (⟨(tx a).cps ++ (tx b).cps⟩ : Str) = _
  simp [tx]
theorem tx_inj {a b : List Nat} (h : tx a = tx b) : a = b := by
  have := congrArg (fun z : Str => z.cps.toList) h
  simpa using this
theorem gLen_tx (l : List Nat) (h : l.length ≤ 16777216) : gLen [.str (tx l)] = some (.d (.int l.length)) := by
  show (if (tx l).length ≤ sizeLine then some (Ow.d (.int (tx l).length)) else none) = _
  rw [tx_len, if_pos (by rw [sizeLine_eq]; exact h)]
theorem gIx_tx {l : List Nat} {i c : Nat} (h : l[i]? = some c) (hl : l.length ≤ 16777216) : gIx (.str (tx l)) (.int (i : Nat)) = some (.str (tx [c])) := by
  show (if (tx l).length ≤ sizeLine then (atI (tx l).cps.toList (i : Int)).map fun c => PyData.str ⟨#[c]⟩ else none) = _
  rw [tx_len, tx_cps, if_pos (by rw [sizeLine_eq]; exact hl), atI_natD h]
  rfl
def inS (c : Nat) (z : Str) : Bool := decide (c ∈ z.cps.toList)
theorem gIn_tx (c : Nat) (z : Str) : gIn (.str (tx [c])) (.str z) = some (.bool (inS c z)) := gIn_sign c z
theorem gEq_tx (a b : List Nat) : gEq (.str (tx a)) (.str (tx b)) = some (.bool (decide (a = b))) := by
  have : PyData.eqv (.str (tx a)) (.str (tx b)) = decide (a = b) := by
    show (tx a == tx b) = _
    by_cases h : a = b
    · subst h; simp
    · rw [decide_eq_false h]
      exact beq_eq_false_iff_ne.mpr fun e => h (tx_inj e)
  show some (PyData.bool (PyData.eqv (.str (tx a)) (.str (tx b)))) = _
  rw [this]
theorem gSl_tx {l : List Nat} {i j : Nat} (h : j ≤ l.length) (hi : i ≤ j) (hl : l.length ≤ 16777216) : gSl (.str (tx l)) (some (i : Int)) (some (j : Int)) = some (.d (.str (tx ((l.drop i).take (j - i))))) := by
  show (if (tx l).length ≤ sizeLine then some (Ow.d (.str (cutS (tx l) (some (i : Int)) (some (j : Int))))) else none) = _
  rw [tx_len, if_pos (by rw [sizeLine_eq]; exact hl)]
  unfold cutS
  rw [tx_len, tx_cps, HT.sIx_nat, HT.sIx_nat, Nat.min_eq_left h, Nat.min_eq_left (by omega)]
  rfl
theorem gAdd_tx {a b : List Nat} (h : a.length + b.length ≤ 16777216) : gAdd (.str (tx a)) (.str (tx b)) = some (.d (.str (tx (a ++ b)))) := by
  rw [gAdd_str (by rw [tx_len, tx_len, sizeLine_eq]; exact h), tx_app]
def isL (c : Nat) : Bool := decide (97 ≤ c) && decide (c ≤ 122)
def isF (c : Nat) : Bool := decide (48 ≤ c) && decide (c ≤ 57)
def sigs : List Nat := [40, 41, 59, 58, 61, 124, 42]
theorem abc_is : abc.cps.toList = (List.range 26).map (fun k => 97 + k) := by decide +kernel
theorem mem_abc (c : Nat) : decide (c ∈ abc.cps.toList) = isL c := by
  rw [abc_is]
  unfold isL
  by_cases h : 97 ≤ c ∧ c ≤ 122
  · rw [decide_eq_true (List.mem_map.mpr ⟨c - 97, List.mem_range.mpr (by omega), by omega⟩)]
    simp [h]
  · rw [decide_eq_false fun z => ?_]
    · by_cases h1 : 97 ≤ c
      · have : ¬ c ≤ 122 := fun q => h ⟨h1, q⟩
        simp [h1, this]
      · simp [h1]
    · obtain ⟨k, hk, e⟩ := List.mem_map.mp z
      rw [List.mem_range] at hk
      exact h ⟨by omega, by omega⟩
abbrev figs : Str := "0123456789"
theorem figs_is : figs.cps.toList = (List.range 10).map (fun k => 48 + k) := by decide +kernel
theorem mem_figs (c : Nat) : decide (c ∈ figs.cps.toList) = isF c := by
  rw [figs_is]
  unfold isF
  by_cases h : 48 ≤ c ∧ c ≤ 57
  · rw [decide_eq_true (List.mem_map.mpr ⟨c - 48, List.mem_range.mpr (by omega), by omega⟩)]
    simp [h]
  · rw [decide_eq_false fun z => ?_]
    · by_cases h1 : 48 ≤ c
      · have : ¬ c ≤ 57 := fun q => h ⟨h1, q⟩
        simp [h1, this]
      · simp [h1]
    · obtain ⟨k, hk, e⟩ := List.mem_map.mp z
      rw [List.mem_range] at hk
      exact h ⟨by omega, by omega⟩
theorem sigs_is : (Str.ofString "();:=|*").cps.toList = sigs := by decide +kernel
theorem sp_is : (Str.ofString " ") = tx [32] := by rw [tx_of (Str.ofString " ")]; congr 1
theorem minus_is : (Str.ofString "-") = tx [45] := by rw [tx_of (Str.ofString "-")]; congr 1
theorem nought_is : (Str.ofString "0") = tx [48] := by rw [tx_of (Str.ofString "0")]; congr 1
theorem numL_head : ∀ n : Nat, 1 ≤ n → ∃ c r, TL.numL n = c :: r ∧ c ≠ 48 := by
  intro n
  induction n using Nat.strongRecOn with
  | _ n ih =>
    intro h
    by_cases h1 : n < 10
    · rw [TL.numL_lt h1]
      exact ⟨48 + n, [], rfl, by omega⟩
    · rw [TL.numL_step (by omega)]
      obtain ⟨c, r, e, ne⟩ := ih (n / 10) (by omega) (by omega)
      rw [e]
      exact ⟨c, r ++ [48 + n % 10], rfl, ne⟩
theorem numL_zero : TL.numL 0 = [48] := TL.numL_lt (by decide)
theorem numL_isF (n : Nat) : ∀ c ∈ TL.numL n, isF c = true := fun c hc => by
  have := TL.numL_digits n c hc
  unfold isF
  simp [this.1, this.2]
theorem num_tx (n : Nat) : Str.ofString (toString ((n : Nat) : Int)) = tx (TL.numL n) := by
  rw [tx_of (Str.ofString (toString ((n : Nat) : Int)))]
  congr 1
  exact TL.tl_num n
theorem neg_tx (n : Nat) : Str.ofString (toString (Int.negSucc n)) = tx (45 :: TL.numL (n + 1)) := by
  have e : toString (Int.negSucc n) = "-" ++ toString ((n + 1 : Nat) : Int) := rfl
  have h : (toString ((n + 1 : Nat) : Int)).toList.map Char.toNat = TL.numL (n + 1) := by
    have := TL.tl_num (n + 1)
    rw [Str.ofString_eq_toList] at this
    simpa [TL.tl] using this
  rw [e, Str.ofString_eq_toList, String.toList_append, List.map_append, h]
  rfl
theorem inS_abc (c : Nat) : inS c abc = isL c := mem_abc c
theorem inS_figs (c : Nat) : inS c figs = isF c := mem_figs c
theorem inS_sigs (c : Nat) : inS c (Str.ofString "();:=|*") = decide (c ∈ sigs) := by unfold inS; rw [sigs_is]
end Mir
set_option Elab.async false
set_option linter.all false
set_option maxRecDepth 100000
set_option maxHeartbeats 4000000
namespace Mir
open PySem PySem.Spec L2
theorem strOk_tx {l : List Nat} (h : ∀ c ∈ l, c < 1000) : PyData.strOk (tx l) = true := by
  unfold PyData.strOk
  simp only [tx, List.all_toArray, List.all_eq_true, decide_eq_true_eq]
  intro c hc
  have := h c hc
  omega
theorem isL_small {c : Nat} (h : isL c = true) : c < 1000 := by
  unfold isL at h
  simp only [Bool.and_eq_true, decide_eq_true_eq] at h
  omega
theorem log2_lt_of {n k : Nat} (h : n < 2 ^ k) (hk : 0 < k) : n.log2 < k := by
  by_cases e : n = 0
  · subst e; rw [show Nat.log2 0 = 0 from by decide]; exact hk
  · exact (Nat.log2_lt e).mpr h
theorem gStr_nat {n : Nat} (h : n < 2 ^ 1000) : gStr [.int (n : Nat)] = some (.d (.str (tx (TL.numL n)))) := by
  have : (Int.natAbs (n : Int)).log2 < 1920 := by
    rw [Int.natAbs_natCast]
    have := log2_lt_of h (by decide)
    omega
  show (if (Int.natAbs (n : Int)).log2 < 1920 then some (Ow.d (PyData.str (Str.ofString (toString (n : Int))))) else none) = _
  rw [if_pos this, num_tx]
theorem gStr_neg {n : Nat} (h : n + 1 < 2 ^ 1000) : gStr [.int (Int.negSucc n)] = some (.d (.str (tx (45 :: TL.numL (n + 1))))) := by
  have : (Int.negSucc n).natAbs.log2 < 1920 := by
    show (n + 1).log2 < 1920
    have := log2_lt_of h (by decide)
    omega
  show (if (Int.negSucc n).natAbs.log2 < 1920 then some (Ow.d (PyData.str (Str.ofString (toString (Int.negSucc n))))) else none) = _
  rw [if_pos this, neg_tx]
end Mir
set_option Elab.async false
set_option linter.all false
set_option maxRecDepth 100000
set_option maxHeartbeats 4000000
namespace Mir
open PySem PySem.Spec L2

inductive Trm where
  | call (m b : Int)
  | put (nm : Str) (kp : Bool) (ad : Int) (ps : List Trm)
mutual
def encM : Trm → D
  | .call m b => .tuple [.str "call", .int m, .int b]
  | .put nm kp ad ps => .tuple [.str "put", .str nm, .bool kp, .int ad, .tuple (encMs ps)]
def encMs : List Trm → List D
  | [] => []
  | p :: ps => encM p :: encMs ps
end
mutual
def sizeM : Trm → Nat
  | .call _ _ => 1
  | .put _ _ _ ps => 1 + sizeMs ps
def sizeMs : List Trm → Nat
  | [] => 0
  | p :: ps => sizeM p + sizeMs ps
end
mutual
def levM : Trm → Nat
  | .call _ _ => 1
  | .put _ _ _ ps => levMs ps + 1
def levMs : List Trm → Nat
  | [] => 0
  | p :: ps => max (levM p) (levMs ps)
end
mutual
def callsM : Trm → List (Int × Int)
  | .call m b => [(m, b)]
  | .put _ _ _ ps => callsMs ps
def callsMs : List Trm → List (Int × Int)
  | [] => []
  | p :: ps => callsM p ++ callsMs ps
end
mutual
def okM : Trm → Prop
  | .call _ _ => True
  | .put nm _ _ ps => PyData.strOk nm = true ∧ ps.length ≤ 1000 ∧ okMs ps
def okMs : List Trm → Prop
  | [] => True
  | p :: ps => okM p ∧ okMs ps
end
theorem str_eqv (a b : Str) : PyData.eqv (.str a) (.str b) = (a == b) := rfl
theorem gEq_strs (a b : String) : gEq (.str (Str.ofString a)) (.str (Str.ofString b)) = some (.bool (PyData.eqv (.str (Str.ofString a)) (.str (Str.ofString b)))) := rfl
@[simp] theorem gEq_cc : gEq (.str (Str.ofString "call")) (.str (Str.ofString "call")) = some (.bool true) := by
  have h : (Str.ofString "call" == Str.ofString "call") = true := by decide +kernel
  rw [gEq_strs, str_eqv, h]
@[simp] theorem gEq_pc : gEq (.str (Str.ofString "put")) (.str (Str.ofString "call")) = some (.bool false) := by
  have h : (Str.ofString "put" == Str.ofString "call") = false := by decide +kernel
  rw [gEq_strs, str_eqv, h]
@[simp] theorem gEq_cp : gEq (.str (Str.ofString "call")) (.str (Str.ofString "put")) = some (.bool false) := by
  have h : (Str.ofString "call" == Str.ofString "put") = false := by decide +kernel
  rw [gEq_strs, str_eqv, h]
@[simp] theorem gEq_pp : gEq (.str (Str.ofString "put")) (.str (Str.ofString "put")) = some (.bool true) := by
  have h : (Str.ofString "put" == Str.ofString "put") = true := by decide +kernel
  rw [gEq_strs, str_eqv, h]
theorem forL_map {α : Type} {g : D → Ev → Option Ev} {f : Ev → SR} (enc : α → D) (xs : List α) (I : Nat → Ev → Prop) (step : ∀ i a env, xs[i]? = some a → I i env → ∃ env1, g (enc a) env = some env1 ∧ ∃ env2, (f env1 = .nx env2 ∨ f env1 = .ct env2) ∧ I (i + 1) env2) (env : Ev) (h : I 0 env) : ∃ env', forL g f (xs.map enc) env = .nx env' ∧ I xs.length env' := by
  have := forL_ind (g := g) (f := f) (xs.map enc) I (fun i d env hd hi => by
    obtain ⟨a, ha, rfl⟩ := map_at hd
    exact step i a env ha hi) env h
  rwa [List.length_map] at this
noncomputable section
def encC (c : Int × Int) : D := .tuple [.int c.1, .int c.2]
abbrev encCs (cs : List (Int × Int)) : Ow := .l (cs.map fun c => .d (encC c))
end
end Mir
set_option Elab.async false
set_option linter.all false
set_option maxRecDepth 100000
set_option maxHeartbeats 4000000
namespace Mir
open PySem PySem.Spec L2

def mar : Tr → Int
  | .mk _ k _ => k

end Mir
set_option Elab.async false
set_option linter.all false
set_option maxRecDepth 100000
set_option maxHeartbeats 4000000
namespace Mir
open PySem PySem.Spec L2
def ik : Int → List Nat
  | .ofNat n => TL.numL n
  | .negSucc n => 45 :: TL.numL (n + 1)
theorem gStr_ik {k : Int} (h : k.natAbs < 2 ^ 1000) : gStr [.int k] = some (.d (.str (tx (ik k)))) := by
  cases k with
  | ofNat n => exact gStr_nat h
  | negSucc n => exact gStr_neg h
theorem ik_len {k : Int} (h : k.natAbs < 10 ^ 60) : (ik k).length ≤ 61 := by
  cases k with
  | ofNat n => have := TL.numL_len (n := n) (k := 60) (by decide) h; show (TL.numL n).length ≤ 61; omega
  | negSucc n => have := TL.numL_len (n := n + 1) (k := 60) (by decide) h; show (45 :: TL.numL (n + 1)).length ≤ 61; simp; omega
/-- a tree laid out: name, mark, blanks ahead of its mark (where it is told), ahead of (, behind it, between, ahead of ) -/
inductive LN where
  | mk (nm : List Nat) (k : Int) (mb : Option Nat) (o i g c : Nat) (bs : List LN)
def brk (o c : Nat) : List (Nat × List Nat) → List (Nat × List Nat)
  | [] => []
  | s :: ss => (o, [40]) :: (s :: ss ++ [(c, [41])])
end Mir
set_option Elab.async false
set_option linter.all false
set_option maxRecDepth 100000
set_option maxHeartbeats 4000000
namespace Mir
open PySem PySem.Spec L2
abbrev Wo := List Nat
open Classical in
noncomputable section
end
end Mir
set_option Elab.async false
set_option linter.all false
set_option maxRecDepth 100000
set_option maxHeartbeats 4000000
namespace Mir
open PySem PySem.Spec L2
def glue (s : List Nat) : List (List Nat) → List Nat
  | [] => []
  | a :: r => a ++ (r.map fun b => s ++ b).flatten
theorem foldl_glue (s : List Nat) : ∀ (r : List (List Nat)) (a : Array Nat), (r.map tx).foldl (fun acc p => acc ++ (tx s).cps ++ p.cps) a = ⟨a.toList ++ (r.map fun b => s ++ b).flatten⟩
  | [], a => by simp
  | b :: r, a => by
    rw [List.map_cons, List.foldl_cons, foldl_glue s r]
    simp [tx]
theorem join_tx (s : List Nat) (l : List (List Nat)) : Txt.join (tx s) (l.map tx) = tx (glue s l) := by
  show Builtin.Str.glued _ _ = _
  rw [PySem.StrLaws.glued_eq_join]
  cases l with
  | nil => rfl
  | cons a r =>
    rw [List.map_cons, ← PySem.StrLaws.glued_cons, foldl_glue]
    simp [glue, tx]
theorem sum_len (l : List (List Nat)) : ((l.map tx).map fun x : Str => x.length).sum = (l.map List.length).sum := by
  rw [List.map_map]
  congr 1
theorem gJoin_tx (s : List Nat) (l : List (List Nat)) (h : (l.map List.length).sum + l.length * s.length ≤ 16777216) : gJoin (.str (tx s)) (.list (l.map fun w => .str (tx w))) = some (.str (tx (glue s l))) := by
  have e : (l.map fun w => PyData.str (tx w)) = (l.map tx).map PyData.str := by rw [List.map_map]; rfl
  rw [e, gJoin_list (by rw [sum_len, List.length_map, tx_len]; exact h), join_tx]
end Mir
set_option Elab.async false
set_option linter.all false
set_option maxRecDepth 100000
set_option maxHeartbeats 4000000
namespace Mir
open PySem PySem.Spec L2

abbrev dkD (dk : List Int) : D := .list (dk.map PyData.int)
/-- what a deck's def tells: r, and the deck behind it -/
abbrev tells (r : D) (dk : List Int) : R Ow := .ok (.d (.tuple [r, dkD dk]))
noncomputable section
/-- a def that draws a number below most -/
def Draws (fd : List D → R Ow) : Prop := ∀ (dk : List Int) (most : Int), 0 < most → ∃ r dk', 0 ≤ r ∧ r < most ∧ fd (dkD dk :: [.int most]) = tells (.int r) dk'
end
end Mir
set_option Elab.async false
set_option linter.all false
set_option maxRecDepth 100000
set_option maxHeartbeats 4000000
namespace Mir
open PySem PySem.Spec L2
noncomputable section
def Names (fn : List D → R Ow) (code : Int) (most : Int) : Prop := ∀ k : Int, 0 ≤ k → k < most → ∃ w : List Nat, fn [.int code, .int k] = .ok (.d (.str (tx w))) ∧ ∀ c ∈ w, isL c = true
end
end Mir
set_option Elab.async false
set_option linter.all false
set_option maxRecDepth 100000
set_option maxHeartbeats 4000000
namespace Mir
open PySem PySem.Spec L2

inductive Stp where
  | op
  | put (nm : Str) (k : Int) (ps : List Stp)
mutual
def encS : Stp → D
  | .op => .tuple [.str "open"]
  | .put nm k ps => .tuple [.str "put", .str nm, .int k, .tuple (encSs ps)]
def encSs : List Stp → List D
  | [] => []
  | p :: ps => encS p :: encSs ps
end

@[simp] theorem gNe_str (a b : Str) : gNe (.str a) (.str b) = some (.bool (!(a == b))) := rfl
@[simp] theorem gEq_oo : gEq (.str (Str.ofString "open")) (.str (Str.ofString "open")) = some (.bool true) := by
  have h : (Str.ofString "open" == Str.ofString "open") = true := by decide +kernel
  rw [gEq_strs, str_eqv, h]
@[simp] theorem gEq_po : gEq (.str (Str.ofString "put")) (.str (Str.ofString "open")) = some (.bool false) := by
  have h : (Str.ofString "put" == Str.ofString "open") = false := by decide +kernel
  rw [gEq_strs, str_eqv, h]
@[simp] theorem gIsi_str_str (z : Str) : gIsi "str" (.str z) = .ok (.bool true) := rfl
@[simp] theorem gIsi_bool_bool (b : Bool) : gIsi "bool" (.bool b) = .ok (.bool true) := rfl
section
variable (nm : Str) (k : Int) (ps : List Stp) (bs : List Tr)
end
noncomputable section
end
end Mir
set_option Elab.async false
set_option linter.all false
set_option maxRecDepth 100000
set_option maxHeartbeats 4000000
namespace Mir
open PySem PySem.Spec L2
noncomputable section
end
end Mir
set_option Elab.async false
set_option linter.all false
set_option maxRecDepth 100000
set_option maxHeartbeats 4000000
namespace Mir
open PySem PySem.Spec L2
mutual
def met : Stp → Stp → Stp
  | .op, _ => .op
  | .put nm k ps, o => match o with
    | .op => .op
    | .put nm' k' qs => bif (nm == nm') && ((k == k') && (ps.length == qs.length)) then .put nm k (mets ps qs) else .op
def mets : List Stp → List Stp → List Stp
  | [], _ => []
  | p :: ps, qs => match qs with
    | [] => []
    | q :: qs => met p q :: mets ps qs
end
theorem met_op (o : Stp) : met .op o = .op := by rw [met]
theorem met_op2 (s : Stp) : met s .op = .op := by cases s <;> rw [met]
theorem met_put (nm nm' : Str) (k k' : Int) (ps qs : List Stp) : met (.put nm k ps) (.put nm' k' qs) = bif (nm == nm') && ((k == k') && (ps.length == qs.length)) then .put nm k (mets ps qs) else .op := by rw [met]
theorem met_same (nm : Str) (k : Int) {ps qs : List Stp} (h : ps.length = qs.length) : met (.put nm k ps) (.put nm k qs) = .put nm k (mets ps qs) := by
  rw [met_put]
  simp [h]
theorem met_unlike {nm nm' : Str} {k k' : Int} {ps qs : List Stp} (h : ¬ (nm = nm' ∧ k = k' ∧ ps.length = qs.length)) : met (.put nm k ps) (.put nm' k' qs) = .op := by
  rw [met_put]
  have : ((nm == nm') && ((k == k') && (ps.length == qs.length))) = false := by
    rw [Bool.eq_false_iff]
    intro c
    apply h
    simpa using c
  rw [this]
  rfl
theorem mets_nil (qs : List Stp) : mets [] qs = [] := by rw [mets]
theorem mets_nil2 (ps : List Stp) : mets ps [] = [] := by cases ps <;> rw [mets]
theorem mets_cons (p q : Stp) (ps qs : List Stp) : mets (p :: ps) (q :: qs) = met p q :: mets ps qs := by rw [mets]
theorem mets_zip : ∀ ps qs : List Stp, mets ps qs = List.zipWith met ps qs
  | [], qs => by rw [mets_nil]; rfl
  | p :: ps, [] => by rw [mets_nil2]; rfl
  | p :: ps, q :: qs => by rw [mets_cons, mets_zip ps qs]; rfl
theorem mets_len : ∀ ps qs : List Stp, (mets ps qs).length = min ps.length qs.length := fun ps qs => by rw [mets_zip, List.length_zipWith]
mutual
theorem met_comm : ∀ a b : Stp, met a b = met b a
  | .op, b => by rw [met_op, met_op2]
  | .put nm k ps, .op => by rw [met_op, met_op2]
  | .put nm k ps, .put nm' k' qs => by
    by_cases h : nm = nm' ∧ k = k' ∧ ps.length = qs.length
    · obtain ⟨rfl, rfl, h⟩ := h
      rw [met_same _ _ h, met_same _ _ h.symm, mets_comm ps qs]
    · rw [met_unlike h, met_unlike fun c => h ⟨c.1.symm, c.2.1.symm, c.2.2.symm⟩]
theorem mets_comm : ∀ as bs : List Stp, mets as bs = mets bs as
  | [], bs => by rw [mets_nil, mets_nil2]
  | a :: as, [] => by rw [mets_nil, mets_nil2]
  | a :: as, b :: bs => by rw [mets_cons, mets_cons, met_comm a b, mets_comm as bs]
end
mutual
theorem met_self : ∀ a : Stp, met a a = a
  | .op => by rw [met_op]
  | .put nm k ps => by rw [met_same _ _ rfl, mets_self ps]
theorem mets_self : ∀ as : List Stp, mets as as = as
  | [] => by rw [mets_nil]
  | a :: as => by rw [mets_cons, met_self a, mets_self as]
end
mutual
theorem met_assoc : ∀ a b c : Stp, met (met a b) c = met a (met b c)
  | .op, b, c => by rw [met_op, met_op, met_op]
  | .put nm k ps, .op, c => by rw [met_op2, met_op, met_op2]
  | .put nm k ps, .put nm' k' qs, .op => by rw [met_op2, met_op2, met_op2]
  | .put nm k ps, .put nm' k' qs, .put nm'' k'' rs => by
    by_cases h : nm = nm' ∧ k = k' ∧ ps.length = qs.length
    · obtain ⟨rfl, rfl, h⟩ := h
      rw [met_same _ _ h]
      by_cases g : nm = nm'' ∧ k = k'' ∧ qs.length = rs.length
      · obtain ⟨rfl, rfl, g⟩ := g
        rw [met_same _ _ g, met_same _ _ (by rw [mets_len]; omega), met_same _ _ (by rw [mets_len]; omega), mets_assoc ps qs rs]
      · rw [met_unlike (ps := qs) g, met_op2, met_unlike fun c => g ⟨c.1, c.2.1, by have := c.2.2; rw [mets_len] at this; omega⟩]
    · rw [met_unlike h, met_op]
      by_cases g : nm' = nm'' ∧ k' = k'' ∧ qs.length = rs.length
      · obtain ⟨rfl, rfl, g⟩ := g
        rw [met_same _ _ g, met_unlike fun c => h ⟨c.1, c.2.1, by have := c.2.2; rw [mets_len] at this; omega⟩]
      · rw [met_unlike g, met_op2]
theorem mets_assoc : ∀ as bs cs : List Stp, mets (mets as bs) cs = mets as (mets bs cs)
  | [], bs, cs => by rw [mets_nil, mets_nil, mets_nil]
  | a :: as, [], cs => by rw [mets_nil2, mets_nil, mets_nil2]
  | a :: as, b :: bs, [] => by rw [mets_nil2, mets_nil2, mets_nil2]
  | a :: as, b :: bs, c :: cs => by rw [mets_cons, mets_cons, mets_cons, mets_cons, met_assoc a b c, mets_assoc as bs cs]
end
theorem met_met (a b : Stp) : met (met a b) a = met a b := by rw [met_comm (met a b) a, ← met_assoc, met_self]
noncomputable section
end
end Mir
set_option Elab.async false
set_option linter.all false
set_option maxRecDepth 100000
set_option maxHeartbeats 4000000
namespace Mir
open PySem PySem.Spec L2
mutual
def stIn (ss : List Stp) : Trm → Stp
  | .call m _ => ss.getD m.toNat .op
  | .put nm kp ad ps => bif kp then .op else .put nm ad (stIns ss ps)
def stIns (ss : List Stp) : List Trm → List Stp
  | [] => []
  | p :: ps => stIn ss p :: stIns ss ps
end
theorem stIns_map (ss : List Stp) : ∀ ps : List Trm, stIns ss ps = ps.map (stIn ss)
  | [] => by rw [stIns]; rfl
  | p :: ps => by rw [stIns, stIns_map ss ps]; rfl
def metOf : List Stp → Stp
  | [] => .op
  | s :: ss => ss.foldl met s
/-- the one tells no more than the other -/
def leS (a b : Stp) : Prop := met a b = a
theorem leS_refl (a : Stp) : leS a a := met_self a
theorem leS_trans {a b c : Stp} (h : leS a b) (g : leS b c) : leS a c := by
  unfold leS at *
  rw [← h, met_assoc, g]
theorem leS_left (a b : Stp) : leS (met a b) a := met_met a b
theorem leS_right (a b : Stp) : leS (met a b) b := by
  unfold leS
  rw [met_assoc, met_self]
theorem leS_glb {y a b : Stp} (h : leS y a) (g : leS y b) : leS y (met a b) := by
  unfold leS at *
  rw [← met_assoc, h, g]
theorem foldl_le : ∀ (ss : List Stp) (s : Stp), leS (ss.foldl met s) s ∧ ∀ x ∈ ss, leS (ss.foldl met s) x
  | [], s => ⟨leS_refl s, fun x h => by cases h⟩
  | a :: ss, s => by
    rw [List.foldl_cons]
    obtain ⟨h1, h2⟩ := foldl_le ss (met s a)
    refine ⟨leS_trans h1 (leS_left s a), fun x hx => ?_⟩
    rcases List.mem_cons.mp hx with rfl | hx
    · exact leS_trans h1 (leS_right s x)
    · exact h2 x hx
theorem foldl_glb {y : Stp} : ∀ (ss : List Stp) (s : Stp), leS y s → (∀ x ∈ ss, leS y x) → leS y (ss.foldl met s)
  | [], s, h, _ => h
  | a :: ss, s, h, k => by
    rw [List.foldl_cons]
    exact foldl_glb ss (met s a) (leS_glb h (k a List.mem_cons_self)) fun x hx => k x (List.mem_cons_of_mem _ hx)
theorem metOf_le {l : List Stp} {x : Stp} (h : x ∈ l) : leS (metOf l) x := by
  cases l with
  | nil => cases h
  | cons s ss =>
    obtain ⟨h1, h2⟩ := foldl_le ss s
    rcases List.mem_cons.mp h with rfl | h
    · exact h1
    · exact h2 x h
theorem metOf_glb {y : Stp} {l : List Stp} (hl : l ≠ []) (h : ∀ x ∈ l, leS y x) : leS y (metOf l) := by
  cases l with
  | nil => exact absurd rfl hl
  | cons s ss => exact foldl_glb ss s (h s List.mem_cons_self) fun x hx => h x (List.mem_cons_of_mem _ hx)
mutual
def cS : Stp → Nat
  | .op => 0
  | .put _ _ ps => cSs ps + 1
def cSs : List Stp → Nat
  | [] => 0
  | p :: ps => cS p + cSs ps
end
theorem cS_zero {s : Stp} (h : cS s = 0) : s = .op := by
  cases s with
  | op => rfl
  | put nm k ps => rw [cS] at h; omega
mutual
theorem c_met : ∀ a b : Stp, cS (met a b) ≤ cS b ∧ (cS (met a b) = cS b → met a b = b)
  | .op, b => by
    rw [met_op, cS]
    exact ⟨Nat.zero_le _, fun h => (cS_zero h.symm).symm⟩
  | .put nm k ps, .op => by
    rw [met_op2, cS]
    exact ⟨Nat.le_refl _, fun _ => rfl⟩
  | .put nm k ps, .put nm' k' qs => by
    by_cases h : nm = nm' ∧ k = k' ∧ ps.length = qs.length
    · obtain ⟨rfl, rfl, h⟩ := h
      obtain ⟨h1, h2⟩ := cs_mets ps qs h
      rw [met_same _ _ h, cS, cS]
      exact ⟨by omega, fun e => by rw [h2 (by omega)]⟩
    · rw [met_unlike h, cS, cS]
      exact ⟨by omega, fun e => by omega⟩
theorem cs_mets : ∀ as bs : List Stp, as.length = bs.length → cSs (mets as bs) ≤ cSs bs ∧ (cSs (mets as bs) = cSs bs → mets as bs = bs)
  | [], [], _ => by rw [mets_nil]; exact ⟨Nat.le_refl _, fun _ => rfl⟩
  | [], _ :: _, h => by simp at h
  | _ :: _, [], h => by simp at h
  | a :: as, b :: bs, h => by
    obtain ⟨h1, h2⟩ := c_met a b
    obtain ⟨g1, g2⟩ := cs_mets as bs (by simpa using h)
    rw [mets_cons, cSs, cSs]
    exact ⟨by omega, fun e => by rw [h2 (by omega), g2 (by omega)]⟩
end
theorem leS_c {a b : Stp} (h : leS a b) : cS a ≤ cS b ∧ (cS a = cS b → a = b) := by
  have := c_met a b
  rw [h] at this
  exact this
def leT : List Stp → List Stp → Prop
  | [], [] => True
  | a :: as, b :: bs => leS a b ∧ leT as bs
  | _, _ => False
theorem leT_at : ∀ {as bs : List Stp}, leT as bs → ∀ k, leS (as.getD k .op) (bs.getD k .op)
  | [], [], _, k => leS_refl _
  | a :: as, b :: bs, h, 0 => h.1
  | a :: as, b :: bs, h, k + 1 => leT_at h.2 k
  | [], _ :: _, h, _ => h.elim
  | _ :: _, [], h, _ => h.elim
theorem leT_map {α : Type} {f g : α → Stp} : ∀ {l : List α}, (∀ x ∈ l, leS (f x) (g x)) → leT (l.map f) (l.map g)
  | [], _ => trivial
  | x :: l, h => ⟨h x List.mem_cons_self, leT_map fun y hy => h y (List.mem_cons_of_mem _ hy)⟩
theorem leT_c : ∀ {as bs : List Stp}, leT as bs → cSs as ≤ cSs bs ∧ (cSs as = cSs bs → as = bs)
  | [], [], _ => ⟨Nat.le_refl _, fun _ => rfl⟩
  | a :: as, b :: bs, h => by
    obtain ⟨h1, h2⟩ := leS_c h.1
    obtain ⟨g1, g2⟩ := leT_c h.2
    rw [cSs, cSs]
    exact ⟨by omega, fun e => by rw [h2 (by omega), g2 (by omega)]⟩
  | [], _ :: _, h => h.elim
  | _ :: _, [], h => h.elim
mutual
theorem stIn_mono {as bs : List Stp} (h : leT as bs) : ∀ t : Trm, leS (stIn as t) (stIn bs t)
  | .call m b => by rw [stIn, stIn]; exact leT_at h _
  | .put nm kp ad ps => by
    rw [stIn, stIn]
    cases kp with
    | true => exact leS_refl _
    | false =>
      show met (.put nm ad _) (.put nm ad _) = _
      rw [met_same _ _ (by rw [stIns_map, stIns_map, List.length_map, List.length_map]), stIns_mono h ps]
      rfl
theorem stIns_mono {as bs : List Stp} (h : leT as bs) : ∀ ps : List Trm, mets (stIns as ps) (stIns bs ps) = stIns as ps
  | [] => by rw [stIns, mets_nil]
  | p :: ps => by rw [stIns, stIns, mets_cons, stIn_mono h p, stIns_mono h ps]
end
mutual
theorem stIn_calm (as bs : List Stp) : ∀ t : Trm, callsM t = [] → stIn as t = stIn bs t
  | .call m b, h => by rw [callsM] at h; cases h
  | .put nm kp ad ps, h => by
    rw [callsM] at h
    rw [stIn, stIn, stIns_calm as bs ps h]
theorem stIns_calm (as bs : List Stp) : ∀ ps : List Trm, callsMs ps = [] → stIns as ps = stIns bs ps
  | [], _ => by rw [stIns, stIns]
  | p :: ps, h => by
    rw [callsMs, List.append_eq_nil_iff] at h
    rw [stIns, stIns, stIn_calm as bs p h.1, stIns_calm as bs ps h.2]
end
/-- a mode: its rules, and which of them are those of rows without branches -/
structure Md where
  kd : Str
  rls : List (Bool × Trm)
def bares (m : Md) : List Trm := (m.rls.filter (·.1)).map (·.2)
def rulesM (m : Md) : List Trm := m.rls.map (·.2)
def MdOk (m : Md) : Prop := bares m ≠ [] ∧ ∀ t ∈ bares m, callsM t = []
def tab0 (ms : List Md) : List Stp := ms.map fun m => metOf ((bares m).map (stIn []))
def tabN (ms : List Md) (ss : List Stp) : List Stp := ms.map fun m => metOf ((rulesM m).map (stIn ss))
def tab (ms : List Md) : Nat → List Stp
  | 0 => tab0 ms
  | n + 1 => tabN ms (tab ms n)
theorem tabN_mono (ms : List Md) (hm : ∀ m ∈ ms, MdOk m) {as bs : List Stp} (h : leT as bs) : leT (tabN ms as) (tabN ms bs) := by
  refine leT_map fun m hmm => ?_
  have ne : rulesM m ≠ [] := by
    have := (hm m hmm).1
    intro e
    apply this
    unfold bares
    have : m.rls = [] := by unfold rulesM at e; simpa using e
    rw [this]; rfl
  refine metOf_glb (by simpa using ne) fun x hx => ?_
  obtain ⟨t, ht, rfl⟩ := List.mem_map.mp hx
  exact leS_trans (metOf_le (List.mem_map_of_mem ht)) (stIn_mono h t)
theorem tab_first (ms : List Md) (hm : ∀ m ∈ ms, MdOk m) : leT (tab ms 1) (tab ms 0) := by
  refine leT_map fun m hmm => ?_
  obtain ⟨h1, h2⟩ := hm m hmm
  refine metOf_glb (by simpa using h1) fun x hx => ?_
  obtain ⟨t, ht, rfl⟩ := List.mem_map.mp hx
  rw [stIn_calm [] (tab ms 0) t (h2 t ht)]
  refine metOf_le (List.mem_map_of_mem ?_)
  unfold bares at ht
  obtain ⟨p, hp, rfl⟩ := List.mem_map.mp ht
  exact List.mem_map_of_mem (List.mem_filter.mp hp).1
theorem tab_down (ms : List Md) (hm : ∀ m ∈ ms, MdOk m) : ∀ n, leT (tab ms (n + 1)) (tab ms n)
  | 0 => tab_first ms hm
  | n + 1 => tabN_mono ms hm (tab_down ms hm n)
theorem tab_stop (ms : List Md) (hm : ∀ m ∈ ms, MdOk m) : ∃ N, N ≤ cSs (tab ms 0) ∧ tab ms (N + 1) = tab ms N ∧ ∀ i, i < N → tab ms (i + 1) ≠ tab ms i := by
  have step : ∀ n, (∀ i, i < n → tab ms (i + 1) ≠ tab ms i) → cSs (tab ms n) + n ≤ cSs (tab ms 0) := fun n => by
    induction n with
    | zero => intro _; omega
    | succ n ih =>
      intro h
      have a := ih fun i hi => h i (by omega)
      obtain ⟨b, c⟩ := leT_c (tab_down ms hm n)
      have : cSs (tab ms (n + 1)) ≠ cSs (tab ms n) := fun e => h n (by omega) (c e)
      omega
  have ex : ∃ n, tab ms (n + 1) = tab ms n := by
    refine Classical.byContradiction fun no => ?_
    have := step (cSs (tab ms 0) + 1) fun i _ e => no ⟨i, e⟩
    omega
  have least : ∀ n, tab ms (n + 1) = tab ms n → ∃ N, tab ms (N + 1) = tab ms N ∧ ∀ i, i < N → tab ms (i + 1) ≠ tab ms i := fun n => by
    induction n using Nat.strongRecOn with
    | ind n ih =>
      intro h
      by_cases c : ∃ i, i < n ∧ tab ms (i + 1) = tab ms i
      · obtain ⟨i, hi, e⟩ := c
        exact ih i hi e
      · exact ⟨n, h, fun i hi e => c ⟨i, hi, e⟩⟩
  obtain ⟨n, hn⟩ := ex
  obtain ⟨N, h1, h2⟩ := least n hn
  refine ⟨N, ?_, h1, h2⟩
  have := step N h2
  omega
/-- what the tables' stumps are like -/
theorem tab_len (ms : List Md) : ∀ n, (tab ms n).length = ms.length
  | 0 => by show (ms.map _).length = _; rw [List.length_map]
  | n + 1 => by show (ms.map _).length = _; rw [List.length_map]
end Mir
set_option Elab.async false
set_option linter.all false
set_option maxRecDepth 100000
set_option maxHeartbeats 4000000
namespace Mir
open PySem PySem.Spec L2
structure Rw where
  nm : Str
  br : List Str
abbrev Wood := List (Str × List Rw)
def encRw (r : Rw) : D := .tuple [.str r.nm, .tuple (r.br.map PyData.str)]
def encKd (p : Str × List Rw) : D := .tuple [.str p.1, .list (p.2.map encRw)]
def encWd (w : Wood) : D := .list (w.map encKd)
structure Trn where
  wood : Wood
  start : Trm
  modes : List (Str × List Trm)
def encMo (p : Str × List Trm) : D := .tuple [.str p.1, .list (p.2.map encM)]
def encTn (t : Trn) : D := .tuple [encWd t.wood, encM t.start, .list (t.modes.map encMo)]
def rowsOf : Wood → Str → List Rw
  | [], _ => []
  | p :: w, k => bif p.1 == k then p.2 else rowsOf w k
def mdOf (w : Wood) (p : Str × List Trm) : Md := ⟨p.1, List.zipWith (fun (r : Rw) t => (r.br.isEmpty, t)) (rowsOf w p.1) p.2⟩
def mds (t : Trn) : List Md := t.modes.map (mdOf t.wood)
/-- a turning that the drawing makes -/
structure TnOk (t : Trn) : Prop where
  few : t.modes.length ≤ 100
  few1 : 1 ≤ t.modes.length
  rows : ∀ p ∈ t.modes, p.2.length = (rowsOf t.wood p.1).length ∧ p.2.length ≤ 100
  bare : ∀ p ∈ t.modes, MdOk (mdOf t.wood p)
  term : ∀ p ∈ t.modes, ∀ r ∈ p.2, okM r ∧ levM r ≤ 10 ∧ sizeM r ≤ 1000 ∧ ∀ c ∈ callsM r, 0 ≤ c.1 ∧ c.1 < t.modes.length
  names : (∀ p ∈ t.wood, PyData.strOk p.1 = true ∧ p.2.length ≤ 100 ∧ ∀ r ∈ p.2, PyData.strOk r.nm = true ∧ r.br.length ≤ 100 ∧ ∀ b ∈ r.br, PyData.strOk b = true)
  kinds : t.wood.length ≤ 100
  start : okM t.start ∧ levM t.start ≤ 10
noncomputable section
section
variable (nm : Str) (kp : Bool) (ad : Int) (ps : List Trm) (m b : Int)
end
def stD (ss : List Stp) : D := .list (ss.map encS)
end
end Mir
set_option Elab.async false
set_option linter.all false
set_option maxRecDepth 100000
set_option maxHeartbeats 4000000
namespace Mir
open PySem PySem.Spec L2
theorem seq_nx {f g : Ev → SR} {env env1 : Ev} {r : SR} (h1 : f env = .nx env1) (h2 : g env1 = r) : sSeq f g env = r := by
  rw [sSeq_eq, h1]
  exact h2
noncomputable section
theorem bares_zip (w : Wood) (p : Str × List Trm) : bares (mdOf w p) = (((rowsOf w p.1).zip p.2).filter fun q => q.1.br.isEmpty).map (·.2) := by
  unfold bares mdOf
  show ((List.zipWith (fun (r : Rw) t => (r.br.isEmpty, t)) (rowsOf w p.1) p.2).filter (·.1)).map (·.2) = _
  generalize rowsOf w p.1 = rs
  generalize p.2 = ts
  induction rs generalizing ts with
  | nil => rfl
  | cons r rs ih =>
    cases ts with
    | nil => rfl
    | cons t ts =>
      rw [List.zipWith_cons_cons, List.zip_cons_cons]
      cases c : r.br.isEmpty with
      | true =>
        rw [List.filter_cons_of_pos (by simp [c]), List.filter_cons_of_pos (by simp [c]), List.map_cons, List.map_cons, ih ts]
      | false =>
        rw [List.filter_cons_of_neg (by simp [c]), List.filter_cons_of_neg (by simp [c]), ih ts]
/-- what the parts promise -/
structure Parts (t : Trn) (f1 f2 f3 : List D → R Ow) : Prop where
  rows : ∀ p ∈ t.modes, ∃ o, f1 [encWd t.wood, .str p.1] = .ok o ∧ viewD o = .list ((rowsOf t.wood p.1).map encRw)
  bare : ∀ p ∈ t.modes, ∀ r ∈ p.2, callsM r = [] → f2 [encM r, .list []] = .ok (.d (encS (stIn [] r)))
  stump : ∀ p ∈ t.modes, ∀ r ∈ p.2, ∀ ss : List Stp, ss.length = t.modes.length → f2 [encM r, stD ss] = .ok (.d (encS (stIn ss r)))
  met0 : ∀ p ∈ t.modes, f3 [stD ((bares (mdOf t.wood p)).map (stIn []))] = .ok (.d (encS (metOf ((bares (mdOf t.wood p)).map (stIn [])))))
  metN : ∀ p ∈ t.modes, ∀ n : Nat, f3 [stD (p.2.map (stIn (tab (mds t) n)))] = .ok (.d (encS (metOf (p.2.map (stIn (tab (mds t) n))))))
end
end Mir
set_option Elab.async false
set_option linter.all false
set_option maxRecDepth 100000
set_option maxHeartbeats 4000000
namespace Mir
open PySem PySem.Spec L2
mutual
theorem stIn_c : ∀ t : Trm, cS (stIn [] t) ≤ sizeM t
  | .call m b => by
    rw [stIn, sizeM]
    show cS .op ≤ 1
    rw [cS]; omega
  | .put nm kp ad ps => by
    rw [stIn, sizeM]
    cases kp with
    | true => show cS .op ≤ _; rw [cS]; omega
    | false =>
      show cS (.put nm ad _) ≤ _
      rw [cS]
      have := stIns_c ps
      omega
theorem stIns_c : ∀ ps : List Trm, cSs (stIns [] ps) ≤ sizeMs ps
  | [] => by rw [stIns, cSs]; omega
  | p :: ps => by
    rw [stIns, sizeMs, cSs]
    have := stIn_c p
    have := stIns_c ps
    omega
end
theorem bares_in {w : Wood} {p : Str × List Trm} : ∀ r ∈ bares (mdOf w p), r ∈ p.2 := fun r hr => by
  rw [bares_zip] at hr
  obtain ⟨q, hq, rfl⟩ := List.mem_map.mp hr
  exact (List.of_mem_zip (List.mem_filter.mp hq).1).2
theorem mds_ok {t : Trn} (ok : TnOk t) : ∀ m ∈ mds t, MdOk m := fun m hm => by
  obtain ⟨p, hp, rfl⟩ := List.mem_map.mp hm
  exact ok.bare p hp
theorem cSs_le {n : Nat} : ∀ {ss : List Stp}, (∀ s ∈ ss, cS s ≤ n) → cSs ss ≤ n * ss.length
  | [], _ => by rw [cSs]; omega
  | s :: ss, h => by
    rw [cSs, List.length_cons, Nat.mul_succ]
    have := h s List.mem_cons_self
    have := cSs_le (n := n) (ss := ss) fun x hx => h x (List.mem_cons_of_mem _ hx)
    omega
noncomputable section
end
end Mir
set_option Elab.async false
set_option linter.all false
set_option maxRecDepth 100000
set_option maxHeartbeats 4000000
namespace Mir
open PySem PySem.Spec L2
noncomputable section
def encCl (c : Int × Int) : D := .tuple [.int c.1, .int c.2]
def caD (cs : List (Int × Int)) : D := .list (cs.map encCl)
mutual
def thinM : Trm → Prop
  | .call _ _ => True
  | .put _ _ _ ps => ps.length ≤ 3 ∧ thinMs ps
def thinMs : List Trm → Prop
  | [] => True
  | p :: ps => thinM p ∧ thinMs ps
end
/-- two parts of one level less, or three of two levels less -/
def fitS : Nat → Trm → Prop
  | _, .call _ _ => True
  | 0, .put _ _ _ ps => ps = []
  | 1, .put _ _ _ ps => ps.length ≤ 3 ∧ ∀ p ∈ ps, fitS 0 p
  | n + 2, .put _ _ _ ps => (ps.length ≤ 2 ∧ ∀ p ∈ ps, fitS (n + 1) p) ∨ (ps.length ≤ 3 ∧ ∀ p ∈ ps, fitS n p)
theorem sizeMs_le' {n m : Nat} : ∀ {bs : List Trm}, bs.length ≤ n → (∀ b ∈ bs, sizeM b ≤ m) → sizeMs bs ≤ n * m
  | [], _, _ => by rw [sizeMs]; omega
  | b :: bs, hl, h => by
    rw [sizeMs]
    obtain ⟨k, rfl⟩ : ∃ k, n = k + 1 := ⟨n - 1, by simp at hl; omega⟩
    have := sizeMs_le' (n := k) (m := m) (bs := bs) (by simp at hl; omega) fun c hc => h c (List.mem_cons_of_mem _ hc)
    have := h b List.mem_cons_self
    rw [Nat.add_mul]
    omega
theorem fitS_0 {t : Trm} (h : fitS 0 t) : sizeM t ≤ 1 := by
  cases t with
  | call m b => rw [sizeM]; omega
  | put nm kp ad ps => rw [fitS] at h; rw [h, sizeM, sizeMs]; omega
theorem fitS_1 {t : Trm} (h : fitS 1 t) : sizeM t ≤ 4 := by
  cases t with
  | call m b => rw [sizeM]; omega
  | put nm kp ad ps =>
    rw [fitS] at h
    have := sizeMs_le' h.1 fun p hp => fitS_0 (h.2 p hp)
    rw [sizeM]
    omega
theorem fitS_2 {t : Trm} (h : fitS 2 t) : sizeM t ≤ 9 := by
  cases t with
  | call m b => rw [sizeM]; omega
  | put nm kp ad ps =>
    rw [fitS] at h
    rw [sizeM]
    rcases h with h | h
    · have := sizeMs_le' h.1 fun p hp => fitS_1 (h.2 p hp)
      omega
    · have := sizeMs_le' h.1 fun p hp => fitS_0 (h.2 p hp)
      omega
def TermIn (cs : List (Int × Int)) (n : Nat) (t : Trm) : Prop := okM t ∧ levM t ≤ n + 1 ∧ fitS n t ∧ (∀ c ∈ callsM t, c ∈ cs) ∧ thinM t
end
end Mir
set_option Elab.async false
set_option linter.all false
set_option maxRecDepth 100000
set_option maxHeartbeats 4000000
namespace Mir
open PySem PySem.Spec L2
noncomputable section
def CallOk (ks bs : List Str) (c : Int × Int) : Prop := ∃ i j : Nat, c = ((i : Int), (j : Int)) ∧ ∃ z, ks[i]? = some z ∧ bs[j]? = some z
def caO (cs : List (Int × Int)) : Ow := .l (cs.map fun c => .d (encCl c))
mutual
def bareM : Trm → Trm
  | .call m b => .call m b
  | .put nm _ ad ps => .put nm false ad (bareMs ps)
def bareMs : List Trm → List Trm
  | [] => []
  | p :: ps => bareM p :: bareMs ps
end
end
end Mir
set_option Elab.async false
set_option linter.all false
set_option maxRecDepth 100000
set_option maxHeartbeats 4000000
namespace Mir
open PySem PySem.Spec L2
def RwOk (w : Nat) (kn : Nat → Str) (r : Rw) : Prop := PyData.strOk r.nm = true ∧ r.br.length ≤ 4 ∧ ∀ z ∈ r.br, ∃ j, j < w ∧ z = kn j
/-- the rows' names, in some order -/
def RwNm (kn : Nat → Str) (rs : List Rw) : Prop := ∃ b, b ≤ 12 ∧ (rs.map (·.nm)).Perm ((List.range rs.length).map fun j => kn (b + j))
structure WdOk (w : Wood) (kn : Nat → Str) : Prop where
  few : w.length ≤ 3
  one : 1 ≤ w.length
  nok : ∀ k, k < 900 → PyData.strOk (kn k) = true
  at_ : ∀ (k : Nat) p, w[k]? = some p → p.1 = kn k
  rows : ∀ p ∈ w, p.2.length ≤ 3 ∧ (∃ r ∈ p.2, r.br = []) ∧ ∀ r ∈ p.2, RwOk w.length kn r
  rnm : ∀ p ∈ w, RwNm kn p.2
noncomputable section
def rwO (rs : List Rw) : Ow := .l (rs.map fun r => .d (encRw r))
theorem rg1_nat (n : Nat) (h : n ≤ 100000) : rg1 [.int (n : Nat)] = .ok (rangeD 0 n) := by
  have : rg1 [.int (n : Nat)] = .ok (rangeD 0 ((n : Nat) : Int).toNat) := guard_ok (by omega)
  rw [this, Int.toNat_natCast]
theorem rangeD_map (n : Nat) : rangeD 0 n = (List.range n).map fun k : Nat => PyData.int (k : Nat) := by
  unfold rangeD
  exact List.map_congr_left fun k _ => by simp
section
variable {fd fn : List D → R Ow} {code : Int} {kn : Nat → Str}
end
end
end Mir
set_option Elab.async false
set_option linter.all false
set_option maxRecDepth 100000
set_option maxHeartbeats 4000000
namespace Mir
open PySem PySem.Spec L2
noncomputable section
theorem rowsOf_first : ∀ (w : Wood) (k : Str), (∃ p ∈ w, p.1 = k) → ∃ p, (w.filter fun p => p.1 == k)[0]? = some p ∧ p.2 = rowsOf w k ∧ p ∈ w
  | [], k, h => by obtain ⟨p, hp, _⟩ := h; cases hp
  | p :: w, k, h => by
    cases c : p.1 == k with
    | true =>
      refine ⟨p, by rw [List.filter_cons_of_pos (by simpa using c)]; rfl, by rw [rowsOf, c]; rfl, List.mem_cons_self⟩
    | false =>
      obtain ⟨q, hq, e⟩ := h
      have hq' : q ∈ w := by
        rcases List.mem_cons.mp hq with rfl | h
        · rw [e] at c; simp at c
        · exact h
      obtain ⟨r, h1, h2, h3⟩ := rowsOf_first w k ⟨q, hq', e⟩
      exact ⟨r, by rw [List.filter_cons_of_neg (by simp [c])]; exact h1, by rw [rowsOf, c]; exact h2, List.mem_cons_of_mem _ h3⟩
def RuleOk (ks bs : List Str) (t : Trm) : Prop := okM t ∧ levM t ≤ 3 ∧ sizeM t ≤ 9 ∧ ∀ c ∈ callsM t, CallOk ks bs c
structure TnMade (t : Trn) : Prop where
  few : t.modes.length ≤ 4
  one : 1 ≤ t.modes.length
  kind : ∀ p ∈ t.modes, ∃ q ∈ t.wood, q.1 = p.1
  rules : ∀ p ∈ t.modes, p.2.length = (rowsOf t.wood p.1).length ∧ ∀ (i : Nat) r u, (rowsOf t.wood p.1)[i]? = some r → p.2[i]? = some u → RuleOk (t.modes.map (·.1)) r.br u
  start : okM t.start ∧ levM t.start ≤ 3
/-- what the parts of the drawing promise -/
structure Gens (fd ft fl fru fca fb : List D → R Ow) (code : Int) (w : Wood) : Prop where
  dr : Draws fd
  term : ∀ (cs : List (Int × Int)) (n : Nat), n ≤ 2 → ∀ dk, ∃ t dk', TermIn cs n t ∧ ft (dkD dk :: [.int code, caD cs, .int (n : Nat)]) = tells (encM t) dk'
  rows : ∀ k, (∃ p ∈ w, p.1 = k) → fl [encWd w, .str k] = .ok (.d (.list ((rowsOf w k).map encRw)))
  rule : ∀ (cs : List (Int × Int)) (base : Trm), TermIn [] 2 base → ∀ dk, ∃ t dk', TermIn cs 2 t ∧ fru (dkD dk :: [.int code, encM base, caD cs]) = tells (encM t) dk'
  callsT : ∀ ks bs : List Str, ks.length ≤ 100 → bs.length ≤ 100 → ∃ cs, fca [.list (ks.map PyData.str), .tuple (bs.map PyData.str)] = .ok (caO cs) ∧ ∀ c ∈ cs, CallOk ks bs c
  callsL : ∀ ks bs : List Str, ks.length ≤ 100 → bs.length ≤ 100 → ∃ cs, fca [.list (ks.map PyData.str), .list (bs.map PyData.str)] = .ok (caO cs) ∧ ∀ c ∈ cs, CallOk ks bs c
  bare : ∀ t, okM t → levM t ≤ 10 → fb [encM t] = .ok (.d (encM (bareM t)))
section
variable {fd ft fl fru fca fb : List D → R Ow} {code : Int} {w : Wood}
theorem TermIn.rule {ks bs : List Str} {cs : List (Int × Int)} {t : Trm} (h : TermIn cs 2 t) (hc : ∀ c ∈ cs, CallOk ks bs c) : RuleOk ks bs t := ⟨h.1, by have := h.2.1; omega, fitS_2 h.2.2.1, fun c hcc => hc c (h.2.2.2.1 c hcc)⟩
theorem rowsOf_mem {w : Wood} {k : Str} (hk : ∃ p ∈ w, p.1 = k) : ∃ p ∈ w, p.2 = rowsOf w k := by
  obtain ⟨p, _, h2, h3⟩ := rowsOf_first w k hk
  exact ⟨p, h3, h2⟩
end
end
end Mir
set_option Elab.async false
set_option linter.all false
set_option maxRecDepth 100000
set_option maxHeartbeats 4000000
namespace Mir
open PySem PySem.Spec L2
theorem TnMade.ok {t : Trn} {kn : Nat → Str} (m : TnMade t) (hw : WdOk t.wood kn) : TnOk t := by
  have kl : (t.modes.map (·.1)).length = t.modes.length := List.length_map _
  have each : ∀ p ∈ t.modes, ∀ u ∈ p.2, ∃ r ∈ rowsOf t.wood p.1, RuleOk (t.modes.map (·.1)) r.br u := fun p hp u hu => by
    obtain ⟨i, hi, e⟩ := List.mem_iff_getElem.mp hu
    obtain ⟨h1, h2⟩ := m.rules p hp
    have hi' : i < (rowsOf t.wood p.1).length := by omega
    exact ⟨_, List.getElem_mem hi', h2 i _ u (List.getElem?_eq_getElem hi') (by rw [List.getElem?_eq_getElem hi, e])⟩
  have rl : ∀ p ∈ t.modes, (rowsOf t.wood p.1).length ≤ 3 ∧ ∃ r ∈ rowsOf t.wood p.1, r.br = [] := fun p hp => by
    obtain ⟨q, q1, q2⟩ := rowsOf_mem (m.kind p hp)
    obtain ⟨a, b, _⟩ := hw.rows q q1
    rw [q2] at a b
    exact ⟨a, b⟩
  have wl := hw.few
  refine ⟨by have := m.few; omega, m.one, fun p hp => ⟨(m.rules p hp).1, by have := (m.rules p hp).1; have := (rl p hp).1; omega⟩, fun p hp => ?_, fun p hp u hu => ?_, fun p hp => ?_, by omega, m.start.1, by have := m.start.2; omega⟩
  · -- bare rows
    obtain ⟨h1, h2⟩ := m.rules p hp
    constructor
    · rw [bares_zip]
      obtain ⟨_, r, hr, hb⟩ := rl p hp
      obtain ⟨i, hi, e⟩ := List.mem_iff_getElem.mp hr
      intro z
      have z2 : ((rowsOf t.wood p.1).zip p.2).filter (fun q => q.1.br.isEmpty) = [] := by simpa using z
      have hm : (r, p.2[i]'(by omega)) ∈ ((rowsOf t.wood p.1).zip p.2).filter (fun q => q.1.br.isEmpty) := by
        refine List.mem_filter.mpr ⟨?_, by show r.br.isEmpty = true; rw [hb]; rfl⟩
        refine List.mem_iff_getElem.mpr ⟨i, by rw [List.length_zip]; omega, ?_⟩
        rw [List.getElem_zip, e]
      rw [z2] at hm
      cases hm
    · intro u hu
      rw [bares_zip] at hu
      obtain ⟨q, hq, rfl⟩ := List.mem_map.mp hu
      obtain ⟨q1, q2⟩ := List.mem_filter.mp hq
      obtain ⟨i, hi, e⟩ := List.mem_iff_getElem.mp q1
      rw [List.length_zip] at hi
      rw [List.getElem_zip] at e
      have ok := h2 i q.1 q.2 (by rw [List.getElem?_eq_getElem (by omega), ← e]) (by rw [List.getElem?_eq_getElem (by omega), ← e])
      have bn : q.1.br = [] := by simpa using q2
      cases hc : callsM q.2 with
      | nil => rfl
      | cons c cs =>
        obtain ⟨i, j, _, z, _, hz⟩ := ok.2.2.2 c (by rw [hc]; exact List.mem_cons_self)
        rw [bn] at hz
        simp at hz
  · obtain ⟨r, _, o1, o2, o3, o4⟩ := each p hp u hu
    refine ⟨o1, by omega, by omega, fun c hc => ?_⟩
    obtain ⟨i, j, e, z, hz, _⟩ := o4 c hc
    have := (List.getElem?_eq_some_iff.mp hz).1
    rw [e]
    constructor
    · show (0 : Int) ≤ (i : Int)
      omega
    · show (i : Int) < _
      omega
  · obtain ⟨i, hi, e⟩ := List.mem_iff_getElem.mp hp
    have en := hw.at_ i p (by rw [List.getElem?_eq_getElem hi, e])
    obtain ⟨a, _, c⟩ := hw.rows p hp
    refine ⟨by rw [en]; exact hw.nok i (by omega), by omega, fun r hr => ?_⟩
    obtain ⟨d1, d2, d3⟩ := c r hr
    refine ⟨d1, by omega, fun z hz => ?_⟩
    obtain ⟨j, hj, ez⟩ := d3 z hz
    rw [ez]
    exact hw.nok j (by omega)
noncomputable section
end
end Mir
set_option Elab.async false
set_option linter.all false
set_option maxRecDepth 100000
set_option maxHeartbeats 4000000
namespace Mir
open PySem PySem.Spec L2
noncomputable section
def pick (t : Trn) (wants : Rw → Bool) (g : Trm → Stp) (p : Str × List Trm) : List Stp := (((rowsOf t.wood p.1).zip p.2).filter fun q => wants q.1).map fun q => g q.2
end
end Mir
set_option Elab.async false
set_option linter.all false
set_option maxRecDepth 100000
set_option maxHeartbeats 4000000
namespace Mir
open PySem PySem.Spec L2
def noF (b : Bool) : Option Ow := if b then none else some (.d (.bool false))
noncomputable section
theorem nice_list {ds : List D} {n : Nat} (h : ∀ d ∈ ds, d.canLay0 = true ∧ d.depth ≤ n) (hn : n ≤ 129) : Nice (.list ds) := by
  refine ⟨?_, ?_⟩
  · rw [PyData.canLay0]
    exact canAll_of _ fun d hd => (h d hd).1
  · rw [PyData.depth]
    have := depthAll_of (n := n) ds fun d hd => (h d hd).2
    omega
end
end Mir
set_option Elab.async false
set_option linter.all false
set_option maxRecDepth 100000
set_option maxHeartbeats 4000000
namespace Mir
open PySem PySem.Spec L2
noncomputable section
def trsD (ts : List Trm) : D := .list (ts.map encM)
structure SndOk (w : Wood) (s : Trm) (ms : List (Str × List Trm)) : Prop where
  kinds : ∀ p ∈ w, PyData.strOk p.1 = true
  few : w.length ≤ 100
  dist : (w.map (·.1)).Nodup
  mkinds : ∀ p ∈ ms, PyData.strOk p.1 = true
def numOf : List Rw → Str → Nat → Option Nat
  | [], _, _ => none
  | r :: rs, nm, k => if r.nm == nm then some k else numOf rs nm (k + 1)
end
end Mir
set_option Elab.async false
set_option linter.all false
set_option maxRecDepth 100000
set_option maxHeartbeats 4000000
namespace Mir
open PySem PySem.Spec L2
section
variable (S : Trm) (R : Nat → List Trm) (n : Nat)
/-- to the mode lead calls -/
inductive Reach : Int → Prop
  | start {c : Int × Int} : c ∈ callsM S → Reach c.1
  | step {m : Nat} {t : Trm} {c : Int × Int} : Reach (m : Int) → t ∈ R m → c ∈ callsM t → Reach c.1
/-- calls by modes that there are -/
structure Calls : Prop where
  start : ∀ c ∈ callsM S, 0 ≤ c.1 ∧ c.1 < n
  step : ∀ (m : Nat), m < n → ∀ t ∈ R m, ∀ c ∈ callsM t, 0 ≤ c.1 ∧ c.1 < n
/-- found so far; calls still to look at: those of the terms on the stack, and cs -/
structure RInv (l : List Int) (st : List Trm) (cs : List (Int × Int)) : Prop where
  nd : l.Nodup
  rch : ∀ i ∈ l, Reach S R i
  src : ∀ t ∈ st, ∀ c ∈ callsM t, Reach S R c.1
  csr : ∀ c ∈ cs, Reach S R c.1
  s0 : S ∈ st ∨ ∀ c ∈ callsM S, c.1 ∈ l ∨ c ∈ cs
  sm : ∀ m : Nat, (m : Int) ∈ l → ∀ t ∈ R m, t ∈ st ∨ ∀ c ∈ callsM t, c.1 ∈ l ∨ c ∈ cs
variable {S R n}
theorem RInv.done {l : List Int} (h : RInv S R l [] []) (hn : Calls S R n) (i : Int) : i ∈ l ↔ Reach S R i := by
  refine ⟨h.rch i, fun r => ?_⟩
  induction r with
  | @start c hc =>
    rcases h.s0 with q | q
    · cases q
    · rcases q c hc with q | q
      · exact q
      · cases q
  | @step m t c hm ht hc ih =>
    rcases h.sm m ih t ht with q | q
    · cases q
    · rcases q c hc with q | q
      · exact q
      · cases q
end
noncomputable section
def rulesAt (ms : List (Str × List Trm)) (k : Nat) : List Trm := match ms[k]? with
  | some p => p.2
  | none => []
section
variable {t : Trn} {B : Nat} (hB : ∀ p ∈ t.modes, p.2.length ≤ B) (hc : Calls t.start (rulesAt t.modes) t.modes.length) (hm : t.modes.length + (B * t.modes.length + 1) ≤ 10000)
include hB hc hm
variable {f0 : List D → R Ow} (hf : ∀ u, (u = t.start ∨ ∃ p ∈ t.modes, u ∈ p.2) → f0 [encM u] = .ok (encCs (callsM u)) ∧ Nice (encM u) ∧ (encM u).depth ≤ 100)
include hf
end
end
end Mir
set_option Elab.async false
set_option linter.all false
set_option maxRecDepth 100000
set_option maxHeartbeats 4000000
namespace Mir
open PySem PySem.Spec L2
def scD (ns : List Int) : PyData := .list (ns.map PyData.int)
theorem sc_len (ns : List Int) : gLen [scD ns] = some (.d (.int (ns.length : Nat))) := by
  have : gLen [scD ns] = some (Ow.d (.int (ns.map PyData.int).length)) := rfl
  rw [this, List.length_map]
theorem sc_ix {ns : List Int} {k : Nat} {z : Int} (h : ns[k]? = some z) : gIx (scD ns) (.int (k : Nat)) = some (.int z) := by
  show atI (ns.map PyData.int) _ = _
  exact atI_natD (by rw [List.getElem?_map, h]; rfl)
noncomputable section
abbrev bCell : Ev → SR := (sSeq (sIf (eB (eBin gLt (eVar 1) (eM (eCa gLen (aCons (eVar 0) aNil)) viewD)) asB)
    (sRet (eM (eBin gIx (eVar 0) (eVar 1)) Ow.d))
    sSkip)
    (sRet (eM (eC (.int 0)) Ow.d)))
def scCell (ns : List Int) (k : Nat) : Int := ns.getD k 0
theorem cell_fin (ns : List Int) (k : Nat) : finR (bCell (envOf 0 [scD ns, .int (k : Nat)])) = .ok (.d (.int (scCell ns k))) := by
  have hl := sc_len ns
  unfold scCell
  rw [List.getD_eq_getElem?_getD]
  by_cases h : k < ns.length
  · have ix := sc_ix (List.getElem?_eq_getElem h)
    have h' : (k : Int) < (ns.length : Nat) := by omega
    rw [List.getElem?_eq_getElem h]
    generalize scD ns = S at hl ix
    have he : envOf 0 [S, .int (k : Nat)] = [some (.d S), some (.d (.int (k : Nat)))] := rfl
    rw [he]
    simp [hl, ix, h, h']
  · have h' : ¬ (k : Int) < (ns.length : Nat) := by omega
    rw [List.getElem?_eq_none (by omega)]
    generalize scD ns = S at hl
    have he : envOf 0 [S, .int (k : Nat)] = [some (.d S), some (.d (.int (k : Nat)))] := rfl
    rw [he]
    simp [hl, h, h']
end
end Mir
set_option Elab.async false
set_option linter.all false
set_option maxRecDepth 100000
set_option maxHeartbeats 4000000
namespace Mir
open PySem PySem.Spec L2
def brOf : List Rw → Str → Option (List Str)
  | [], _ => none
  | r :: rs, nm => if r.nm == nm then some r.br else brOf rs nm
mutual
def isOf (w : Wood) : Tr → Str → Bool
  | .mk nm _ bs, k => match brOf (rowsOf w k) nm with
    | none => false
    | some ks => decide (ks.length = bs.length) && isOfs w bs ks
def isOfs (w : Wood) : List Tr → List Str → Bool
  | [], _ => true
  | _ :: _, [] => true
  | b :: bs, k :: ks => isOf w b k && isOfs w bs ks
end
noncomputable section
def mkOf (kp : Bool) (ad mk : Int) : Int := if kp then ad + mk else ad
end
end Mir
set_option Elab.async false
set_option linter.all false
set_option maxRecDepth 100000
set_option maxHeartbeats 4000000
namespace Mir
open PySem PySem.Spec L2
def onStep (i : Int) (l : List Int) (c : Int × Int) : List Int := if c.2 = i ∧ c.1 ∉ l then l ++ [c.1] else l
def onAll (i : Int) (cs : List (Int × Int)) (l : List Int) : List Int := cs.foldl (onStep i) l
def risen (l : List Int) : List Int := l.mergeSort fun a b => decide (a ≤ b)
noncomputable section
/-- the modes in which terms call a branch, rising -/
def modesOn (i : Int) (Ts : List Trm) : List Int := risen (onAll i (callsMs Ts) [])
end
def trNm : Tr → Str
  | .mk n _ _ => n
def trBs : Tr → List Tr
  | .mk _ _ bs => bs
def noTm : Trm := .call 0 0
def noTr : Tr := .mk "" 0 []
/-- the rule of a mode for a name -/
def ruleT (t : Trn) (m : Int) (nm : Str) : Option Trm := match t.modes[m.toNat]? with
  | none => none
  | some p => match numOf (rowsOf t.wood p.1) nm 0 with
    | none => none
    | some i => p.2[i]?
def ruleF (t : Trn) (m : Int) (nm : Str) : Trm := (ruleT t m nm).getD noTm
mutual
def madB (mk : Int) (fs : List (Int → Tr)) : Trm → Tr
  | .call m b => (fs.getD b.toNat fun _ => noTr) m
  | .put nm kp ad ps => .mk nm (mkOf kp ad mk) (madBs mk fs ps)
def madBs (mk : Int) (fs : List (Int → Tr)) : List Trm → List Tr
  | [] => []
  | p :: ps => madB mk fs p :: madBs mk fs ps
end
mutual
def madT (t : Trn) : Tr → Trm → Tr
  | .mk _ mk bs => madB mk (madTs t bs)
def madTs (t : Trn) : List Tr → List (Int → Tr)
  | [] => []
  | b :: bs => (fun m => madT t b (ruleF t m (trNm b))) :: madTs t bs
end
/-- size and levels -/
def mesD (o : Tr) : D := .tuple [.int (sizeT o : Nat), .int (levT o : Nat)]
noncomputable section
end
end Mir
set_option Elab.async false
set_option linter.all false
set_option maxRecDepth 100000
set_option maxHeartbeats 4000000
namespace Mir
open PySem PySem.Spec L2
/-- the calls of a term fit branches of these kinds -/
def FitT (t : Trn) (ks : List Str) (T : Trm) : Prop := ∀ c ∈ callsM T, 0 ≤ c.1 ∧ 0 ≤ c.2 ∧ ∃ p, t.modes[c.1.toNat]? = some p ∧ ks[c.2.toNat]? = some p.1
structure GoodM (B : Nat) (T : Trm) : Prop where
  ok : okM T
  lev : levM T ≤ B
  few : sizeM T ≤ 1000
structure SndT (t : Trn) (B : Nat) : Prop where
  few : t.modes.length ≤ 1000
  wide : ∀ k nm ks, brOf (rowsOf t.wood k) nm = some ks → ks.length ≤ 1000
  lens : ∀ p ∈ t.modes, p.2.length = (rowsOf t.wood p.1).length
  fits : ∀ p ∈ t.modes, ∀ (i : Nat) (row : Rw) (T : Trm), (rowsOf t.wood p.1)[i]? = some row → p.2[i]? = some T → FitT t row.br T ∧ GoodM B T
/-- what below_of tells -/
def prsB (t : Trn) (Ts : List Trm) (i : Nat) (b : Tr) : List (D × D) := (modesOn (i : Int) Ts).map fun m => (PyData.int m, mesD (madT t b (ruleF t m (trNm b))))
def belL (t : Trn) (Ts : List Trm) : Nat → List Tr → List D
  | _, [] => []
  | i, b :: bs => .dict (prsB t Ts i b) :: belL t Ts (i + 1) bs
noncomputable section
end
end Mir
set_option Elab.async false
set_option linter.all false
set_option maxRecDepth 100000
set_option maxHeartbeats 4000000
namespace Mir
open PySem PySem.Spec L2
noncomputable section
@[simp] theorem R.map_exc {α β : Type} (f : α → β) (c : Str) : R.map f (.ex c) = .ex c := rfl
@[simp] theorem R.bind_exc {α β : Type} (f : α → R β) (c : Str) : R.bind (.ex c) f = .ex c := rfl
@[simp] theorem R.st_exc {α : Type} (env : Ev) (f : α → SR) (c : Str) : (R.ex c : R α).st env f = .ex c env := rfl
@[simp] theorem andThen_exc (c : Str) (env : Ev) (g : Ev → SR) : (SR.ex c env).andThen g = .ex c env := rfl
@[simp] theorem finR_exc (c : Str) (env : Ev) : finR (.ex c env) = .ex c := rfl
/-- what the walk of a branch needs -/
structure BrOk (t : Trn) (Ts : List Trm) (f5 f9 f10 f11 : List D → R Ow) (j : Nat) (b : Tr) : Prop where
  few : (modesOn (j : Int) Ts).length ≤ 1000
  h9 : f9 [trsD Ts, .int (j : Nat)] = .ok (.l ((modesOn (j : Int) Ts).map fun m => .d (.int m)))
  h5 : ∀ m ∈ modesOn (j : Int) Ts, f5 [encTn t, .int m, .str (trNm b)] = .ok (.d (encM (ruleF t m (trNm b))))
  h11 : f11 [encTn t, trsD ((modesOn (j : Int) Ts).map fun m => ruleF t m (trNm b)), encT b] = .ok (.l ((belL t ((modesOn (j : Int) Ts).map fun m => ruleF t m (trNm b)) 0 (trBs b)).map Ow.d))
  h10 : ∀ m ∈ modesOn (j : Int) Ts, f10 [encM (ruleF t m (trNm b)), .list (belL t ((modesOn (j : Int) Ts).map fun m => ruleF t m (trNm b)) 0 (trBs b))] = .ok (.d (mesD (madT t b (ruleF t m (trNm b)))))
end
end Mir
set_option Elab.async false
set_option linter.all false
set_option maxRecDepth 100000
set_option maxHeartbeats 4000000
namespace Mir
open PySem PySem.Spec L2
/-- names below sixteen, told apart -/
def KnInj (kn : Nat → Str) : Prop := ∀ i j, i < 16 → j < 16 → kn i = kn j → i = j
theorem WdOk.kinds {w : Wood} {kn : Nat → Str} (h : WdOk w kn) (hk : KnInj kn) : (w.map (·.1)).Nodup := by
  unfold List.Nodup
  rw [List.pairwise_iff_getElem]
  intro i j hi hj hij e
  rw [List.length_map] at hi hj
  have hf := h.few
  rw [List.getElem_map, List.getElem_map] at e
  have a := h.at_ i _ (List.getElem?_eq_getElem hi)
  have b := h.at_ j _ (List.getElem?_eq_getElem hj)
  have e2 : w[i].1 = w[j].1 := e
  rw [a, b] at e2
  have := hk i j (by omega) (by omega) e2
  omega
theorem RwNm.nodup {kn : Nat → Str} {rs : List Rw} (h : RwNm kn rs) (hl : rs.length ≤ 3) (hk : KnInj kn) : (rs.map (·.nm)).Nodup := by
  obtain ⟨b, hb, hp⟩ := h
  rw [hp.nodup_iff]
  unfold List.Nodup
  rw [List.pairwise_iff_getElem]
  intro i j hi hj hij e
  rw [List.length_map, List.length_range] at hi hj
  rw [List.getElem_map, List.getElem_map, List.getElem_range, List.getElem_range] at e
  have := hk _ _ (by omega) (by omega) e
  omega
theorem rowsK_or (w : Wood) (k : Str) : rowsOf w k = [] ∨ ∃ p ∈ w, p.1 = k ∧ rowsOf w k = p.2 := by
  induction w with
  | nil => exact .inl rfl
  | cons p w ih =>
    rw [rowsOf]
    cases c : p.1 == k with
    | true => exact .inr ⟨p, List.mem_cons_self, by simpa using c, rfl⟩
    | false =>
      rcases ih with h | ⟨q, h1, h2, h3⟩
      · exact .inl h
      · exact .inr ⟨q, List.mem_cons_of_mem _ h1, h2, h3⟩
theorem brOf_in {nm : Str} : ∀ {rs : List Rw} {ks : List Str}, brOf rs nm = some ks → ∃ r ∈ rs, r.nm = nm ∧ r.br = ks
  | [], ks, h => by cases h
  | r :: rs, ks, h => by
    rw [brOf] at h
    split at h
    · rename_i c
      exact ⟨r, List.mem_cons_self, by simpa using c, Option.some.inj h⟩
    · obtain ⟨q, h1, h2⟩ := brOf_in h
      exact ⟨q, List.mem_cons_of_mem _ h1, h2⟩
/-- what the later laws need of a drawn turning -/
structure TnGd (t : Trn) : Prop where
  snd : SndT t 3
  ok : TnOk t
  kinds : (t.wood.map (·.1)).Nodup
  rows : ∀ p ∈ t.wood, (p.2.map (·.nm)).Nodup ∧ (∃ r ∈ p.2, r.br = []) ∧ ∀ r ∈ p.2, PyData.strOk r.nm = true ∧ r.br.length ≤ 4 ∧ ∀ z ∈ r.br, ∃ q ∈ t.wood, q.1 = z
  mkind : ∀ p ∈ t.modes, ∃ q ∈ t.wood, q.1 = p.1
  some : 1 ≤ t.wood.length
  stop : ∃ N, N ≤ 36 ∧ tab (mds t) (N + 1) = tab (mds t) N ∧ ∀ i, i < N → tab (mds t) (i + 1) ≠ tab (mds t) i
theorem TnMade.gd {t : Trn} {kn : Nat → Str} (m : TnMade t) (hw : WdOk t.wood kn) (hk : KnInj kn) : TnGd t := by
  have ok := m.ok hw
  refine ⟨⟨by have := m.few; omega, fun k nm ks h => ?_, fun p hp => (m.rules p hp).1, fun p hp i row T hr hT => ?_⟩, ok, hw.kinds hk, fun p hp => ?_, m.kind, hw.one, ?_⟩
  · obtain ⟨r, hr, _, e⟩ := brOf_in h
    rcases rowsK_or t.wood k with z | ⟨p, hp, _, e2⟩
    · rw [z] at hr; cases hr
    · rw [e2] at hr
      have := ((hw.rows p hp).2.2 r hr).2.1
      rw [← e]
      omega
  · obtain ⟨a, b, c, d⟩ := (m.rules p hp).2 i row T hr hT
    refine ⟨fun z hz => ?_, a, b, by omega⟩
    obtain ⟨x, y, e, q, h1, h2⟩ := d z hz
    subst e
    rw [List.getElem?_map] at h1
    cases hx : t.modes[x]? with
    | none => rw [hx] at h1; cases h1
    | some p' =>
      rw [hx] at h1
      have e : p'.1 = q := Option.some.inj h1
      exact ⟨by show (0 : Int) ≤ (x : Nat); omega, by show (0 : Int) ≤ (y : Nat); omega, p', by rw [Int.toNat_natCast]; exact hx, by rw [Int.toNat_natCast, e]; exact h2⟩
  · obtain ⟨a, b, c⟩ := hw.rows p hp
    refine ⟨(hw.rnm p hp).nodup a hk, b, fun r hr => ?_⟩
    obtain ⟨c1, c2, c3⟩ := c r hr
    refine ⟨c1, c2, fun z hz => ?_⟩
    obtain ⟨j, hj, e⟩ := c3 z hz
    exact ⟨t.wood[j], List.getElem_mem hj, by rw [e]; exact hw.at_ j _ (List.getElem?_eq_getElem hj)⟩
  · obtain ⟨N, h1, h2, h3⟩ := tab_stop (mds t) (mds_ok ok)
    refine ⟨N, ?_, h2, h3⟩
    have each : ∀ s ∈ tab (mds t) 0, cS s ≤ 9 := fun s hs => by
      obtain ⟨md, hm, rfl⟩ := List.mem_map.mp (show s ∈ (mds t).map fun m => metOf ((bares m).map (stIn [])) from hs)
      obtain ⟨p, hp, rfl⟩ := List.mem_map.mp hm
      obtain ⟨h1, _⟩ := ok.bare p hp
      obtain ⟨r, rest, e⟩ : ∃ r rest, bares (mdOf t.wood p) = r :: rest := by
        cases e : bares (mdOf t.wood p) with
        | nil => exact absurd e h1
        | cons r rest => exact ⟨r, rest, rfl⟩
      have le : leS (metOf ((bares (mdOf t.wood p)).map (stIn []))) (stIn [] r) := metOf_le (by rw [e]; simp)
      have hr : r ∈ p.2 := bares_in r (by rw [e]; simp)
      obtain ⟨i, hi, ei⟩ := List.mem_iff_getElem.mp hr
      obtain ⟨q1, q2⟩ := m.rules p hp
      have := (q2 i _ r (List.getElem?_eq_getElem (by omega)) (by rw [List.getElem?_eq_getElem hi, ei])).2.2.1
      have a := (leS_c le).1
      have b := stIn_c r
      omega
    have := cSs_le (n := 9) (ss := tab (mds t) 0) each
    rw [tab_len] at this
    have l : (mds t).length = t.modes.length := List.length_map _
    rw [l] at this
    have := m.few
    have : 9 * t.modes.length ≤ 9 * 4 := Nat.mul_le_mul_left _ this
    omega
end Mir
set_option Elab.async false
set_option linter.all false
set_option maxRecDepth 100000
set_option maxHeartbeats 4000000
namespace Mir
open PySem PySem.Spec L2
def lets (l : List Nat) : Str := tx (l.map fun d => 97 + d)
def mixI (c j : Int) : Int :=
  let n1 := c % 2147483647 + 48271 * (j + 1)
  let n2 := (n1 * n1 + 69621 * j) % 2147483647
  (n2 * n2 + 16807 * j + 1) % 2147483647
noncomputable section
/-- eight names, all unlike -/
structure Names8 (ls : List (List Nat)) : Prop where
  eight : ls.length = 8
  nd : ls.Nodup
  lets : ∀ l ∈ ls, ∀ d ∈ l, d < 26
  some : ∀ l ∈ ls, 1 ≤ l.length ∧ l.length ≤ 8
end
end Mir
set_option Elab.async false
set_option linter.all false
set_option maxRecDepth 100000
set_option maxHeartbeats 4000000
namespace Mir
open PySem PySem.Spec L2
noncomputable section
end
end Mir
set_option Elab.async false
set_option linter.all false
set_option maxRecDepth 100000
set_option maxHeartbeats 4000000
namespace Mir
open PySem PySem.Spec L2
/-- names at hand: eight, all unlike -/
structure NamesD (NS : D) (N : Nat → Str) : Prop where
  ix : ∀ i : Nat, i < 8 → gIx NS (.int (i : Nat)) = some (.str (N i))
  ne : ∀ i j : Nat, i < 8 → j < 8 → i ≠ j → N i ≠ N j
  ok : ∀ i : Nat, i < 8 → PyData.strOk (N i) = true
end Mir
set_option Elab.async false
set_option linter.all false
set_option maxRecDepth 100000
set_option maxHeartbeats 4000000
namespace Mir
open PySem PySem.Spec L2
structure NcTn (t : Trn) (B : Nat) : Prop where
  kinds : ∀ p ∈ t.wood, PyData.strOk p.1 = true
  rows : ∀ p ∈ t.wood, ∀ r ∈ p.2, PyData.strOk r.nm = true ∧ ∀ z ∈ r.br, PyData.strOk z = true
  start : okM t.start ∧ levM t.start ≤ B
  mkinds : ∀ p ∈ t.modes, PyData.strOk p.1 = true
  rules : ∀ p ∈ t.modes, ∀ T ∈ p.2, okM T ∧ levM T ≤ B
end Mir
set_option Elab.async false
set_option linter.all false
set_option maxRecDepth 100000
set_option maxHeartbeats 4000000
namespace Mir
open PySem PySem.Spec L2
noncomputable section
abbrev stB (f5 : List D → R Ow) : Ev → SR := (sSeq (sSet 2 (eM (eBin gIx (eBin gIx (eVar 2) (eC (.int 2))) (eBin gIx (eVar 1) (eC (.int 2)))) Ow.d))
    (sSet 1 (eM (eM (eB (aCons (eVar 0) (aCons (eBin gIx (eVar 1) (eC (.int 1))) (aCons (eBin gIx (eVar 2) (eC (.int 0))) aNil))) f5) viewD) Ow.d)))
end
end Mir
set_option Elab.async false
set_option linter.all false
set_option maxRecDepth 100000
set_option maxHeartbeats 4000000
namespace Mir
open PySem PySem.Spec L2
/-- a wood whose kinds and rows are told apart, each kind with a row without branches -/
structure WoodOk (w : Wood) : Prop where
  some : 1 ≤ w.length ∧ w.length ≤ 3
  kinds : (w.map (·.1)).Nodup
  kok : ∀ p ∈ w, PyData.strOk p.1 = true
  few : ∀ p ∈ w, p.2.length ≤ 3
  dist : ∀ p ∈ w, (p.2.map (·.nm)).Nodup
  rok : ∀ p ∈ w, ∀ r ∈ p.2, PyData.strOk r.nm = true ∧ r.br.length ≤ 3 ∧ ∀ z ∈ r.br, z ∈ w.map (·.1)
  leaf : ∀ p ∈ w, ∃ r ∈ p.2, r.br = []
noncomputable section
section
variable {f13 : List D → R Ow} (h13 : ∀ (c : Int) (j : Nat), j ≤ 1000 → f13 [.int c, .int (j : Nat)] = .ok (.d (.int (mixI c (j : Nat))))) {N : Nat → Str} {NS : PyData} (hN : NamesD NS N) {n : Nat} (hn : 1 ≤ n ∧ n ≤ 3) (c : Int)
include h13 hN hn
end
end
end Mir
set_option Elab.async false
set_option linter.all false
set_option maxRecDepth 100000
set_option maxHeartbeats 4000000
namespace Mir.W3
open PySem PySem.Spec L2
noncomputable section
section
variable {f13 : List D → R Ow} (h13 : ∀ (c : Int) (j : Nat), j ≤ 1000 → f13 [.int c, .int (j : Nat)] = .ok (.d (.int (mixI c (j : Nat))))) {N : Nat → Str} {NS : PyData} (hN : NamesD NS N) {n : Nat} (hn : 1 ≤ n ∧ n ≤ 3) (c : Int)
include h13 hN hn
end
end
end Mir.W3
set_option Elab.async false
set_option linter.all false
set_option maxRecDepth 100000
set_option maxHeartbeats 4000000
namespace Mir
open PySem PySem.Spec L2
instance : Inhabited Trm := ⟨noTm⟩
structure DrawnM (cs : List (Int × Int)) (d : Nat) (T : Trm) : Prop where
  ok : okM T
  lev : levM T ≤ d + 1
  size : sizeM T + 1 ≤ 2 ^ (d + 1)
  calls : ∀ c ∈ callsM T, c ∈ cs
def csD (cs : List (Int × Int)) : PyData := .list (cs.map encC)
noncomputable section
end
end Mir
set_option Elab.async false
set_option linter.all false
set_option maxRecDepth 100000
set_option maxHeartbeats 4000000
namespace Mir
open PySem PySem.Spec L2
def clsAt (bs os : List Str) (b : Nat) : List (Int × Int) := ((List.range os.length).filter fun m => os.getD m "" == bs.getD b "").map fun m : Nat => ((m : Int), (b : Int))
def clsOf (bs os : List Str) : List (Int × Int) := ((List.range bs.length).map (clsAt bs os)).flatten
noncomputable section
def osD (os : List Str) : PyData := .list (os.map PyData.str)
/-- branches, as a list or a tuple -/
structure IsBr (BD : D) (bs : List Str) : Prop where
  len : gLen [BD] = some (.d (.int (bs.length : Nat)))
  ix : ∀ b, b < bs.length → gIx BD (.int (b : Nat)) = some (.str (bs.getD b ""))
def small250 (x : Int) : Prop := x.natAbs < 2 ^ 250
end
end Mir
set_option Elab.async false
set_option linter.all false
set_option maxRecDepth 100000
set_option maxHeartbeats 4000000
namespace Mir
open PySem PySem.Spec L2
structure TnDrawn (t : Trn) (os : List Str) : Prop where
  cnt : 1 ≤ os.length ∧ os.length ≤ 4
  kinds : ∀ z ∈ os, z ∈ t.wood.map (·.1)
  len : t.modes.length = os.length
  mode : ∀ (m : Nat) (p : Str × List Trm), t.modes[m]? = some p → p.1 = os.getD m "" ∧ p.2.length = (rowsOf t.wood p.1).length ∧ ∀ (i : Nat) (row : Rw) (T : Trm), (rowsOf t.wood p.1)[i]? = some row → p.2[i]? = some T → DrawnM (clsOf row.br os) 2 T
  start : DrawnM (clsOf [(t.wood.map (·.1)).getD 0 ""] os) 2 t.start
noncomputable section
section
variable {f12 f13 f17 f18 : List D → R Ow} {SC NS : PyData} {cell : Nat → Int} (h12 : ∀ k : Nat, f12 [SC, .int (k : Nat)] = .ok (.d (.int (cell k))))
  (h17 : ∀ (c : Int) (cs : List (Int × Int)) (kp : Bool), ∃ T, DrawnM cs 2 T ∧ f17 [.int c, .int 0, .int 2, csD cs, NS, .bool kp] = .ok (.d (encM T)))
  (h18 : ∀ (BD : D) (bs os : List Str), IsBr BD bs → bs.length ≤ 3 → os.length ≤ 10 → f18 [BD, osD os] = .ok (.l ((clsOf bs os).map fun c => .d (encC c))))
include h12 h17 h18
variable (h13 : ∀ (c : Int) (j : Nat), j ≤ 1000 → f13 [.int c, .int (j : Nat)] = .ok (.d (.int (mixI c (j : Nat)))))
include h13
end
end
end Mir
set_option Elab.async false
set_option linter.all false
set_option maxRecDepth 100000
set_option maxHeartbeats 4000000
namespace Mir
open PySem PySem.Spec L2
structure Nd where
  kind : Str
  lev : Nat
  row : Option Rw
  mark : Int
  kids : List Nat
structure NdOk (w : Wood) (top : Nat) (ns : List Nd) (i : Nat) (n : Nd) : Prop where
  kind : n.kind ∈ w.map (·.1)
  lev : 1 ≤ n.lev ∧ n.lev ≤ top
  mark : small250 n.mark
  bare : n.row = none → n.kids = []
  full : ∀ r, n.row = some r → r ∈ rowsOf w n.kind ∧ r.br ≠ [] ∧ n.kids.length = r.br.length ∧ ∀ (j k : Nat), n.kids[j]? = some k → i < k ∧ ∃ c, ns[k]? = some c ∧ r.br[j]? = some c.kind ∧ c.lev = n.lev + 1
structure GInv (w : Wood) (top : Nat) (ns : List Nd) (bare : List Nat) : Prop where
  root : ∃ n0, ns[0]? = some n0 ∧ n0.kind = (w.map (·.1)).getD 0 ("" : Str)
  each : ∀ (i : Nat) (n : Nd), ns[i]? = some n → NdOk w top ns i n
  bnd : bare.Nodup
  bare : ∀ b ∈ bare, ∃ n, ns[b]? = some n ∧ n.row = none
noncomputable section
end
end Mir
set_option Elab.async false
set_option linter.all false
set_option maxRecDepth 100000
set_option maxHeartbeats 4000000
namespace Mir
open PySem PySem.Spec L2
noncomputable section
end
end Mir
set_option Elab.async false
set_option linter.all false
set_option maxRecDepth 100000
set_option maxHeartbeats 4000000
namespace Mir
open PySem PySem.Spec L2
noncomputable section
section
variable {w : Wood} (hw : WoodOk w) (CE : D) (top : Nat)
include hw
variable {f13 f20 : List D → R Ow} (h13 : ∀ (c : Int) (j : Nat), j ≤ 1000 → f13 [.int c, .int (j : Nat)] = .ok (.d (.int (mixI c (j : Nat))))) (h20 : ∀ c z : Int, ∃ x : Int, small250 x ∧ f20 [.int c, .int z] = .ok (.d (.int x)))
include h13 h20
end
end
end Mir
set_option Elab.async false
set_option linter.all false
set_option maxRecDepth 100000
set_option maxHeartbeats 4000000
namespace Mir
open PySem PySem.Spec L2
mutual
def smallT : Tr → Prop
  | .mk _ k bs => small250 k ∧ smallTs bs
def smallTs : List Tr → Prop
  | [] => True
  | b :: bs => smallT b ∧ smallTs bs
end
structure GoodT (w : Wood) (top : Nat) (n : Nd) (t : Tr) : Prop where
  is : isOf w t n.kind = true
  lev : levT t + n.lev ≤ top + 1
  small : smallT t
  ok : okT t
noncomputable section
section
variable {w : Wood} (hw : WoodOk w) {top : Nat} {ns : List Nd} {bare : List Nat} (hI : GInv w top ns bare) (hl : ns.length ≤ 200) {f13 : List D → R Ow} (h13 : ∀ (c : Int) (j : Nat), j ≤ 1000 → f13 [.int c, .int (j : Nat)] = .ok (.d (.int (mixI c (j : Nat)))))
include hw hI hl h13
end
end
end Mir
set_option Elab.async false
set_option linter.all false
set_option maxRecDepth 100000
set_option maxHeartbeats 4000000
namespace Mir
open PySem PySem.Spec L2
noncomputable section
end
end Mir
set_option Elab.async false
set_option linter.all false
set_option maxRecDepth 100000
set_option maxHeartbeats 4000000
namespace Mir
open PySem PySem.Spec L2
section
variable {t : Trn} (gd : TnGd t)
include gd
end
section
variable {t : Trn} (gd : TnGd t)
include gd
end
/-- what a mode makes of a tree -/
def outT (t : Trn) (m : Nat) (u : Tr) : Tr := madT t u (ruleF t (m : Int) (trNm u))
def trAt : Tr → List Nat → Option Tr
  | u, [] => some u
  | .mk _ _ bs, j :: q => match bs[j]? with
    | some b => trAt b q
    | none => none
abbrev Lab := Str × Int × Nat
def labT : Tr → Lab
  | .mk nm k bs => (nm, k, bs.length)
end Mir
set_option Elab.async false
set_option linter.all false
set_option maxRecDepth 100000
set_option maxHeartbeats 4000000
namespace Mir
open PySem PySem.Spec L2
section
variable {t : Trn} (gd : TnGd t)
include gd
end
section
variable {t : Trn} (gd : TnGd t)
include gd
end
end Mir
set_option Elab.async false
set_option linter.all false
set_option maxRecDepth 100000
set_option maxHeartbeats 4000000
namespace Mir
open PySem PySem.Spec L2
noncomputable section
end
end Mir
set_option Elab.async false
set_option linter.all false
set_option maxRecDepth 100000
set_option maxHeartbeats 4000000
namespace Mir
open PySem PySem.Spec L2
noncomputable section
end
end Mir
set_option Elab.async false
set_option linter.all false
set_option maxRecDepth 100000
set_option maxHeartbeats 4000000
namespace Mir
open PySem PySem.Spec L2
noncomputable section
section
variable {t : Trn} {m N : Nat} {f0 f9 f11 f20 : List D → R Ow}
end
end
end Mir
set_option Elab.async false
set_option linter.all false
set_option maxRecDepth 100000
set_option maxHeartbeats 4000000
namespace Mir
open PySem PySem.Spec L2
noncomputable section
end
end Mir
set_option Elab.async false
set_option linter.all false
set_option maxRecDepth 100000
set_option maxHeartbeats 4000000
namespace Mir
open PySem PySem.Spec L2
noncomputable section
end
end Mir
set_option Elab.async false
set_option linter.all false
set_option maxRecDepth 100000
set_option maxHeartbeats 4000000
namespace Mir
open PySem PySem.Spec L2
section
variable {t : Trn} (gd : TnGd t)
include gd
end
/-- what a split must be -/
structure SplitAt (t : Trn) (m : Nat) (q : List Nat) (k : Nat) (v u : Tr) : Prop where
  kind : ∀ p, t.modes[m]? = some p → isOf t.wood v p.1 = true ∧ isOf t.wood u p.1 = true
  lev : levT v = 1 ∧ levT u ≤ k + 1 ∧ (if levT v < levT u then levT u else levT v) = k + 1
  part : ∃ y z, trAt (outT t m v) q = some y ∧ trAt (outT t m u) q = some z ∧ labT y ≠ labT z
section
variable {t : Trn} (gd : TnGd t)
include gd
end
end Mir
set_option Elab.async false
set_option linter.all false
set_option maxRecDepth 100000
set_option maxHeartbeats 4000000
namespace Mir
open PySem PySem.Spec L2
section
variable {t : Trn} (gd : TnGd t)
include gd
end
end Mir
set_option Elab.async false
set_option linter.all false
set_option maxRecDepth 100000
set_option maxHeartbeats 4000000
namespace Mir
open PySem PySem.Spec L2
noncomputable section
end
end Mir
set_option Elab.async false
set_option linter.all false
set_option maxRecDepth 100000
set_option maxHeartbeats 4000000
namespace Mir
open PySem PySem.Spec L2
noncomputable section
end
end Mir
set_option Elab.async false
set_option linter.all false
set_option maxRecDepth 100000
set_option maxHeartbeats 4000000
namespace Mir
open PySem PySem.Spec L2
structure Dm where
  pl : List Nat
  tm : Option (Int × Int)
  kd : Str
noncomputable section
end
end Mir
set_option Elab.async false
set_option linter.all false
set_option maxRecDepth 100000
set_option maxHeartbeats 4000000
namespace Mir
open PySem PySem.Spec L2
noncomputable section
end
end Mir
set_option Elab.async false
set_option linter.all false
set_option maxRecDepth 100000
set_option maxHeartbeats 4000000
namespace Mir
open PySem PySem.Spec L2
noncomputable section
end
end Mir
set_option Elab.async false
set_option linter.all false
set_option maxRecDepth 100000
set_option maxHeartbeats 4000000
namespace Mir
open PySem PySem.Spec L2
/-- a call that the law has to give: mode, branch, the kind of what comes -/
structure Cl3 where
  m : Nat
  b : Nat
  kd : Str
noncomputable section
end
end Mir
set_option Elab.async false
set_option linter.all false
set_option maxRecDepth 100000
set_option maxHeartbeats 4000000
namespace Mir
open PySem PySem.Spec L2
noncomputable section
end
end Mir
set_option Elab.async false
set_option linter.all false
set_option maxRecDepth 100000
set_option maxHeartbeats 4000000
namespace Mir
open PySem PySem.Spec L2
noncomputable section
end
end Mir
set_option Elab.async false
set_option linter.all false
set_option maxRecDepth 100000
set_option maxHeartbeats 4000000
namespace Mir
open PySem PySem.Spec L2
noncomputable section
end
end Mir
set_option Elab.async false
set_option linter.all false
set_option maxRecDepth 100000
set_option maxHeartbeats 4000000
namespace Mir
open PySem PySem.Spec L2
noncomputable section
def NmW (w : Wo) : Prop := w ≠ [] ∧ (∀ x ∈ w, isL x = true) ∧ w.length ≤ 8
theorem NmW.ok {w : Wo} (h : NmW w) : PyData.strOk (tx w) = true := strOk_tx fun c hc => isL_small (h.2.1 c hc)
abbrev WdR := Wo × List Wo
abbrev WdK := Wo × List WdR
structure OkR (r : WdR) : Prop where
  nm : NmW r.1
  few : r.2.length ≤ 4
  br : ∀ b ∈ r.2, NmW b
structure OkK (k : WdK) : Prop where
  nm : NmW k.1
  some : k.2 ≠ []
  few : k.2.length ≤ 100
  rows : ∀ r ∈ k.2, OkR r
end
end Mir
set_option Elab.async false
set_option linter.all false
set_option maxRecDepth 100000
set_option maxHeartbeats 4000000
namespace Mir
open PySem PySem.Spec L2
noncomputable section
theorem sum_le_mul {α : Type} (f : α → Nat) (c : Nat) : ∀ l : List α, (∀ a ∈ l, f a ≤ c) → (l.map f).sum ≤ l.length * c
  | [], _ => by simp
  | a :: l, h => by
    have := sum_le_mul f c l fun x hx => h x (List.mem_cons_of_mem _ hx)
    have := h a List.mem_cons_self
    rw [List.map_cons, List.sum_cons, List.length_cons, Nat.succ_mul]
    omega
end
end Mir
set_option Elab.async false
set_option linter.all false
set_option maxRecDepth 100000
set_option maxHeartbeats 4000000
namespace Mir
open PySem PySem.Spec L2
noncomputable section
structure OkWd (w : List WdK) : Prop where
  ok : ∀ k ∈ w, OkK k
  some : w ≠ []
  few : w.length ≤ 100
  nd : (w.map (·.1)).Nodup
  names : ∀ k ∈ w, (k.2.map (·.1)).Nodup
  bare : ∀ k ∈ w, ∃ r ∈ k.2, r.2 = []
  told : ∀ k ∈ w, ∀ r ∈ k.2, ∀ b ∈ r.2, b ∈ w.map (·.1)
end
end Mir
set_option Elab.async false
set_option linter.all false
set_option maxRecDepth 100000
set_option maxHeartbeats 4000000
namespace Mir
open PySem PySem.Spec L2
noncomputable section
end
end Mir
set_option Elab.async false
set_option linter.all false
set_option maxRecDepth 100000
set_option maxHeartbeats 4000000
namespace Mir
open PySem PySem.Spec L2
noncomputable section
theorem glueW_len (s : List Nat) (h : s.length ≤ 3) : ∀ l : List (List Nat), (glue s l).length ≤ (l.map fun w => w.length + 3).sum
  | [] => by simp [glue]
  | a :: r => by
    have e : ∀ r : List (List Nat), ((r.map fun b => s ++ b).flatten).length ≤ (r.map fun w => w.length + 3).sum := fun r => by
      induction r with
      | nil => simp
      | cons b r ih =>
        rw [List.map_cons, List.flatten_cons, List.length_append, List.length_append, List.map_cons, List.sum_cons]
        omega
    have := e r
    rw [glue, List.length_append, List.map_cons, List.sum_cons]
    omega
theorem sum_plusW (l : List (List Nat)) : (l.map fun w => w.length + 3).sum = (l.map List.length).sum + l.length * 3 := by
  induction l with
  | nil => rfl
  | cons a l ih => rw [List.map_cons, List.sum_cons, List.map_cons, List.sum_cons, ih, List.length_cons, Nat.succ_mul]; omega
theorem gJoinL (s : List Nat) (hs : s.length ≤ 3) (l : List (List Nat)) (B : Nat) (hl : l.length ≤ 1000) (hb : ∀ w ∈ l, w.length ≤ B) (hB : B ≤ 10000) : gJoin (.str (tx s)) (.list (l.map fun w => .str (tx w))) = some (.str (tx (glue s l))) ∧ (glue s l).length ≤ l.length * (B + 3) := by
  have a := sum_le_mul (fun w : List Nat => w.length + 3) (B + 3) l fun w hw => by have := hb w hw; omega
  have b := glueW_len s hs l
  have c := sum_plusW l
  have d : l.length * (B + 3) ≤ 1000 * 10003 := Nat.mul_le_mul hl (by omega)
  have e : l.length * s.length ≤ l.length * 3 := Nat.mul_le_mul_left _ hs
  exact ⟨gJoin_tx s l (by omega), by omega⟩
theorem spW_is : (" " : Str) = tx [32] := by rw [tx_of (" " : Str)]; congr 1
end
end Mir
set_option Elab.async false
set_option linter.all false
set_option maxRecDepth 100000
set_option maxHeartbeats 4000000
namespace Mir
open PySem PySem.Spec L2
noncomputable section
end
end Mir
set_option Elab.async false
set_option linter.all false
set_option maxRecDepth 100000
set_option maxHeartbeats 4000000
namespace Mir
open PySem PySem.Spec L2
noncomputable section
section
variable {F G : Ev → R D} {env : Ev} {a b : List Wo}
end
end
end Mir
set_option Elab.async false
set_option linter.all false
set_option maxRecDepth 100000
set_option maxHeartbeats 4000000
namespace Mir
open PySem PySem.Spec L2
noncomputable section
end
end Mir
set_option Elab.async false
set_option linter.all false
set_option maxRecDepth 100000
set_option maxHeartbeats 4000000
namespace Mir
open PySem PySem.Spec L2
noncomputable section
section
variable {b : List Nat} {t f : Nat} {q : Bool} (ht : t < b.length) (hb : b.length ≤ 8) (hL : ∀ z ∈ b, isL z = true) (hf : f < 26) (hx : b[t]? = some (97 + f)) (hq : q = true → b.length = 8)
include ht hb hL hq in
include ht hf hx hq in
end
end
end Mir
set_option Elab.async false
set_option linter.all false
set_option maxRecDepth 100000
set_option maxHeartbeats 4000000
namespace Mir
open PySem PySem.Spec L2
inductive NT where
  | call (nm : List Nat) (k : Int)
  | put (nm : List Nat) (kp : Bool) (ad : Int) (z : Bool) (ps : List NT)
theorem NmW.hd {w : List Nat} (h : NmW w) : ∃ c r, w = c :: r ∧ isL c = true := by
  cases w with
  | nil => exact absurd rfl h.1
  | cons c r => exact ⟨c, r, rfl, h.2.1 c List.mem_cons_self⟩
end Mir
set_option Elab.async false
set_option linter.all false
set_option maxRecDepth 100000
set_option maxHeartbeats 4000000
noncomputable section
namespace Mir
open PySem PySem.Spec L2
abbrev TbE := Str × Str × List (Str × D)
def tbP (rs : List (Str × D)) : List (D × D) := rs.map fun p => (.str p.1, p.2)
end Mir
end
set_option Elab.async false
set_option linter.all false
set_option maxRecDepth 100000
set_option maxHeartbeats 4000000
noncomputable section
namespace Mir
open PySem PySem.Spec L2
structure TbOk (f : List D → R Ow) (WD : D) (e : TbE) : Prop where
  ok : PyData.strOk e.2.1 = true
  rows : ∃ rws : List Rw, (∃ o, f [WD, .str e.2.1] = .ok o ∧ viewD o = .list (rws.map encRw)) ∧ (∀ p ∈ e.2.2, p.1 ∈ rws.map (·.nm)) ∧ (∀ r ∈ rws, PyData.strOk r.nm = true) ∧ rws.length ≤ 1000
  nd : (e.2.2.map (·.1)).Nodup
  ne : e.2.2 ≠ []
  few : e.2.2.length ≤ 1000
end Mir
end
set_option Elab.async false
set_option linter.all false
set_option maxRecDepth 100000
set_option maxHeartbeats 4000000
noncomputable section
namespace Mir
open PySem PySem.Spec L2
/-- what the rules of one mode come to -/
structure MbOk (f9 f18 : List D → R Ow) (WD : D) (NL : D) (e : TbE) (ts : List D) : Prop where
  rows : ∃ rws : List Rw, (∃ o, f9 [WD, .str e.2.1] = .ok o ∧ viewD o = .list (rws.map encRw)) ∧ rws.length = ts.length ∧ ∀ (i : Nat) (r : Rw) (t : D), rws[i]? = some r → ts[i]? = some t → ∃ T, getP (tbP e.2.2) (.str r.nm) = some T ∧ f18 [T, NL] = .ok (.d t)
  ne : e.2.2 ≠ []
  few : ts.length ≤ 1000
end Mir
end
set_option Elab.async false
set_option linter.all false
set_option maxRecDepth 100000
set_option maxHeartbeats 4000000
noncomputable section
namespace Mir
open PySem PySem.Spec L2
end Mir
end
set_option Elab.async false
set_option linter.all false
set_option maxRecDepth 100000
set_option maxHeartbeats 4000000
noncomputable section
namespace Mir
open PySem PySem.Spec L2
theorem pow60 : (10 : Nat) ^ 60 < 2 ^ 1000 := by decide +kernel
end Mir
end
set_option Elab.async false
set_option linter.all false
set_option maxRecDepth 100000
set_option maxHeartbeats 4000000
namespace G
open PySem PySem.Spec L2 Mir
def top (i : Nat) : Stmt := PySem.Challenge.pw_turnery_k04_no_words.main.body.getD i (.Pass ⟨0, 0, 0, 0⟩)
abbrev s_run_end : Stmt := top 15
abbrev s_word_end : Stmt := top 16
abbrev s_words : Stmt := top 17
abbrev s_is_name : Stmt := top 18
abbrev s_is_number : Stmt := top 19
abbrev s_parted : Stmt := top 20
abbrev s_size : Stmt := top 22
abbrev s_tree_at : Stmt := top 24
abbrev s_read_tree : Stmt := top 25
abbrev s_term_size : Stmt := top 27
abbrev s_calls_of : Stmt := top 28
abbrev s_keeps_mark : Stmt := top 29
abbrev s_rows_of : Stmt := top 31
abbrev s_wood_again : Stmt := top 32
abbrev s_row_by : Stmt := top 33
abbrev s_kind_by : Stmt := top 34
abbrev s_look_over : Stmt := top 35
abbrev s_read_wood : Stmt := top 36
abbrev s_calls_fit : Stmt := top 38
abbrev s_is_sound : Stmt := top 39
abbrev s_mark_at : Stmt := top 41
abbrev s_call_at : Stmt := top 42
abbrev s_term_at : Stmt := top 43
abbrev s_term_by : Stmt := top 44
abbrev s_rule_by : Stmt := top 45
abbrev s_numbered : Stmt := top 46
abbrev s_table_by : Stmt := top 47
abbrev s_modes_by : Stmt := top 48
abbrev s_read_turning : Stmt := top 49
abbrev s__law_cell_at : Stmt := top 51
abbrev s__law_word_by : Stmt := top 52
abbrev s__law_figures : Stmt := top 53
abbrev s__law_letters : Stmt := top 54
abbrev s__law_bad_by : Stmt := top 55
abbrev s__law_refused : Stmt := top 56
abbrev s__law_read : Stmt := top 57
abbrev s_law : Stmt := top 58
/-- run_end: 0 text, 1 start, 2 signs, 3 end -/
noncomputable def b_run_end (m : Nat → List PyData → R Ow) : Ev → SR :=
    (sSeq (sSet 3 (eM (eVar 1) Ow.d))
    (sSeq (whileN (tAndE (eB (eBin gLt (eVar 3) (eM (eCa gLen (aCons (eVar 0) aNil)) viewD)) asB) (eB (eBin gIn (eBin gIx (eVar 0) (eVar 3)) (eVar 2)) asB))
    (sAug gAddA 3 (eC (.int 1))) 1000000)
    (sRet (eM (eVar 3) Ow.d))))
/-- word_end: 0 text, 1 start, 2 end, 3 first -/
noncomputable def b_word_end (m : Nat → List PyData → R Ow) : Ev → SR :=
    (sSeq (sIf (eB (eBin gIn (eBin gIx (eVar 0) (eVar 1)) (eC (.str "();:=|*"))) asB)
    (sRet (eBinO gAdd (eVar 1) (eC (.int 1))))
    sSkip)
    (sSeq (sSet 2 (eM (eM (eB (aCons (eVar 0) (aCons (eVar 1) (aCons (eC (.str "abcdefghijklmnopqrstuvwxyz")) aNil))) (m 0)) viewD) Ow.d))
    (sSeq (sIf (eB (eBin gGt (eVar 2) (eVar 1)) asB)
    (sSeq (sIf (eB (eBin gGt (eBin gSub (eVar 2) (eVar 1)) (eC (.int 8))) asB)
    (sRaise "NoText")
    sSkip)
    (sRet (eM (eVar 2) Ow.d)))
    sSkip)
    (sSeq (sSet 3 (eM (eM (eBinO gAdd (eVar 1) (eB (eCa gInt (aCons (eBin gEq (eBin gIx (eVar 0) (eVar 1)) (eC (.str "-"))) aNil)) shD)) viewD) Ow.d))
    (sSeq (sSet 2 (eM (eM (eB (aCons (eVar 0) (aCons (eVar 3) (aCons (eC (.str "0123456789")) aNil))) (m 0)) viewD) Ow.d))
    (sSeq (sIf (tOrE (eB (eBin gEq (eVar 2) (eVar 3)) asB) (eB (eBin gGt (eBin gSub (eVar 2) (eVar 3)) (eC (.int 60))) asB))
    (sRaise "NoText")
    sSkip)
    (sSeq (sIf (tAndE (eB (eBin gEq (eBin gIx (eVar 0) (eVar 3)) (eC (.str "0"))) asB) (tOrE (eB (eBin gGt (eBin gSub (eVar 2) (eVar 3)) (eC (.int 1))) asB) (eB (eBin gGt (eVar 3) (eVar 1)) asB)))
    (sRaise "NoText")
    sSkip)
    (sRet (eM (eVar 2) Ow.d)))))))))
/-- words: 0 text, 1 found, 2 here, 3 end -/
noncomputable def b_words (m : Nat → List PyData → R Ow) : Ev → SR :=
    (sSeq (sIf (tNotE (eB (eB (eVar 0) (gIsiW "str")) asB))
    (sRaise "NoText")
    sSkip)
    (sSeq (sSet 1 (eLst aNil))
    (sSeq (sSet 2 (eM (eC (.int 0)) Ow.d))
    (sSeq (whileN (eB (eBin gLt (eVar 2) (eM (eCa gLen (aCons (eVar 0) aNil)) viewD)) asB)
    (sSeq (sIf (eB (eBin gEq (eBin gIx (eVar 0) (eVar 2)) (eC (.str " "))) asB)
    (sSeq (sAug gAddA 2 (eC (.int 1)))
    sCont)
    sSkip)
    (sSeq (sSet 3 (eM (eM (eB (aCons (eVar 0) (aCons (eVar 2) aNil)) (m 1)) viewD) Ow.d))
    (sSeq (sApp 1 (eSl (eVar 0) (eB (eVar 2) asI) (eB (eVar 3) asI)))
    (sSet 2 (eM (eVar 3) Ow.d))))) 1000000)
    (sRetV 1)))))
/-- is_name: 0 word -/
noncomputable def b_is_name (m : Nat → List PyData → R Ow) : Ev → SR :=
    (sRet (eM (eBin gIn (eBin gIx (eVar 0) (eC (.int 0))) (eC (.str "abcdefghijklmnopqrstuvwxyz"))) Ow.d))
/-- is_number: 0 word -/
noncomputable def b_is_number (m : Nat → List PyData → R Ow) : Ev → SR :=
    (sRet (eM (eBin gIn (eBin gIx (eVar 0) (eB (eC (.int 1)) gNeg)) (eC (.str "0123456789"))) Ow.d))
/-- parted: 0 row, 1 sign, 2 parts, 3 word -/
noncomputable def b_parted (m : Nat → List PyData → R Ow) : Ev → SR :=
    (sSeq (sSet 2 (eLstO (oCons (eLst aNil) oNil)))
    (sSeq (sFor (eB (eVar 0) itD) (gtName 3)
    (sIf (eB (eBin gEq (eVar 3) (eVar 1)) asB)
    (sApp 2 (eLst aNil))
    (sApp1 2 (eB (eC (.int 1)) gNeg) (eM (eVar 3) Ow.d))))
    (sRetV 2)))
/-- size: 0 tree, 1 total, 2 branch -/
noncomputable def b_size (m : Nat → List PyData → R Ow) : Ev → SR :=
    (sSeq (sSet 1 (eM (eC (.int 1)) Ow.d))
    (sSeq (sFor (eB (eBin gIx (eVar 0) (eC (.int 2))) itD) (gtName 2)
    (sAug gAddA 1 (eM (eB (aCons (eVar 2) aNil) (m 6)) viewD)))
    (sRet (eM (eVar 1) Ow.d))))
/-- tree_at: 0 row, 1 here, 2 level, 3 name, 4 mark, 5 branches, 6 branch -/
noncomputable def b_tree_at (m : Nat → List PyData → R Ow) : Ev → SR :=
    (sSeq (sIf (tOrE (eB (eBin gGt (eVar 2) (eC (.int 40))) asB) (tOrE (eB (eBin gGe (eVar 1) (eM (eCa gLen (aCons (eVar 0) aNil)) viewD)) asB) (tNotE (eB (eM (eB (aCons (eBin gIx (eVar 0) (eVar 1)) aNil) (m 3)) viewD) asB))))
    (sRaise "NoText")
    sSkip)
    (sSeq (sSet 3 (eM (eBin gIx (eVar 0) (eVar 1)) Ow.d))
    (sSeq (sAug gAddA 1 (eC (.int 1)))
    (sSeq (sSet 4 (eM (eC (.int 0)) Ow.d))
    (sSeq (sIf (tAndE (eB (eBin gLt (eVar 1) (eM (eCa gLen (aCons (eVar 0) aNil)) viewD)) asB) (eB (eM (eB (aCons (eBin gIx (eVar 0) (eVar 1)) aNil) (m 4)) viewD) asB))
    (sSeq (sSet 4 (eM (eM (eCa gInt (aCons (eBin gIx (eVar 0) (eVar 1)) aNil)) viewD) Ow.d))
    (sAug gAddA 1 (eC (.int 1))))
    sSkip)
    (sSeq (sSet 5 (eLst aNil))
    (sSeq (sIf (tAndE (eB (eBin gLt (eVar 1) (eM (eCa gLen (aCons (eVar 0) aNil)) viewD)) asB) (eB (eBin gEq (eBin gIx (eVar 0) (eVar 1)) (eC (.str "("))) asB))
    (sSeq (sAug gAddA 1 (eC (.int 1)))
    (sSeq (whileN (tOrE (eB (eBin gGe (eVar 1) (eM (eCa gLen (aCons (eVar 0) aNil)) viewD)) asB) (eB (eBin gNe (eBin gIx (eVar 0) (eVar 1)) (eC (.str ")"))) asB))
    (sSeq (sAsg (gtTup 2 (gtCons (gtName 6) (gtCons (gtName 1) gtNil))) (eM (eB (aCons (eVar 0) (aCons (eVar 1) (aCons (eM (eBinO gAdd (eVar 2) (eC (.int 1))) viewD) aNil))) (m 7)) viewD))
    (sApp 5 (eM (eVar 6) Ow.d))) 1000000)
    (sSeq (sIf (eB (eBin gEq (eM (eVarO 5) viewD) (eM (eLst aNil) viewD)) asB)
    (sRaise "NoText")
    sSkip)
    (sAug gAddA 1 (eC (.int 1))))))
    sSkip)
    (sRet (eM (eTup (aCons (eTup (aCons (eVar 3) (aCons (eVar 4) (aCons (eM (eCa gTuple (aCons (eB (eVarO 5) shD) aNil)) viewD) aNil)))) (aCons (eVar 1) aNil))) Ow.d)))))))))
/-- read_tree: 0 text, 1 row, 2 tree, 3 end -/
noncomputable def b_read_tree (m : Nat → List PyData → R Ow) : Ev → SR :=
    (sSeq (sSet 1 (eM (eM (eB (aCons (eVar 0) aNil) (m 2)) viewD) Ow.d))
    (sSeq (sAsg (gtTup 2 (gtCons (gtName 2) (gtCons (gtName 3) gtNil))) (eM (eB (aCons (eVar 1) (aCons (eC (.int 0)) (aCons (eC (.int 1)) aNil))) (m 7)) viewD))
    (sSeq (sIf (tOrE (eB (eBin gNe (eVar 3) (eM (eCa gLen (aCons (eVar 1) aNil)) viewD)) asB) (eB (eBin gGt (eM (eB (aCons (eVar 2) aNil) (m 6)) viewD) (eC (.int 200))) asB))
    (sRaise "NoText")
    sSkip)
    (sRet (eM (eVar 2) Ow.d)))))
/-- term_size: 0 term, 1 part -/
noncomputable def b_term_size (m : Nat → List PyData → R Ow) : Ev → SR :=
    (sSeq (sIf (eB (eBin gEq (eBin gIx (eVar 0) (eC (.int 0))) (eC (.str "call"))) asB)
    (sRet (eM (eC (.int 1)) Ow.d))
    sSkip)
    (sRet (eBinO gAdd (eC (.int 1)) (eB (eCa gSum (aCons (eB (eLc (eB (eBin gIx (eVar 0) (eC (.int 4))) itD) (gtName 1) cYes (eB (aCons (eVar 1) aNil) (m 9)) (List.map (·.2) ([("part", 1)] : List (Str × Nat)))) shD) aNil)) shD))))
/-- calls_of: 0 term, 1 found, 2 part -/
noncomputable def b_calls_of (m : Nat → List PyData → R Ow) : Ev → SR :=
    (sSeq (sIf (eB (eBin gEq (eBin gIx (eVar 0) (eC (.int 0))) (eC (.str "call"))) asB)
    (sRet (eLst (aCons (eTup (aCons (eBin gIx (eVar 0) (eC (.int 1))) (aCons (eBin gIx (eVar 0) (eC (.int 2))) aNil))) aNil)))
    sSkip)
    (sSeq (sSet 1 (eLst aNil))
    (sSeq (sFor (eB (eBin gIx (eVar 0) (eC (.int 4))) itD) (gtName 2)
    (sExt 1 (eB (eB (aCons (eVar 2) aNil) (m 10)) shD)))
    (sRetV 1))))
/-- keeps_mark: 0 term, 1 part -/
noncomputable def b_keeps_mark (m : Nat → List PyData → R Ow) : Ev → SR :=
    (sSeq (sIf (eB (eBin gEq (eBin gIx (eVar 0) (eC (.int 0))) (eC (.str "call"))) asB)
    (sRet (eM (eC (.bool false)) Ow.d))
    sSkip)
    (sRet (eM (eOr (eBin gIx (eVar 0) (eC (.int 2))) (eM (eCa gAny (aCons (eB (eLc (eB (eBin gIx (eVar 0) (eC (.int 4))) itD) (gtName 1) cYes (eB (aCons (eVar 1) aNil) (m 11)) (List.map (·.2) ([("part", 1)] : List (Str × Nat)))) shD) aNil)) viewD)) Ow.d)))
/-- rows_of: 0 wood, 1 kind, 2 told, 3 rows -/
noncomputable def b_rows_of (m : Nat → List PyData → R Ow) : Ev → SR :=
    (sSeq (sFor (eB (eVar 0) itD) (gtTup 2 (gtCons (gtName 2) (gtCons (gtName 3) gtNil)))
    (sIf (eB (eBin gEq (eVar 2) (eVar 1)) asB)
    (sRet (eM (eVar 3) Ow.d))
    sSkip))
    (sRet (eLst aNil)))
/-- wood_again: 0 wood, 1 kind, 2 rows -/
noncomputable def b_wood_again (m : Nat → List PyData → R Ow) : Ev → SR :=
    (sRet (eLc (eB (eVar 0) itD) (gtTup 2 (gtCons (gtName 1) (gtCons (gtName 2) gtNil))) cYes (eM (eTup (aCons (eVar 1) (aCons (eM (eCa gList (aCons (eVar 2) aNil)) viewD) aNil))) Ow.d) (List.map (·.2) ([("kind", 1), ("rows", 2)] : List (Str × Nat)))))
/-- row_by: 0 part, 1 kinds, 2 kind -/
noncomputable def b_row_by (m : Nat → List PyData → R Ow) : Ev → SR :=
    (sSeq (sIf (tOrE (eB (eBin gEq (eVar 0) (eM (eLst aNil) viewD)) asB) (tNotE (eB (eM (eB (aCons (eBin gIx (eVar 0) (eC (.int 0))) aNil) (m 3)) viewD) asB)))
    (sRaise "NoText")
    sSkip)
    (sSeq (sIf (eB (eBin gEq (eM (eCa gLen (aCons (eVar 0) aNil)) viewD) (eC (.int 1))) asB)
    (sRet (eM (eTup (aCons (eBin gIx (eVar 0) (eC (.int 0))) (aCons (eTup aNil) aNil))) Ow.d))
    sSkip)
    (sSeq (sSet 1 (eM (eM (eSl (eVar 0) (eB (eC (.int 2)) asI) (eB (eB (eC (.int 1)) gNeg) asI)) viewD) Ow.d))
    (sSeq (sIf (tOrE (eB (eBin gNe (eBin gIx (eVar 0) (eC (.int 1))) (eC (.str "("))) asB) (tOrE (eB (eBin gNe (eBin gIx (eVar 0) (eB (eC (.int 1)) gNeg)) (eC (.str ")"))) asB) (tOrE (eB (eBin gEq (eVar 1) (eM (eLst aNil) viewD)) asB) (eB (eBin gGt (eM (eCa gLen (aCons (eVar 1) aNil)) viewD) (eC (.int 4))) asB))))
    (sRaise "NoText")
    sSkip)
    (sSeq (sFor (eB (eVar 1) itD) (gtName 2)
    (sIf (tNotE (eB (eM (eB (aCons (eVar 2) aNil) (m 3)) viewD) asB))
    (sRaise "NoText")
    sSkip))
    (sRet (eM (eTup (aCons (eBin gIx (eVar 0) (eC (.int 0))) (aCons (eM (eCa gTuple (aCons (eVar 1) aNil)) viewD) aNil))) Ow.d)))))))
/-- kind_by: 0 part, 1 row -/
noncomputable def b_kind_by (m : Nat → List PyData → R Ow) : Ev → SR :=
    (sSeq (sIf (tOrE (eB (eBin gLt (eM (eCa gLen (aCons (eVar 0) aNil)) viewD) (eC (.int 3))) asB) (tOrE (tNotE (eB (eM (eB (aCons (eBin gIx (eVar 0) (eC (.int 0))) aNil) (m 3)) viewD) asB)) (eB (eBin gNe (eBin gIx (eVar 0) (eC (.int 1))) (eC (.str "="))) asB)))
    (sRaise "NoText")
    sSkip)
    (sRet (eM (eTup (aCons (eBin gIx (eVar 0) (eC (.int 0))) (aCons (eM (eLc (eB (eM (eB (aCons (eM (eSl (eVar 0) (eB (eC (.int 2)) asI) oNone) viewD) (aCons (eC (.str "|")) aNil)) (m 5)) viewD) itD) (gtName 1) cYes (eB (aCons (eVar 1) aNil) (m 14)) (List.map (·.2) ([("row", 1)] : List (Str × Nat)))) viewD) aNil))) Ow.d)))
/-- look_over: 0 wood, 1 kinds, 2 kind, 3 rows, 4 names, 5 name, 6 branches, 7 wanted -/
noncomputable def b_look_over (m : Nat → List PyData → R Ow) : Ev → SR :=
    (sSeq (sSet 1 (eM (eM (eLc (eB (eVar 0) itD) (gtTup 2 (gtCons (gtName 2) (gtCons (gtName 3) gtNil))) cYes (eM (eVar 2) Ow.d) (List.map (·.2) ([("kind", 2), ("rows", 3)] : List (Str × Nat)))) viewD) Ow.d))
    (sSeq (sIf (eB (eBin gLt (eB (eVar 1) gLenSet) (eM (eCa gLen (aCons (eVar 1) aNil)) viewD)) asB)
    (sRaise "NoWood")
    sSkip)
    (sFor (eB (eVar 0) itD) (gtTup 2 (gtCons (gtName 2) (gtCons (gtName 3) gtNil)))
    (sSeq (sSet 4 (eM (eM (eLc (eB (eVar 3) itD) (gtTup 2 (gtCons (gtName 5) (gtCons (gtName 6) gtNil))) cYes (eM (eVar 5) Ow.d) (List.map (·.2) ([("name", 5), ("branches", 6)] : List (Str × Nat)))) viewD) Ow.d))
    (sSeq (sIf (eB (eBin gLt (eB (eVar 4) gLenSet) (eM (eCa gLen (aCons (eVar 4) aNil)) viewD)) asB)
    (sRaise "NoWood")
    sSkip)
    (sSeq (sIf (eB (eBin gNotIn (eTup aNil) (eM (eLc (eB (eVar 3) itD) (gtTup 2 (gtCons (gtName 5) (gtCons (gtName 6) gtNil))) cYes (eM (eVar 6) Ow.d) (List.map (·.2) ([("name", 5), ("branches", 6)] : List (Str × Nat)))) viewD)) asB)
    (sRaise "NoWood")
    sSkip)
    (sFor (eB (eVar 3) itD) (gtTup 2 (gtCons (gtName 5) (gtCons (gtName 6) gtNil)))
    (sFor (eB (eVar 6) itD) (gtName 7)
    (sIf (eB (eBin gNotIn (eVar 7) (eVar 1)) asB)
    (sRaise "NoWood")
    sSkip)))))))))
/-- read_wood: 0 text, 1 wood, 2 part, 3 kind, 4 rows -/
noncomputable def b_read_wood (m : Nat → List PyData → R Ow) : Ev → SR :=
    (sSeq (sSet 1 (eM (eM (eLc (eB (eM (eB (aCons (eM (eB (aCons (eVar 0) aNil) (m 2)) viewD) (aCons (eC (.str ";")) aNil)) (m 5)) viewD) itD) (gtName 2) cYes (eB (aCons (eVar 2) aNil) (m 15)) (List.map (·.2) ([("part", 2)] : List (Str × Nat)))) viewD) Ow.d))
    (sSeq (sIf (tOrE (eB (eBin gGt (eM (eCa gLen (aCons (eVar 1) aNil)) viewD) (eC (.int 6))) asB) (eB (eBin gGt (eM (eCa gSum (aCons (eB (eLc (eB (eVar 1) itD) (gtTup 2 (gtCons (gtName 3) (gtCons (gtName 4) gtNil))) cYes (eCa gLen (aCons (eVar 4) aNil)) (List.map (·.2) ([("kind", 3), ("rows", 4)] : List (Str × Nat)))) shD) aNil)) viewD) (eC (.int 16))) asB))
    (sRaise "NoText")
    sSkip)
    (sSeq (sDrop (eM (eB (aCons (eVar 1) aNil) (m 16)) viewD))
    (sRet (eLc (eB (eVar 1) itD) (gtTup 2 (gtCons (gtName 3) (gtCons (gtName 4) gtNil))) cYes (eM (eTup (aCons (eVar 3) (aCons (eM (eCa gSorted (aCons (eVar 4) aNil)) viewD) aNil))) Ow.d) (List.map (·.2) ([("kind", 3), ("rows", 4)] : List (Str × Nat))))))))
/-- calls_fit: 0 term, 1 branches, 2 modes, 3 mode, 4 branch -/
noncomputable def b_calls_fit (m : Nat → List PyData → R Ow) : Ev → SR :=
    (sSeq (sFor (eB (eM (eB (aCons (eVar 0) aNil) (m 10)) viewD) itD) (gtTup 2 (gtCons (gtName 3) (gtCons (gtName 4) gtNil)))
    (sSeq (sIf (tOrE (eB (eBin gLt (eVar 3) (eC (.int 0))) asB) (tOrE (eB (eBin gGe (eVar 3) (eM (eCa gLen (aCons (eVar 2) aNil)) viewD)) asB) (tOrE (eB (eBin gLt (eVar 4) (eC (.int 0))) asB) (eB (eBin gGe (eVar 4) (eM (eCa gLen (aCons (eVar 1) aNil)) viewD)) asB))))
    (sRet (eM (eC (.bool false)) Ow.d))
    sSkip)
    (sIf (eB (eBin gNe (eBin gIx (eBin gIx (eVar 2) (eVar 3)) (eC (.int 0))) (eBin gIx (eVar 1) (eVar 4))) asB)
    (sRet (eM (eC (.bool false)) Ow.d))
    sSkip)))
    (sRet (eM (eC (.bool true)) Ow.d)))
/-- is_sound: 0 wood, 1 start, 2 modes, 3 kinds, 4 kind, 5 rows, 6 rules, 7 row, 8 rule -/
noncomputable def b_is_sound (m : Nat → List PyData → R Ow) : Ev → SR :=
    (sSeq (sIf (tOrE (eB (eM (eB (aCons (eVar 1) aNil) (m 11)) viewD) asB) (tNotE (eB (eM (eB (aCons (eVar 1) (aCons (eTup (aCons (eBin gIx (eBin gIx (eVar 0) (eC (.int 0))) (eC (.int 0))) aNil)) (aCons (eVar 2) aNil))) (m 18)) viewD) asB)))
    (sRet (eM (eC (.bool false)) Ow.d))
    sSkip)
    (sSeq (sSet 3 (eM (eM (eLc (eB (eVar 0) itD) (gtTup 2 (gtCons (gtName 4) (gtCons (gtName 5) gtNil))) cYes (eM (eVar 4) Ow.d) (List.map (·.2) ([("kind", 4), ("rows", 5)] : List (Str × Nat)))) viewD) Ow.d))
    (sSeq (sFor (eB (eVar 2) itD) (gtTup 2 (gtCons (gtName 4) (gtCons (gtName 6) gtNil)))
    (sSeq (sSet 5 (eM (eM (eB (aCons (eVar 0) (aCons (eVar 4) aNil)) (m 12)) viewD) Ow.d))
    (sSeq (sIf (tOrE (eB (eBin gNotIn (eVar 4) (eVar 3)) asB) (eB (eBin gNe (eM (eCa gLen (aCons (eVar 6) aNil)) viewD) (eM (eCa gLen (aCons (eVar 5) aNil)) viewD)) asB))
    (sRet (eM (eC (.bool false)) Ow.d))
    sSkip)
    (sFor (eB (aCons (eVar 5) (aCons (eVar 6) aNil)) zpArg) (gtTup 2 (gtCons (gtName 7) (gtCons (gtName 8) gtNil)))
    (sIf (tNotE (eB (eM (eB (aCons (eVar 8) (aCons (eBin gIx (eVar 7) (eC (.int 1))) (aCons (eVar 2) aNil))) (m 18)) viewD) asB))
    (sRet (eM (eC (.bool false)) Ow.d))
    sSkip)))))
    (sRet (eM (eC (.bool true)) Ow.d)))))
/-- mark_at: 0 row, 1 here, 2 kept -/
noncomputable def b_mark_at (m : Nat → List PyData → R Ow) : Ev → SR :=
    (sSeq (sSet 2 (eM (eAnd (eBin gLt (eVar 1) (eM (eCa gLen (aCons (eVar 0) aNil)) viewD)) (eBin gEq (eBin gIx (eVar 0) (eVar 1)) (eC (.str "=")))) Ow.d))
    (sSeq (sIf (eB (eVar 2) asB)
    (sAug gAddA 1 (eC (.int 1)))
    sSkip)
    (sSeq (sIf (tAndE (eB (eBin gLt (eVar 1) (eM (eCa gLen (aCons (eVar 0) aNil)) viewD)) asB) (eB (eM (eB (aCons (eBin gIx (eVar 0) (eVar 1)) aNil) (m 4)) viewD) asB))
    (sRet (eM (eTup (aCons (eVar 2) (aCons (eM (eCa gInt (aCons (eBin gIx (eVar 0) (eVar 1)) aNil)) viewD) (aCons (eM (eBinO gAdd (eVar 1) (eC (.int 1))) viewD) aNil)))) Ow.d))
    sSkip)
    (sRet (eM (eTup (aCons (eVar 2) (aCons (eC (.int 0)) (aCons (eVar 1) aNil)))) Ow.d)))))
/-- call_at: 0 row, 1 here -/
noncomputable def b_call_at (m : Nat → List PyData → R Ow) : Ev → SR :=
    (sSeq (sIf (tOrE (eB (eBin gGe (eM (eBinO gAdd (eVar 1) (eC (.int 2))) viewD) (eM (eCa gLen (aCons (eVar 0) aNil)) viewD)) asB) (tOrE (tNotE (eB (eM (eB (aCons (eBin gIx (eVar 0) (eM (eBinO gAdd (eVar 1) (eC (.int 1))) viewD)) aNil) (m 3)) viewD) asB)) (tNotE (eB (eM (eB (aCons (eBin gIx (eVar 0) (eM (eBinO gAdd (eVar 1) (eC (.int 2))) viewD)) aNil) (m 4)) viewD) asB))))
    (sRaise "NoText")
    sSkip)
    (sRet (eM (eTup (aCons (eTup (aCons (eC (.str "call")) (aCons (eBin gIx (eVar 0) (eM (eBinO gAdd (eVar 1) (eC (.int 1))) viewD)) (aCons (eM (eCa gInt (aCons (eBin gIx (eVar 0) (eM (eBinO gAdd (eVar 1) (eC (.int 2))) viewD)) aNil)) viewD) aNil)))) (aCons (eM (eBinO gAdd (eVar 1) (eC (.int 3))) viewD) aNil))) Ow.d)))
/-- term_at: 0 row, 1 here, 2 depth, 3 name, 4 kept, 5 add, 6 parts, 7 part -/
noncomputable def b_term_at (m : Nat → List PyData → R Ow) : Ev → SR :=
    (sSeq (sIf (tAndE (eB (eBin gLt (eVar 1) (eM (eCa gLen (aCons (eVar 0) aNil)) viewD)) asB) (eB (eBin gEq (eBin gIx (eVar 0) (eVar 1)) (eC (.str "*"))) asB))
    (sRet (eB (aCons (eVar 0) (aCons (eVar 1) aNil)) (m 21)))
    sSkip)
    (sSeq (sIf (tOrE (eB (eBin gGe (eVar 1) (eM (eCa gLen (aCons (eVar 0) aNil)) viewD)) asB) (tNotE (eB (eM (eB (aCons (eBin gIx (eVar 0) (eVar 1)) aNil) (m 3)) viewD) asB)))
    (sRaise "NoText")
    sSkip)
    (sSeq (sSet 3 (eM (eBin gIx (eVar 0) (eVar 1)) Ow.d))
    (sSeq (sAsg (gtTup 3 (gtCons (gtName 4) (gtCons (gtName 5) (gtCons (gtName 1) gtNil)))) (eM (eB (aCons (eVar 0) (aCons (eM (eBinO gAdd (eVar 1) (eC (.int 1))) viewD) aNil)) (m 20)) viewD))
    (sSeq (sSet 6 (eLst aNil))
    (sSeq (sIf (tAndE (eB (eBin gLt (eVar 1) (eM (eCa gLen (aCons (eVar 0) aNil)) viewD)) asB) (eB (eBin gEq (eBin gIx (eVar 0) (eVar 1)) (eC (.str "("))) asB))
    (sSeq (sIf (eB (eBin gEq (eVar 2) (eC (.int 8))) asB)
    (sRaise "NoText")
    sSkip)
    (sSeq (sAug gAddA 1 (eC (.int 1)))
    (sSeq (whileN (tOrE (eB (eBin gGe (eVar 1) (eM (eCa gLen (aCons (eVar 0) aNil)) viewD)) asB) (eB (eBin gNe (eBin gIx (eVar 0) (eVar 1)) (eC (.str ")"))) asB))
    (sSeq (sAsg (gtTup 2 (gtCons (gtName 7) (gtCons (gtName 1) gtNil))) (eM (eB (aCons (eVar 0) (aCons (eVar 1) (aCons (eM (eBinO gAdd (eVar 2) (eC (.int 1))) viewD) aNil))) (m 22)) viewD))
    (sApp 6 (eM (eVar 7) Ow.d))) 1000000)
    (sSeq (sIf (eB (eBin gEq (eM (eVarO 6) viewD) (eM (eLst aNil) viewD)) asB)
    (sRaise "NoText")
    sSkip)
    (sAug gAddA 1 (eC (.int 1)))))))
    sSkip)
    (sRet (eM (eTup (aCons (eTup (aCons (eC (.str "put")) (aCons (eVar 3) (aCons (eVar 4) (aCons (eVar 5) (aCons (eM (eCa gTuple (aCons (eB (eVarO 6) shD) aNil)) viewD) aNil)))))) (aCons (eVar 1) aNil))) Ow.d))))))))
/-- term_by: 0 row, 1 term, 2 end -/
noncomputable def b_term_by (m : Nat → List PyData → R Ow) : Ev → SR :=
    (sSeq (sAsg (gtTup 2 (gtCons (gtName 1) (gtCons (gtName 2) gtNil))) (eM (eB (aCons (eVar 0) (aCons (eC (.int 0)) (aCons (eC (.int 0)) aNil))) (m 22)) viewD))
    (sSeq (sIf (eB (eBin gNe (eVar 2) (eM (eCa gLen (aCons (eVar 0) aNil)) viewD)) asB)
    (sRaise "NoText")
    sSkip)
    (sRet (eM (eVar 1) Ow.d))))
/-- rule_by: 0 part, 1 word -/
noncomputable def b_rule_by (m : Nat → List PyData → R Ow) : Ev → SR :=
    (sSeq (sIf (tOrE (eB (eBin gLt (eM (eCa gLen (aCons (eVar 0) aNil)) viewD) (eC (.int 5))) asB) (eB (eBin gNe (eBin gIx (eVar 0) (eC (.int 3))) (eC (.str ":"))) asB))
    (sRaise "NoText")
    sSkip)
    (sSeq (sFor (eB (eM (eSl (eVar 0) oNone (eB (eC (.int 3)) asI)) viewD) itD) (gtName 1)
    (sIf (tNotE (eB (eM (eB (aCons (eVar 1) aNil) (m 3)) viewD) asB))
    (sRaise "NoText")
    sSkip))
    (sRet (eM (eTup (aCons (eBin gIx (eVar 0) (eC (.int 0))) (aCons (eBin gIx (eVar 0) (eC (.int 1))) (aCons (eBin gIx (eVar 0) (eC (.int 2))) (aCons (eM (eB (aCons (eM (eSl (eVar 0) (eB (eC (.int 4)) asI) oNone) viewD) aNil) (m 23)) viewD) aNil))))) Ow.d))))
/-- numbered: 0 term, 1 names, 2 part -/
noncomputable def b_numbered (m : Nat → List PyData → R Ow) : Ev → SR :=
    (sSeq (sIf (eB (eBin gEq (eBin gIx (eVar 0) (eC (.int 0))) (eC (.str "call"))) asB)
    (sSeq (sIf (eB (eBin gNotIn (eBin gIx (eVar 0) (eC (.int 1))) (eVar 1)) asB)
    (sRaise "NoTurning")
    sSkip)
    (sRet (eM (eTup (aCons (eC (.str "call")) (aCons (eLsIndex (eVar 1) (eBin gIx (eVar 0) (eC (.int 1)))) (aCons (eBin gIx (eVar 0) (eC (.int 2))) aNil)))) Ow.d)))
    sSkip)
    (sRet (eM (eTup (aCons (eC (.str "put")) (aCons (eBin gIx (eVar 0) (eC (.int 1))) (aCons (eBin gIx (eVar 0) (eC (.int 2))) (aCons (eBin gIx (eVar 0) (eC (.int 3))) (aCons (eM (eCa gTuple (aCons (eB (eLc (eB (eBin gIx (eVar 0) (eC (.int 4))) itD) (gtName 2) cYes (eB (aCons (eVar 2) (aCons (eVar 1) aNil)) (m 25)) (List.map (·.2) ([("part", 2)] : List (Str × Nat)))) shD) aNil)) viewD) aNil)))))) Ow.d)))
/-- table_by: 0 wood, 1 rules, 2 table, 3 mode, 4 kind, 5 name, 6 term, 7 told, 8 branches -/
noncomputable def b_table_by (m : Nat → List PyData → R Ow) : Ev → SR :=
    (sSeq (sSet 2 eDictNewK)
    (sSeq (sFor (eB (eVar 1) itD) (gtTup 4 (gtCons (gtName 3) (gtCons (gtName 4) (gtCons (gtName 5) (gtCons (gtName 6) gtNil)))))
    (sSeq (sFrz 7 (sIf (eB (eBin gNotIn (eVar 5) (eM (eLc (eB (eM (eB (aCons (eVar 0) (aCons (eVar 4) aNil)) (m 12)) viewD) itD) (gtTup 2 (gtCons (gtName 7) (gtCons (gtName 8) gtNil))) cYes (eM (eVar 7) Ow.d) (List.map (·.2) ([("told", 7), ("branches", 8)] : List (Str × Nat)))) viewD)) asB)
    (sRaise "NoTurning")
    sSkip))
    (sBorD 2 7 (eVar 3) (eTupO (oCons (eM (eVar 4) Ow.d) (oCons eDictNew oNil)))
    (sSeq (sIf (tOrE (eB (eBin gNe (ePtD (pIx (pVar 7) (eC (.int 0)))) (eVar 4)) asB) (eB (eInPM false (eVar 5) (pIx (pVar 7) (eC (.int 1)))) asB))
    (sRaise "NoTurning")
    sSkip)
    (sPPutM (pIx (pVar 7) (eC (.int 1))) (eVar 5) (eVar 6))))))
    (sRetV 2)))
/-- modes_by: 0 wood, 1 table, 2 names, 3 modes, 4 kind, 5 terms, 6 rules, 7 name, 8 branches -/
noncomputable def b_modes_by (m : Nat → List PyData → R Ow) : Ev → SR :=
    (sSeq (sSet 2 (eM (eM (eListKD (eVar 1)) viewD) Ow.d))
    (sSeq (sSet 3 (eLst aNil))
    (sSeq (sForVD 1 (gtTup 2 (gtCons (gtName 4) (gtCons (gtName 5) gtNil)))
    (sSeq (sSet 6 (eLst aNil))
    (sSeq (sFor (eB (eM (eB (aCons (eVar 0) (aCons (eVar 4) aNil)) (m 12)) viewD) itD) (gtTup 2 (gtCons (gtName 7) (gtCons (gtName 8) gtNil)))
    (sSeq (sIf (eB (eBin (gInDD true) (eVar 7) (eVar 5)) asB)
    (sRaise "NoTurning")
    sSkip)
    (sApp 6 (eB (aCons (eBin gGetD (eVar 5) (eVar 7)) (aCons (eVar 2) aNil)) (m 25)))))
    (sFrz 6 (sApp 3 (eM (eTup (aCons (eVar 4) (aCons (eVar 6) aNil))) Ow.d))))))
    (sRetV 3))))
/-- read_turning: 0 wood, 1 text, 2 parts, 3 start, 4 rules, 5 part, 6 total, 7 rule, 8 table, 9 modes -/
noncomputable def b_read_turning (m : Nat → List PyData → R Ow) : Ev → SR :=
    (sSeq (sSet 2 (eM (eM (eB (aCons (eM (eB (aCons (eVar 1) aNil) (m 2)) viewD) (aCons (eC (.str ";")) aNil)) (m 5)) viewD) Ow.d))
    (sSeq (sSet 3 (eM (eM (eB (aCons (eBin gIx (eVar 2) (eC (.int 0))) aNil) (m 23)) viewD) Ow.d))
    (sSeq (sSet 4 (eM (eM (eLc (eB (eM (eSl (eVar 2) (eB (eC (.int 1)) asI) oNone) viewD) itD) (gtName 5) cYes (eB (aCons (eVar 5) aNil) (m 24)) (List.map (·.2) ([("part", 5)] : List (Str × Nat)))) viewD) Ow.d))
    (sSeq (sSet 6 (eM (eM (eBinO gAdd (eB (eB (aCons (eVar 3) aNil) (m 9)) shD) (eB (eCa gSum (aCons (eB (eLc (eB (eVar 4) itD) (gtName 7) cYes (eB (aCons (eBin gIx (eVar 7) (eC (.int 3))) aNil) (m 9)) (List.map (·.2) ([("rule", 7)] : List (Str × Nat)))) shD) aNil)) shD)) viewD) Ow.d))
    (sSeq (sIf (tOrE (eB (eBin gGt (eM (eCa gLen (aCons (eVar 4) aNil)) viewD) (eC (.int 40))) asB) (eB (eBin gGt (eVar 6) (eC (.int 120))) asB))
    (sRaise "NoText")
    sSkip)
    (sSeq (sSet 8 (eM (eM (eB (aCons (eVar 0) (aCons (eVar 4) aNil)) (m 26)) viewD) Ow.d))
    (sSeq (sSet 9 (eM (eM (eB (aCons (eVar 0) (aCons (eVar 8) aNil)) (m 27)) viewD) Ow.d))
    (sSeq (sSet 3 (eM (eM (eB (aCons (eVar 3) (aCons (eM (eListKD (eVar 8)) viewD) aNil)) (m 25)) viewD) Ow.d))
    (sSeq (sIf (tNotE (eB (eM (eB (aCons (eVar 0) (aCons (eVar 3) (aCons (eVar 9) aNil))) (m 19)) viewD) asB))
    (sRaise "NoTurning")
    sSkip)
    (sRet (eM (eTup (aCons (eM (eB (aCons (eVar 0) aNil) (m 13)) viewD) (aCons (eVar 3) (aCons (eVar 9) aNil)))) Ow.d)))))))))))
/-- _law_cell_at: 0 _law_script, 1 _law_k -/
noncomputable def b__law_cell_at (m : Nat → List PyData → R Ow) : Ev → SR :=
    (sSeq (sIf (eB (eBin gLt (eVar 1) (eM (eCa gLen (aCons (eVar 0) aNil)) viewD)) asB)
    (sRet (eM (eBin gIx (eVar 0) (eVar 1)) Ow.d))
    sSkip)
    (sRet (eM (eC (.int 0)) Ow.d)))
/-- _law_word_by: 0 _law_cell, 1 _law_number -/
noncomputable def b__law_word_by (m : Nat → List PyData → R Ow) : Ev → SR :=
    (sSeq (sSet 1 (eM (eBin gMod (eVar 0) (eBin gPow (eC (.int 10)) (eC (.int 64)))) Ow.d))
    (sSeq (sIf (eB (eBin gEq (eBin gMod (eVar 1) (eC (.int 3))) (eC (.int 0))) asB)
    (sRet (eM (eBin gIx (eC (.str "abcdefghijklmnopqrstuvwxyz")) (eBin gMod (eBin gDiv (eVar 1) (eC (.int 3))) (eC (.int 26)))) Ow.d))
    sSkip)
    (sSeq (sIf (eB (eBin gEq (eBin gMod (eVar 1) (eC (.int 3))) (eC (.int 1))) asB)
    (sRet (eCa gStr (aCons (eBin gSub (eBin gMod (eBin gDiv (eVar 1) (eC (.int 3))) (eBin gPow (eC (.int 10)) (eC (.int 60)))) (eBin gPow (eC (.int 10)) (eC (.int 30)))) aNil)))
    sSkip)
    (sRet (eM (eBin gIx (eC (.str "();:=|*")) (eBin gMod (eBin gDiv (eVar 1) (eC (.int 3))) (eC (.int 7)))) Ow.d)))))
/-- _law_figures: 0 _law_number, 1 _law_lots, 2 _law_found, 3 _law_k -/
noncomputable def b__law_figures (m : Nat → List PyData → R Ow) : Ev → SR :=
    (sSeq (sSet 2 (eM (eC (.str "")) Ow.d))
    (sSeq (sFor (eB (aCons (eVar 1) aNil) rg1) (gtName 3)
    (sSeq (sSet 0 (eM (eM (eBinO gAdd (eBin gMod (eBin gMul (eVar 0) (eC (.int 48271))) (eC (.int 2147483647))) (eC (.int 1))) viewD) Ow.d))
    (sSet 2 (eM (eM (eBinO gAdd (eVar 2) (eBin gIx (eC (.str "0123456789")) (eBin gMod (eVar 0) (eC (.int 10))))) viewD) Ow.d))))
    (sRet (eM (eVar 2) Ow.d))))
/-- _law_letters: 0 _law_number, 1 _law_lots, 2 _law_found, 3 _law_k -/
noncomputable def b__law_letters (m : Nat → List PyData → R Ow) : Ev → SR :=
    (sSeq (sSet 2 (eM (eC (.str "")) Ow.d))
    (sSeq (sFor (eB (aCons (eVar 1) aNil) rg1) (gtName 3)
    (sSeq (sSet 0 (eM (eM (eBinO gAdd (eBin gMod (eBin gMul (eVar 0) (eC (.int 69621))) (eC (.int 2147483647))) (eC (.int 1))) viewD) Ow.d))
    (sSet 2 (eM (eM (eBinO gAdd (eVar 2) (eBin gIx (eC (.str "abcdefghijklmnopqrstuvwxyz")) (eBin gMod (eVar 0) (eC (.int 26))))) viewD) Ow.d))))
    (sRet (eM (eVar 2) Ow.d))))
/-- _law_bad_by: 0 _law_cell, 1 _law_number, 2 _law_way, 3 _law_sign, 4 _law_some -/
noncomputable def b__law_bad_by (m : Nat → List PyData → R Ow) : Ev → SR :=
    (sSeq (sSet 1 (eM (eBin gMod (eBin gDiv (eVar 0) (eC (.int 6))) (eBin gPow (eC (.int 10)) (eC (.int 20)))) Ow.d))
    (sSeq (sSet 2 (eM (eBin gMod (eVar 0) (eC (.int 6))) Ow.d))
    (sSeq (sSet 3 (eM (eBin gIx (eB (eLst (aCons (eC (.str "")) (aCons (eC (.str "-")) aNil))) shD) (eBin gMod (eVar 1) (eC (.int 2)))) Ow.d))
    (sSeq (sIf (eB (eBin gEq (eVar 2) (eC (.int 0))) asB)
    (sSeq (sSet 4 (eM (eC (.str "!\"#$&'+,./<>?@ABCDEFGHIJKLMNOPQRSTUVWXYZ[\\]^_`{}~
	")) Ow.d))
    (sRet (eM (eBin gIx (eVar 4) (eBin gMod (eVar 1) (eM (eCa gLen (aCons (eVar 4) aNil)) viewD))) Ow.d)))
    sSkip)
    (sSeq (sIf (eB (eBin gEq (eVar 2) (eC (.int 1))) asB)
    (sRet (eBinO gAdd (eC (.str "-")) (eBin gIx (eB (eLst (aCons (eC (.str "")) (aCons (eC (.str " 7")) (aCons (eC (.str "a")) (aCons (eC (.str "-7")) (aCons (eC (.str "(")) (aCons (eC (.str ")")) aNil))))))) shD) (eBin gMod (eVar 1) (eC (.int 6))))))
    sSkip)
    (sSeq (sIf (eB (eBin gEq (eVar 2) (eC (.int 2))) asB)
    (sRet (eB (aCons (eVar 1) (aCons (eM (eBinO gAdd (eC (.int 9)) (eBin gMod (eBin gDiv (eVar 1) (eC (.int 2))) (eC (.int 32)))) viewD) aNil)) (m 32)))
    sSkip)
    (sSeq (sIf (eB (eBin gEq (eVar 2) (eC (.int 3))) asB)
    (sRet (eBinO gAdd (eB (eBinO gAdd (eVar 3) (eC (.str "7"))) shD) (eB (eB (aCons (eVar 1) (aCons (eM (eBinO gAdd (eC (.int 60)) (eBin gMod (eBin gDiv (eVar 1) (eC (.int 2))) (eC (.int 30)))) viewD) aNil)) (m 31)) shD)))
    sSkip)
    (sSeq (sIf (eB (eBin gEq (eVar 2) (eC (.int 4))) asB)
    (sRet (eBinO gAdd (eB (eBinO gAdd (eVar 3) (eC (.str "0"))) shD) (eB (eB (aCons (eVar 1) (aCons (eM (eBinO gAdd (eC (.int 1)) (eBin gMod (eBin gDiv (eVar 1) (eC (.int 2))) (eC (.int 9)))) viewD) aNil)) (m 31)) shD)))
    sSkip)
    (sRet (eM (eC (.str "-0")) Ow.d))))))))))
/-- _law_refused: 0 _law_ask, 1 _law_thing, 2 _law_error, 3 e -/
noncomputable def b__law_refused (m : Nat → List PyData → R Ow) : Ev → SR :=
    (sSeq (sSet 2 (eM (eC .none) Ow.d))
    (sSeq (sTryT [("NoText", true), ("NoWood", true), ("NoTurning", true)] 3
    (sDrop (eM (eCallF 0 (aCons (eVar 1) aNil) [("words", m 2), ("read_tree", m 8), ("read_wood", m 17), ("_law_read", m 35)]) viewD))
    (sSet 2 (eM (eVar 3) Ow.d)))
    (sSeq (sIf (tOrE (tNotE (eB (eB (eVar 2) (gIsE [("NoText", true), ("NoWood", false), ("NoTurning", false)])) asB)) (tNotE (eB (eB (eVar 2) (gIsE [("NoText", true), ("NoWood", true), ("NoTurning", true)])) asB)))
    (sRet (eM (eC (.bool false)) Ow.d))
    sSkip)
    (sSeq (sIf (tOrE (eB (eB (eVar 2) (gIsE [("NoText", false), ("NoWood", true), ("NoTurning", false)])) asB) (tOrE (eB (eB (eVar 2) (gIsE [("NoText", false), ("NoWood", false), ("NoTurning", true)])) asB) (eB (eB (eVar 2) (gIsE [("NoText", false), ("NoWood", false), ("NoTurning", false)])) asB)))
    (sRet (eM (eC (.bool false)) Ow.d))
    sSkip)
    (sSeq (sIf (tOrE (eB (eB (eVar 2) (gIsE [("NoText", false), ("NoWood", false), ("NoTurning", false)])) asB) (tOrE (eB (eB (eVar 2) (gIsE [("NoText", false), ("NoWood", false), ("NoTurning", false)])) asB) (eB (eB (eVar 2) (gIsE [("NoText", false), ("NoWood", false), ("NoTurning", false)])) asB)))
    (sRet (eM (eC (.bool false)) Ow.d))
    sSkip)
    (sRet (eM (eAnd (eNot (eB (eVar 2) (gIsE [("NoText", false), ("NoWood", false), ("NoTurning", false)]))) (eNot (eB (eVar 2) (gIsE [("NoText", false), ("NoWood", false), ("NoTurning", false)])))) Ow.d)))))))
/-- _law_read: 0 _law_thing -/
noncomputable def b__law_read (m : Nat → List PyData → R Ow) : Ev → SR :=
    (sRet (eB (aCons (eM (eLst (aCons (eTup (aCons (eC (.str "a")) (aCons (eM (eLst (aCons (eTup (aCons (eC (.str "b")) (aCons (eTup aNil) aNil))) aNil)) viewD) aNil))) aNil)) viewD) (aCons (eVar 0) aNil)) (m 28)))
/-- law: 0 _law_script, 1 _law_row, 2 _law_cell, 3 _law_where, 4 _law_thing, 5 _law_number -/
noncomputable def b_law (m : Nat → List PyData → R Ow) : Ev → SR :=
    (sSeq (sSet 1 (eM (eM (eLc (eB (eM (eSl (eVar 0) (eB (eC (.int 3)) asI) (eB (eC (.int 15)) asI)) viewD) itD) (gtName 2) cYes (eB (aCons (eVar 2) aNil) (m 30)) (List.map (·.2) ([("_law_cell", 2)] : List (Str × Nat)))) viewD) Ow.d))
    (sSeq (sSet 3 (eM (eBin gMod (eM (eB (aCons (eVar 0) (aCons (eC (.int 0)) aNil)) (m 29)) viewD) (eM (eBinO gAdd (eB (eCa gLen (aCons (eVar 1) aNil)) shD) (eC (.int 1))) viewD)) Ow.d))
    (sSeq (sSet 4 (eM (eJoin (eC (.str " ")) (eB (eBinO gAdd (eB (eBinO gAdd (eB (eSl (eVar 1) oNone (eB (eVar 3) asI)) shD) (eB (eLst (aCons (eM (eB (aCons (eM (eB (aCons (eVar 0) (aCons (eC (.int 1)) aNil)) (m 29)) viewD) aNil) (m 33)) viewD) aNil)) shD)) shD) (eB (eSl (eVar 1) (eB (eVar 3) asI) oNone) shD)) shD)) Ow.d))
    (sSeq (sIf (eB (eBin gEq (eBin gMod (eM (eB (aCons (eVar 0) (aCons (eC (.int 2)) aNil)) (m 29)) viewD) (eC (.int 5))) (eC (.int 1))) asB)
    (sSeq (sSet 5 (eM (eBin gMod (eM (eB (aCons (eVar 0) (aCons (eC (.int 2)) aNil)) (m 29)) viewD) (eBin gPow (eC (.int 10)) (eC (.int 9)))) Ow.d))
    (sSet 4 (eM (eBin gIx (eB (eLst (aCons (eC .none) (aCons (eVar 5) (aCons (eC (.bool true)) (aCons (eVar 1) (aCons (eTup (aCons (eC (.str "a")) aNil)) (aCons (eM (eDisp1 "a" "b") viewD) aNil))))))) shD) (eBin gMod (eBin gDiv (eVar 5) (eC (.int 5))) (eC (.int 6)))) Ow.d)))
    sSkip)
    (sSeq (sIf (tOrE (tNotE (eB (eM (eB (aCons (eC (fnD "words")) (aCons (eVar 4) aNil)) (m 34)) viewD) asB)) (tNotE (eB (eM (eB (aCons (eC (fnD "read_tree")) (aCons (eVar 4) aNil)) (m 34)) viewD) asB)))
    (sRet (eM (eC (.bool false)) Ow.d))
    sSkip)
    (sSeq (sIf (tOrE (tNotE (eB (eM (eB (aCons (eC (fnD "read_wood")) (aCons (eVar 4) aNil)) (m 34)) viewD) asB)) (tNotE (eB (eM (eB (aCons (eC (fnD "_law_read")) (aCons (eVar 4) aNil)) (m 34)) viewD) asB)))
    (sRet (eM (eC (.bool false)) Ow.d))
    sSkip)
    (sRet (eM (eBin gEq (eM (eB (aCons (eJoin (eC (.str " ")) (eVar 1)) aNil) (m 2)) viewD) (eVar 1)) Ow.d))))))))
noncomputable def mir : Nat → Nat → List PyData → R Ow
  | 0, _ => fun _ => .no
  | n + 1, i => match i with
    | 0 => runB 1 (b_run_end (mir n))
    | 1 => runB 2 (b_word_end (mir n))
    | 2 => runB 3 (b_words (mir n))
    | 3 => runB 0 (b_is_name (mir n))
    | 4 => runB 0 (b_is_number (mir n))
    | 5 => runB 2 (b_parted (mir n))
    | 6 => runB 2 (b_size (mir n))
    | 7 => runB 4 (b_tree_at (mir n))
    | 8 => runB 3 (b_read_tree (mir n))
    | 9 => runB 1 (b_term_size (mir n))
    | 10 => runB 2 (b_calls_of (mir n))
    | 11 => runB 1 (b_keeps_mark (mir n))
    | 12 => runB 2 (b_rows_of (mir n))
    | 13 => runB 2 (b_wood_again (mir n))
    | 14 => runB 2 (b_row_by (mir n))
    | 15 => runB 1 (b_kind_by (mir n))
    | 16 => runB 7 (b_look_over (mir n))
    | 17 => runB 4 (b_read_wood (mir n))
    | 18 => runB 2 (b_calls_fit (mir n))
    | 19 => runB 6 (b_is_sound (mir n))
    | 20 => runB 1 (b_mark_at (mir n))
    | 21 => runB 0 (b_call_at (mir n))
    | 22 => runB 5 (b_term_at (mir n))
    | 23 => runB 2 (b_term_by (mir n))
    | 24 => runB 1 (b_rule_by (mir n))
    | 25 => runB 1 (b_numbered (mir n))
    | 26 => runB 7 (b_table_by (mir n))
    | 27 => runB 7 (b_modes_by (mir n))
    | 28 => runB 8 (b_read_turning (mir n))
    | 29 => runB 0 (b__law_cell_at (mir n))
    | 30 => runB 1 (b__law_word_by (mir n))
    | 31 => runB 2 (b__law_figures (mir n))
    | 32 => runB 2 (b__law_letters (mir n))
    | 33 => runB 4 (b__law_bad_by (mir n))
    | 34 => runB 2 (b__law_refused (mir n))
    | 35 => runB 0 (b__law_read (mir n))
    | 36 => runB 5 (b_law (mir n))
    | _ => fun _ => .no
theorem mir_run_end (n : Nat) (ds : List PyData) : mir (n + 1) 0 ds = runB 1 (b_run_end (mir n)) ds := rfl
theorem mir_word_end (n : Nat) (ds : List PyData) : mir (n + 1) 1 ds = runB 2 (b_word_end (mir n)) ds := rfl
theorem mir_words (n : Nat) (ds : List PyData) : mir (n + 1) 2 ds = runB 3 (b_words (mir n)) ds := rfl
theorem mir_read_tree (n : Nat) (ds : List PyData) : mir (n + 1) 8 ds = runB 3 (b_read_tree (mir n)) ds := rfl
theorem mir_read_wood (n : Nat) (ds : List PyData) : mir (n + 1) 17 ds = runB 4 (b_read_wood (mir n)) ds := rfl
theorem mir_read_turning (n : Nat) (ds : List PyData) : mir (n + 1) 28 ds = runB 8 (b_read_turning (mir n)) ds := rfl
theorem mir__law_cell_at (n : Nat) (ds : List PyData) : mir (n + 1) 29 ds = runB 0 (b__law_cell_at (mir n)) ds := rfl
theorem mir__law_word_by (n : Nat) (ds : List PyData) : mir (n + 1) 30 ds = runB 1 (b__law_word_by (mir n)) ds := rfl
theorem mir__law_figures (n : Nat) (ds : List PyData) : mir (n + 1) 31 ds = runB 2 (b__law_figures (mir n)) ds := rfl
theorem mir__law_letters (n : Nat) (ds : List PyData) : mir (n + 1) 32 ds = runB 2 (b__law_letters (mir n)) ds := rfl
theorem mir__law_bad_by (n : Nat) (ds : List PyData) : mir (n + 1) 33 ds = runB 4 (b__law_bad_by (mir n)) ds := rfl
theorem mir__law_refused (n : Nat) (ds : List PyData) : mir (n + 1) 34 ds = runB 2 (b__law_refused (mir n)) ds := rfl
theorem mir__law_read (n : Nat) (ds : List PyData) : mir (n + 1) 35 ds = runB 0 (b__law_read (mir n)) ds := rfl
theorem mir_law (n : Nat) (ds : List PyData) : mir (n + 1) 36 ds = runB 5 (b_law (mir n)) ds := rfl
theorem run_run_end (m : Nat → List PyData → R Ow) (ds : List PyData) : runB 1 (b_run_end m) ds = finR (((sSeq (sSet 3 (eM (eVar 1) Ow.d))
    (sSeq (whileN (tAndE (eB (eBin gLt (eVar 3) (eM (eCa gLen (aCons (eVar 0) aNil)) viewD)) asB) (eB (eBin gIn (eBin gIx (eVar 0) (eVar 3)) (eVar 2)) asB))
    (sAug gAddA 3 (eC (.int 1))) 1000000)
    (sRet (eM (eVar 3) Ow.d))))) (envOf 1 ds)) := runB_fin _ _ _
theorem run_word_end (m : Nat → List PyData → R Ow) (ds : List PyData) : runB 2 (b_word_end m) ds = finR (((sSeq (sIf (eB (eBin gIn (eBin gIx (eVar 0) (eVar 1)) (eC (.str "();:=|*"))) asB)
    (sRet (eBinO gAdd (eVar 1) (eC (.int 1))))
    sSkip)
    (sSeq (sSet 2 (eM (eM (eB (aCons (eVar 0) (aCons (eVar 1) (aCons (eC (.str "abcdefghijklmnopqrstuvwxyz")) aNil))) (m 0)) viewD) Ow.d))
    (sSeq (sIf (eB (eBin gGt (eVar 2) (eVar 1)) asB)
    (sSeq (sIf (eB (eBin gGt (eBin gSub (eVar 2) (eVar 1)) (eC (.int 8))) asB)
    (sRaise "NoText")
    sSkip)
    (sRet (eM (eVar 2) Ow.d)))
    sSkip)
    (sSeq (sSet 3 (eM (eM (eBinO gAdd (eVar 1) (eB (eCa gInt (aCons (eBin gEq (eBin gIx (eVar 0) (eVar 1)) (eC (.str "-"))) aNil)) shD)) viewD) Ow.d))
    (sSeq (sSet 2 (eM (eM (eB (aCons (eVar 0) (aCons (eVar 3) (aCons (eC (.str "0123456789")) aNil))) (m 0)) viewD) Ow.d))
    (sSeq (sIf (tOrE (eB (eBin gEq (eVar 2) (eVar 3)) asB) (eB (eBin gGt (eBin gSub (eVar 2) (eVar 3)) (eC (.int 60))) asB))
    (sRaise "NoText")
    sSkip)
    (sSeq (sIf (tAndE (eB (eBin gEq (eBin gIx (eVar 0) (eVar 3)) (eC (.str "0"))) asB) (tOrE (eB (eBin gGt (eBin gSub (eVar 2) (eVar 3)) (eC (.int 1))) asB) (eB (eBin gGt (eVar 3) (eVar 1)) asB)))
    (sRaise "NoText")
    sSkip)
    (sRet (eM (eVar 2) Ow.d)))))))))) (envOf 2 ds)) := runB_fin _ _ _
theorem run_words (m : Nat → List PyData → R Ow) (ds : List PyData) : runB 3 (b_words m) ds = finR (((sSeq (sIf (tNotE (eB (eB (eVar 0) (gIsiW "str")) asB))
    (sRaise "NoText")
    sSkip)
    (sSeq (sSet 1 (eLst aNil))
    (sSeq (sSet 2 (eM (eC (.int 0)) Ow.d))
    (sSeq (whileN (eB (eBin gLt (eVar 2) (eM (eCa gLen (aCons (eVar 0) aNil)) viewD)) asB)
    (sSeq (sIf (eB (eBin gEq (eBin gIx (eVar 0) (eVar 2)) (eC (.str " "))) asB)
    (sSeq (sAug gAddA 2 (eC (.int 1)))
    sCont)
    sSkip)
    (sSeq (sSet 3 (eM (eM (eB (aCons (eVar 0) (aCons (eVar 2) aNil)) (m 1)) viewD) Ow.d))
    (sSeq (sApp 1 (eSl (eVar 0) (eB (eVar 2) asI) (eB (eVar 3) asI)))
    (sSet 2 (eM (eVar 3) Ow.d))))) 1000000)
    (sRetV 1)))))) (envOf 3 ds)) := runB_fin _ _ _
theorem run_read_tree (m : Nat → List PyData → R Ow) (ds : List PyData) : runB 3 (b_read_tree m) ds = finR (((sSeq (sSet 1 (eM (eM (eB (aCons (eVar 0) aNil) (m 2)) viewD) Ow.d))
    (sSeq (sAsg (gtTup 2 (gtCons (gtName 2) (gtCons (gtName 3) gtNil))) (eM (eB (aCons (eVar 1) (aCons (eC (.int 0)) (aCons (eC (.int 1)) aNil))) (m 7)) viewD))
    (sSeq (sIf (tOrE (eB (eBin gNe (eVar 3) (eM (eCa gLen (aCons (eVar 1) aNil)) viewD)) asB) (eB (eBin gGt (eM (eB (aCons (eVar 2) aNil) (m 6)) viewD) (eC (.int 200))) asB))
    (sRaise "NoText")
    sSkip)
    (sRet (eM (eVar 2) Ow.d)))))) (envOf 3 ds)) := runB_fin _ _ _
theorem run_read_wood (m : Nat → List PyData → R Ow) (ds : List PyData) : runB 4 (b_read_wood m) ds = finR (((sSeq (sSet 1 (eM (eM (eLc (eB (eM (eB (aCons (eM (eB (aCons (eVar 0) aNil) (m 2)) viewD) (aCons (eC (.str ";")) aNil)) (m 5)) viewD) itD) (gtName 2) cYes (eB (aCons (eVar 2) aNil) (m 15)) (List.map (·.2) ([("part", 2)] : List (Str × Nat)))) viewD) Ow.d))
    (sSeq (sIf (tOrE (eB (eBin gGt (eM (eCa gLen (aCons (eVar 1) aNil)) viewD) (eC (.int 6))) asB) (eB (eBin gGt (eM (eCa gSum (aCons (eB (eLc (eB (eVar 1) itD) (gtTup 2 (gtCons (gtName 3) (gtCons (gtName 4) gtNil))) cYes (eCa gLen (aCons (eVar 4) aNil)) (List.map (·.2) ([("kind", 3), ("rows", 4)] : List (Str × Nat)))) shD) aNil)) viewD) (eC (.int 16))) asB))
    (sRaise "NoText")
    sSkip)
    (sSeq (sDrop (eM (eB (aCons (eVar 1) aNil) (m 16)) viewD))
    (sRet (eLc (eB (eVar 1) itD) (gtTup 2 (gtCons (gtName 3) (gtCons (gtName 4) gtNil))) cYes (eM (eTup (aCons (eVar 3) (aCons (eM (eCa gSorted (aCons (eVar 4) aNil)) viewD) aNil))) Ow.d) (List.map (·.2) ([("kind", 3), ("rows", 4)] : List (Str × Nat))))))))) (envOf 4 ds)) := runB_fin _ _ _
theorem run_read_turning (m : Nat → List PyData → R Ow) (ds : List PyData) : runB 8 (b_read_turning m) ds = finR (((sSeq (sSet 2 (eM (eM (eB (aCons (eM (eB (aCons (eVar 1) aNil) (m 2)) viewD) (aCons (eC (.str ";")) aNil)) (m 5)) viewD) Ow.d))
    (sSeq (sSet 3 (eM (eM (eB (aCons (eBin gIx (eVar 2) (eC (.int 0))) aNil) (m 23)) viewD) Ow.d))
    (sSeq (sSet 4 (eM (eM (eLc (eB (eM (eSl (eVar 2) (eB (eC (.int 1)) asI) oNone) viewD) itD) (gtName 5) cYes (eB (aCons (eVar 5) aNil) (m 24)) (List.map (·.2) ([("part", 5)] : List (Str × Nat)))) viewD) Ow.d))
    (sSeq (sSet 6 (eM (eM (eBinO gAdd (eB (eB (aCons (eVar 3) aNil) (m 9)) shD) (eB (eCa gSum (aCons (eB (eLc (eB (eVar 4) itD) (gtName 7) cYes (eB (aCons (eBin gIx (eVar 7) (eC (.int 3))) aNil) (m 9)) (List.map (·.2) ([("rule", 7)] : List (Str × Nat)))) shD) aNil)) shD)) viewD) Ow.d))
    (sSeq (sIf (tOrE (eB (eBin gGt (eM (eCa gLen (aCons (eVar 4) aNil)) viewD) (eC (.int 40))) asB) (eB (eBin gGt (eVar 6) (eC (.int 120))) asB))
    (sRaise "NoText")
    sSkip)
    (sSeq (sSet 8 (eM (eM (eB (aCons (eVar 0) (aCons (eVar 4) aNil)) (m 26)) viewD) Ow.d))
    (sSeq (sSet 9 (eM (eM (eB (aCons (eVar 0) (aCons (eVar 8) aNil)) (m 27)) viewD) Ow.d))
    (sSeq (sSet 3 (eM (eM (eB (aCons (eVar 3) (aCons (eM (eListKD (eVar 8)) viewD) aNil)) (m 25)) viewD) Ow.d))
    (sSeq (sIf (tNotE (eB (eM (eB (aCons (eVar 0) (aCons (eVar 3) (aCons (eVar 9) aNil))) (m 19)) viewD) asB))
    (sRaise "NoTurning")
    sSkip)
    (sRet (eM (eTup (aCons (eM (eB (aCons (eVar 0) aNil) (m 13)) viewD) (aCons (eVar 3) (aCons (eVar 9) aNil)))) Ow.d)))))))))))) (envOf 8 ds)) := runB_fin _ _ _
theorem run__law_cell_at (m : Nat → List PyData → R Ow) (ds : List PyData) : runB 0 (b__law_cell_at m) ds = finR (((sSeq (sIf (eB (eBin gLt (eVar 1) (eM (eCa gLen (aCons (eVar 0) aNil)) viewD)) asB)
    (sRet (eM (eBin gIx (eVar 0) (eVar 1)) Ow.d))
    sSkip)
    (sRet (eM (eC (.int 0)) Ow.d)))) (envOf 0 ds)) := runB_fin _ _ _
theorem run__law_word_by (m : Nat → List PyData → R Ow) (ds : List PyData) : runB 1 (b__law_word_by m) ds = finR (((sSeq (sSet 1 (eM (eBin gMod (eVar 0) (eBin gPow (eC (.int 10)) (eC (.int 64)))) Ow.d))
    (sSeq (sIf (eB (eBin gEq (eBin gMod (eVar 1) (eC (.int 3))) (eC (.int 0))) asB)
    (sRet (eM (eBin gIx (eC (.str "abcdefghijklmnopqrstuvwxyz")) (eBin gMod (eBin gDiv (eVar 1) (eC (.int 3))) (eC (.int 26)))) Ow.d))
    sSkip)
    (sSeq (sIf (eB (eBin gEq (eBin gMod (eVar 1) (eC (.int 3))) (eC (.int 1))) asB)
    (sRet (eCa gStr (aCons (eBin gSub (eBin gMod (eBin gDiv (eVar 1) (eC (.int 3))) (eBin gPow (eC (.int 10)) (eC (.int 60)))) (eBin gPow (eC (.int 10)) (eC (.int 30)))) aNil)))
    sSkip)
    (sRet (eM (eBin gIx (eC (.str "();:=|*")) (eBin gMod (eBin gDiv (eVar 1) (eC (.int 3))) (eC (.int 7)))) Ow.d)))))) (envOf 1 ds)) := runB_fin _ _ _
theorem run__law_figures (m : Nat → List PyData → R Ow) (ds : List PyData) : runB 2 (b__law_figures m) ds = finR (((sSeq (sSet 2 (eM (eC (.str "")) Ow.d))
    (sSeq (sFor (eB (aCons (eVar 1) aNil) rg1) (gtName 3)
    (sSeq (sSet 0 (eM (eM (eBinO gAdd (eBin gMod (eBin gMul (eVar 0) (eC (.int 48271))) (eC (.int 2147483647))) (eC (.int 1))) viewD) Ow.d))
    (sSet 2 (eM (eM (eBinO gAdd (eVar 2) (eBin gIx (eC (.str "0123456789")) (eBin gMod (eVar 0) (eC (.int 10))))) viewD) Ow.d))))
    (sRet (eM (eVar 2) Ow.d))))) (envOf 2 ds)) := runB_fin _ _ _
theorem run__law_letters (m : Nat → List PyData → R Ow) (ds : List PyData) : runB 2 (b__law_letters m) ds = finR (((sSeq (sSet 2 (eM (eC (.str "")) Ow.d))
    (sSeq (sFor (eB (aCons (eVar 1) aNil) rg1) (gtName 3)
    (sSeq (sSet 0 (eM (eM (eBinO gAdd (eBin gMod (eBin gMul (eVar 0) (eC (.int 69621))) (eC (.int 2147483647))) (eC (.int 1))) viewD) Ow.d))
    (sSet 2 (eM (eM (eBinO gAdd (eVar 2) (eBin gIx (eC (.str "abcdefghijklmnopqrstuvwxyz")) (eBin gMod (eVar 0) (eC (.int 26))))) viewD) Ow.d))))
    (sRet (eM (eVar 2) Ow.d))))) (envOf 2 ds)) := runB_fin _ _ _
theorem run__law_bad_by (m : Nat → List PyData → R Ow) (ds : List PyData) : runB 4 (b__law_bad_by m) ds = finR (((sSeq (sSet 1 (eM (eBin gMod (eBin gDiv (eVar 0) (eC (.int 6))) (eBin gPow (eC (.int 10)) (eC (.int 20)))) Ow.d))
    (sSeq (sSet 2 (eM (eBin gMod (eVar 0) (eC (.int 6))) Ow.d))
    (sSeq (sSet 3 (eM (eBin gIx (eB (eLst (aCons (eC (.str "")) (aCons (eC (.str "-")) aNil))) shD) (eBin gMod (eVar 1) (eC (.int 2)))) Ow.d))
    (sSeq (sIf (eB (eBin gEq (eVar 2) (eC (.int 0))) asB)
    (sSeq (sSet 4 (eM (eC (.str "!\"#$&'+,./<>?@ABCDEFGHIJKLMNOPQRSTUVWXYZ[\\]^_`{}~
	")) Ow.d))
    (sRet (eM (eBin gIx (eVar 4) (eBin gMod (eVar 1) (eM (eCa gLen (aCons (eVar 4) aNil)) viewD))) Ow.d)))
    sSkip)
    (sSeq (sIf (eB (eBin gEq (eVar 2) (eC (.int 1))) asB)
    (sRet (eBinO gAdd (eC (.str "-")) (eBin gIx (eB (eLst (aCons (eC (.str "")) (aCons (eC (.str " 7")) (aCons (eC (.str "a")) (aCons (eC (.str "-7")) (aCons (eC (.str "(")) (aCons (eC (.str ")")) aNil))))))) shD) (eBin gMod (eVar 1) (eC (.int 6))))))
    sSkip)
    (sSeq (sIf (eB (eBin gEq (eVar 2) (eC (.int 2))) asB)
    (sRet (eB (aCons (eVar 1) (aCons (eM (eBinO gAdd (eC (.int 9)) (eBin gMod (eBin gDiv (eVar 1) (eC (.int 2))) (eC (.int 32)))) viewD) aNil)) (m 32)))
    sSkip)
    (sSeq (sIf (eB (eBin gEq (eVar 2) (eC (.int 3))) asB)
    (sRet (eBinO gAdd (eB (eBinO gAdd (eVar 3) (eC (.str "7"))) shD) (eB (eB (aCons (eVar 1) (aCons (eM (eBinO gAdd (eC (.int 60)) (eBin gMod (eBin gDiv (eVar 1) (eC (.int 2))) (eC (.int 30)))) viewD) aNil)) (m 31)) shD)))
    sSkip)
    (sSeq (sIf (eB (eBin gEq (eVar 2) (eC (.int 4))) asB)
    (sRet (eBinO gAdd (eB (eBinO gAdd (eVar 3) (eC (.str "0"))) shD) (eB (eB (aCons (eVar 1) (aCons (eM (eBinO gAdd (eC (.int 1)) (eBin gMod (eBin gDiv (eVar 1) (eC (.int 2))) (eC (.int 9)))) viewD) aNil)) (m 31)) shD)))
    sSkip)
    (sRet (eM (eC (.str "-0")) Ow.d))))))))))) (envOf 4 ds)) := runB_fin _ _ _
theorem run__law_refused (m : Nat → List PyData → R Ow) (ds : List PyData) : runB 2 (b__law_refused m) ds = finR (((sSeq (sSet 2 (eM (eC .none) Ow.d))
    (sSeq (sTryT [("NoText", true), ("NoWood", true), ("NoTurning", true)] 3
    (sDrop (eM (eCallF 0 (aCons (eVar 1) aNil) [("words", m 2), ("read_tree", m 8), ("read_wood", m 17), ("_law_read", m 35)]) viewD))
    (sSet 2 (eM (eVar 3) Ow.d)))
    (sSeq (sIf (tOrE (tNotE (eB (eB (eVar 2) (gIsE [("NoText", true), ("NoWood", false), ("NoTurning", false)])) asB)) (tNotE (eB (eB (eVar 2) (gIsE [("NoText", true), ("NoWood", true), ("NoTurning", true)])) asB)))
    (sRet (eM (eC (.bool false)) Ow.d))
    sSkip)
    (sSeq (sIf (tOrE (eB (eB (eVar 2) (gIsE [("NoText", false), ("NoWood", true), ("NoTurning", false)])) asB) (tOrE (eB (eB (eVar 2) (gIsE [("NoText", false), ("NoWood", false), ("NoTurning", true)])) asB) (eB (eB (eVar 2) (gIsE [("NoText", false), ("NoWood", false), ("NoTurning", false)])) asB)))
    (sRet (eM (eC (.bool false)) Ow.d))
    sSkip)
    (sSeq (sIf (tOrE (eB (eB (eVar 2) (gIsE [("NoText", false), ("NoWood", false), ("NoTurning", false)])) asB) (tOrE (eB (eB (eVar 2) (gIsE [("NoText", false), ("NoWood", false), ("NoTurning", false)])) asB) (eB (eB (eVar 2) (gIsE [("NoText", false), ("NoWood", false), ("NoTurning", false)])) asB)))
    (sRet (eM (eC (.bool false)) Ow.d))
    sSkip)
    (sRet (eM (eAnd (eNot (eB (eVar 2) (gIsE [("NoText", false), ("NoWood", false), ("NoTurning", false)]))) (eNot (eB (eVar 2) (gIsE [("NoText", false), ("NoWood", false), ("NoTurning", false)])))) Ow.d)))))))) (envOf 2 ds)) := runB_fin _ _ _
theorem run__law_read (m : Nat → List PyData → R Ow) (ds : List PyData) : runB 0 (b__law_read m) ds = finR (((sRet (eB (aCons (eM (eLst (aCons (eTup (aCons (eC (.str "a")) (aCons (eM (eLst (aCons (eTup (aCons (eC (.str "b")) (aCons (eTup aNil) aNil))) aNil)) viewD) aNil))) aNil)) viewD) (aCons (eVar 0) aNil)) (m 28)))) (envOf 0 ds)) := runB_fin _ _ _
theorem run_law (m : Nat → List PyData → R Ow) (ds : List PyData) : runB 5 (b_law m) ds = finR (((sSeq (sSet 1 (eM (eM (eLc (eB (eM (eSl (eVar 0) (eB (eC (.int 3)) asI) (eB (eC (.int 15)) asI)) viewD) itD) (gtName 2) cYes (eB (aCons (eVar 2) aNil) (m 30)) (List.map (·.2) ([("_law_cell", 2)] : List (Str × Nat)))) viewD) Ow.d))
    (sSeq (sSet 3 (eM (eBin gMod (eM (eB (aCons (eVar 0) (aCons (eC (.int 0)) aNil)) (m 29)) viewD) (eM (eBinO gAdd (eB (eCa gLen (aCons (eVar 1) aNil)) shD) (eC (.int 1))) viewD)) Ow.d))
    (sSeq (sSet 4 (eM (eJoin (eC (.str " ")) (eB (eBinO gAdd (eB (eBinO gAdd (eB (eSl (eVar 1) oNone (eB (eVar 3) asI)) shD) (eB (eLst (aCons (eM (eB (aCons (eM (eB (aCons (eVar 0) (aCons (eC (.int 1)) aNil)) (m 29)) viewD) aNil) (m 33)) viewD) aNil)) shD)) shD) (eB (eSl (eVar 1) (eB (eVar 3) asI) oNone) shD)) shD)) Ow.d))
    (sSeq (sIf (eB (eBin gEq (eBin gMod (eM (eB (aCons (eVar 0) (aCons (eC (.int 2)) aNil)) (m 29)) viewD) (eC (.int 5))) (eC (.int 1))) asB)
    (sSeq (sSet 5 (eM (eBin gMod (eM (eB (aCons (eVar 0) (aCons (eC (.int 2)) aNil)) (m 29)) viewD) (eBin gPow (eC (.int 10)) (eC (.int 9)))) Ow.d))
    (sSet 4 (eM (eBin gIx (eB (eLst (aCons (eC .none) (aCons (eVar 5) (aCons (eC (.bool true)) (aCons (eVar 1) (aCons (eTup (aCons (eC (.str "a")) aNil)) (aCons (eM (eDisp1 "a" "b") viewD) aNil))))))) shD) (eBin gMod (eBin gDiv (eVar 5) (eC (.int 5))) (eC (.int 6)))) Ow.d)))
    sSkip)
    (sSeq (sIf (tOrE (tNotE (eB (eM (eB (aCons (eC (fnD "words")) (aCons (eVar 4) aNil)) (m 34)) viewD) asB)) (tNotE (eB (eM (eB (aCons (eC (fnD "read_tree")) (aCons (eVar 4) aNil)) (m 34)) viewD) asB)))
    (sRet (eM (eC (.bool false)) Ow.d))
    sSkip)
    (sSeq (sIf (tOrE (tNotE (eB (eM (eB (aCons (eC (fnD "read_wood")) (aCons (eVar 4) aNil)) (m 34)) viewD) asB)) (tNotE (eB (eM (eB (aCons (eC (fnD "_law_read")) (aCons (eVar 4) aNil)) (m 34)) viewD) asB)))
    (sRet (eM (eC (.bool false)) Ow.d))
    sSkip)
    (sRet (eM (eBin gEq (eM (eB (aCons (eJoin (eC (.str " ")) (eVar 1)) aNil) (m 2)) viewD) (eVar 1)) Ow.d))))))))) (envOf 5 ds)) := runB_fin _ _ _
abbrev N_run_end : List Str := ["text", "start", "signs", "end"]
theorem sc_run_end : FnScope N_run_end ["text", "start", "signs"] (defScope s_run_end) := ⟨rfl, rfl, rfl, by decide +kernel, rfl, by decide +kernel, by decide +kernel⟩
abbrev N_word_end : List Str := ["text", "start", "end", "first"]
theorem sc_word_end : FnScope N_word_end ["text", "start"] (defScope s_word_end) := ⟨rfl, rfl, rfl, by decide +kernel, rfl, by decide +kernel, by decide +kernel⟩
abbrev N_words : List Str := ["text", "found", "here", "end"]
theorem sc_words : FnScope N_words ["text"] (defScope s_words) := ⟨rfl, rfl, rfl, by decide +kernel, rfl, by decide +kernel, by decide +kernel⟩
abbrev N_is_name : List Str := ["word"]
theorem sc_is_name : FnScope N_is_name ["word"] (defScope s_is_name) := ⟨rfl, rfl, rfl, by decide +kernel, rfl, by decide +kernel, by decide +kernel⟩
abbrev N_is_number : List Str := ["word"]
theorem sc_is_number : FnScope N_is_number ["word"] (defScope s_is_number) := ⟨rfl, rfl, rfl, by decide +kernel, rfl, by decide +kernel, by decide +kernel⟩
abbrev N_parted : List Str := ["row", "sign", "parts", "word"]
theorem sc_parted : FnScope N_parted ["row", "sign"] (defScope s_parted) := ⟨rfl, rfl, rfl, by decide +kernel, rfl, by decide +kernel, by decide +kernel⟩
abbrev N_size : List Str := ["tree", "total", "branch"]
theorem sc_size : FnScope N_size ["tree"] (defScope s_size) := ⟨rfl, rfl, rfl, by decide +kernel, rfl, by decide +kernel, by decide +kernel⟩
abbrev N_tree_at : List Str := ["row", "here", "level", "name", "mark", "branches", "branch"]
theorem sc_tree_at : FnScope N_tree_at ["row", "here", "level"] (defScope s_tree_at) := ⟨rfl, rfl, rfl, by decide +kernel, rfl, by decide +kernel, by decide +kernel⟩
abbrev N_read_tree : List Str := ["text", "row", "tree", "end"]
theorem sc_read_tree : FnScope N_read_tree ["text"] (defScope s_read_tree) := ⟨rfl, rfl, rfl, by decide +kernel, rfl, by decide +kernel, by decide +kernel⟩
abbrev N_term_size : List Str := ["term", "part"]
theorem sc_term_size : FnScope N_term_size ["term"] (defScope s_term_size) := ⟨rfl, rfl, rfl, by decide +kernel, rfl, by decide +kernel, by decide +kernel⟩
abbrev N_calls_of : List Str := ["term", "found", "part"]
theorem sc_calls_of : FnScope N_calls_of ["term"] (defScope s_calls_of) := ⟨rfl, rfl, rfl, by decide +kernel, rfl, by decide +kernel, by decide +kernel⟩
abbrev N_keeps_mark : List Str := ["term", "part"]
theorem sc_keeps_mark : FnScope N_keeps_mark ["term"] (defScope s_keeps_mark) := ⟨rfl, rfl, rfl, by decide +kernel, rfl, by decide +kernel, by decide +kernel⟩
abbrev N_rows_of : List Str := ["wood", "kind", "told", "rows"]
theorem sc_rows_of : FnScope N_rows_of ["wood", "kind"] (defScope s_rows_of) := ⟨rfl, rfl, rfl, by decide +kernel, rfl, by decide +kernel, by decide +kernel⟩
abbrev N_wood_again : List Str := ["wood", "kind", "rows"]
theorem sc_wood_again : FnScope N_wood_again ["wood"] (defScope s_wood_again) := ⟨rfl, rfl, rfl, by decide +kernel, rfl, by decide +kernel, by decide +kernel⟩
abbrev N_row_by : List Str := ["part", "kinds", "kind"]
theorem sc_row_by : FnScope N_row_by ["part"] (defScope s_row_by) := ⟨rfl, rfl, rfl, by decide +kernel, rfl, by decide +kernel, by decide +kernel⟩
abbrev N_kind_by : List Str := ["part", "row"]
theorem sc_kind_by : FnScope N_kind_by ["part"] (defScope s_kind_by) := ⟨rfl, rfl, rfl, by decide +kernel, rfl, by decide +kernel, by decide +kernel⟩
abbrev N_look_over : List Str := ["wood", "kinds", "kind", "rows", "names", "name", "branches", "wanted"]
theorem sc_look_over : FnScope N_look_over ["wood"] (defScope s_look_over) := ⟨rfl, rfl, rfl, by decide +kernel, rfl, by decide +kernel, by decide +kernel⟩
abbrev N_read_wood : List Str := ["text", "wood", "part", "kind", "rows"]
theorem sc_read_wood : FnScope N_read_wood ["text"] (defScope s_read_wood) := ⟨rfl, rfl, rfl, by decide +kernel, rfl, by decide +kernel, by decide +kernel⟩
abbrev N_calls_fit : List Str := ["term", "branches", "modes", "mode", "branch"]
theorem sc_calls_fit : FnScope N_calls_fit ["term", "branches", "modes"] (defScope s_calls_fit) := ⟨rfl, rfl, rfl, by decide +kernel, rfl, by decide +kernel, by decide +kernel⟩
abbrev N_is_sound : List Str := ["wood", "start", "modes", "kinds", "kind", "rows", "rules", "row", "rule"]
theorem sc_is_sound : FnScope N_is_sound ["wood", "start", "modes"] (defScope s_is_sound) := ⟨rfl, rfl, rfl, by decide +kernel, rfl, by decide +kernel, by decide +kernel⟩
abbrev N_mark_at : List Str := ["row", "here", "kept"]
theorem sc_mark_at : FnScope N_mark_at ["row", "here"] (defScope s_mark_at) := ⟨rfl, rfl, rfl, by decide +kernel, rfl, by decide +kernel, by decide +kernel⟩
abbrev N_call_at : List Str := ["row", "here"]
theorem sc_call_at : FnScope N_call_at ["row", "here"] (defScope s_call_at) := ⟨rfl, rfl, rfl, by decide +kernel, rfl, by decide +kernel, by decide +kernel⟩
abbrev N_term_at : List Str := ["row", "here", "depth", "name", "kept", "add", "parts", "part"]
theorem sc_term_at : FnScope N_term_at ["row", "here", "depth"] (defScope s_term_at) := ⟨rfl, rfl, rfl, by decide +kernel, rfl, by decide +kernel, by decide +kernel⟩
abbrev N_term_by : List Str := ["row", "term", "end"]
theorem sc_term_by : FnScope N_term_by ["row"] (defScope s_term_by) := ⟨rfl, rfl, rfl, by decide +kernel, rfl, by decide +kernel, by decide +kernel⟩
abbrev N_rule_by : List Str := ["part", "word"]
theorem sc_rule_by : FnScope N_rule_by ["part"] (defScope s_rule_by) := ⟨rfl, rfl, rfl, by decide +kernel, rfl, by decide +kernel, by decide +kernel⟩
abbrev N_numbered : List Str := ["term", "names", "part"]
theorem sc_numbered : FnScope N_numbered ["term", "names"] (defScope s_numbered) := ⟨rfl, rfl, rfl, by decide +kernel, rfl, by decide +kernel, by decide +kernel⟩
abbrev N_table_by : List Str := ["wood", "rules", "table", "mode", "kind", "name", "term", "told", "branches"]
theorem sc_table_by : FnScope N_table_by ["wood", "rules"] (defScope s_table_by) := ⟨rfl, rfl, rfl, by decide +kernel, rfl, by decide +kernel, by decide +kernel⟩
abbrev N_modes_by : List Str := ["wood", "table", "names", "modes", "kind", "terms", "rules", "name", "branches"]
theorem sc_modes_by : FnScope N_modes_by ["wood", "table"] (defScope s_modes_by) := ⟨rfl, rfl, rfl, by decide +kernel, rfl, by decide +kernel, by decide +kernel⟩
abbrev N_read_turning : List Str := ["wood", "text", "parts", "start", "rules", "part", "total", "rule", "table", "modes"]
theorem sc_read_turning : FnScope N_read_turning ["wood", "text"] (defScope s_read_turning) := ⟨rfl, rfl, rfl, by decide +kernel, rfl, by decide +kernel, by decide +kernel⟩
abbrev N__law_cell_at : List Str := ["_law_script", "_law_k"]
theorem sc__law_cell_at : FnScope N__law_cell_at ["_law_script", "_law_k"] (defScope s__law_cell_at) := ⟨rfl, rfl, rfl, by decide +kernel, rfl, by decide +kernel, by decide +kernel⟩
abbrev N__law_word_by : List Str := ["_law_cell", "_law_number"]
theorem sc__law_word_by : FnScope N__law_word_by ["_law_cell"] (defScope s__law_word_by) := ⟨rfl, rfl, rfl, by decide +kernel, rfl, by decide +kernel, by decide +kernel⟩
abbrev N__law_figures : List Str := ["_law_number", "_law_lots", "_law_found", "_law_k"]
theorem sc__law_figures : FnScope N__law_figures ["_law_number", "_law_lots"] (defScope s__law_figures) := ⟨rfl, rfl, rfl, by decide +kernel, rfl, by decide +kernel, by decide +kernel⟩
abbrev N__law_letters : List Str := ["_law_number", "_law_lots", "_law_found", "_law_k"]
theorem sc__law_letters : FnScope N__law_letters ["_law_number", "_law_lots"] (defScope s__law_letters) := ⟨rfl, rfl, rfl, by decide +kernel, rfl, by decide +kernel, by decide +kernel⟩
abbrev N__law_bad_by : List Str := ["_law_cell", "_law_number", "_law_way", "_law_sign", "_law_some"]
theorem sc__law_bad_by : FnScope N__law_bad_by ["_law_cell"] (defScope s__law_bad_by) := ⟨rfl, rfl, rfl, by decide +kernel, rfl, by decide +kernel, by decide +kernel⟩
abbrev N__law_refused : List Str := ["_law_ask", "_law_thing", "_law_error", "e"]
theorem sc__law_refused : FnScope N__law_refused ["_law_ask", "_law_thing"] (defScope s__law_refused) := ⟨rfl, rfl, rfl, by decide +kernel, rfl, by decide +kernel, by decide +kernel⟩
abbrev N__law_read : List Str := ["_law_thing"]
theorem sc__law_read : FnScope N__law_read ["_law_thing"] (defScope s__law_read) := ⟨rfl, rfl, rfl, by decide +kernel, rfl, by decide +kernel, by decide +kernel⟩
abbrev N_law : List Str := ["_law_script", "_law_row", "_law_cell", "_law_where", "_law_thing", "_law_number"]
theorem sc_law : FnScope N_law ["_law_script"] (defScope s_law) := ⟨rfl, rfl, rfl, by decide +kernel, rfl, by decide +kernel, by decide +kernel⟩
structure Txt (K : PySem.W.Frag) (mg : Str → Option Value) (f : Nat → Addr) (fd : Nat → FuncData) (cl : Nat → Addr) : Prop where
  F_run_end : Fun K "run_end" "run_end" s_run_end (f 0) (fd 0)
  B_run_end : Binds K (fd 0) ["text", "start", "signs"] []
  M_run_end : mg "run_end" = some (.ref (f 0))
  F_word_end : Fun K "word_end" "word_end" s_word_end (f 1) (fd 1)
  B_word_end : Binds K (fd 1) ["text", "start"] []
  M_word_end : mg "word_end" = some (.ref (f 1))
  F_words : Fun K "words" "words" s_words (f 2) (fd 2)
  B_words : Binds K (fd 2) ["text"] []
  M_words : mg "words" = some (.ref (f 2))
  N_words : PySem.W.nsIn K PySem.mainGlobals "words" = some (some (.ref (f 2)))
  F_is_name : Fun K "is_name" "is_name" s_is_name (f 3) (fd 3)
  B_is_name : Binds K (fd 3) ["word"] []
  M_is_name : mg "is_name" = some (.ref (f 3))
  F_is_number : Fun K "is_number" "is_number" s_is_number (f 4) (fd 4)
  B_is_number : Binds K (fd 4) ["word"] []
  M_is_number : mg "is_number" = some (.ref (f 4))
  F_parted : Fun K "parted" "parted" s_parted (f 5) (fd 5)
  B_parted : Binds K (fd 5) ["row", "sign"] []
  M_parted : mg "parted" = some (.ref (f 5))
  F_size : Fun K "size" "size" s_size (f 6) (fd 6)
  B_size : Binds K (fd 6) ["tree"] []
  M_size : mg "size" = some (.ref (f 6))
  F_tree_at : Fun K "tree_at" "tree_at" s_tree_at (f 7) (fd 7)
  B_tree_at : Binds K (fd 7) ["row", "here", "level"] []
  M_tree_at : mg "tree_at" = some (.ref (f 7))
  F_read_tree : Fun K "read_tree" "read_tree" s_read_tree (f 8) (fd 8)
  B_read_tree : Binds K (fd 8) ["text"] []
  M_read_tree : mg "read_tree" = some (.ref (f 8))
  N_read_tree : PySem.W.nsIn K PySem.mainGlobals "read_tree" = some (some (.ref (f 8)))
  F_term_size : Fun K "term_size" "term_size" s_term_size (f 9) (fd 9)
  B_term_size : Binds K (fd 9) ["term"] []
  M_term_size : mg "term_size" = some (.ref (f 9))
  F_calls_of : Fun K "calls_of" "calls_of" s_calls_of (f 10) (fd 10)
  B_calls_of : Binds K (fd 10) ["term"] []
  M_calls_of : mg "calls_of" = some (.ref (f 10))
  F_keeps_mark : Fun K "keeps_mark" "keeps_mark" s_keeps_mark (f 11) (fd 11)
  B_keeps_mark : Binds K (fd 11) ["term"] []
  M_keeps_mark : mg "keeps_mark" = some (.ref (f 11))
  F_rows_of : Fun K "rows_of" "rows_of" s_rows_of (f 12) (fd 12)
  B_rows_of : Binds K (fd 12) ["wood", "kind"] []
  M_rows_of : mg "rows_of" = some (.ref (f 12))
  F_wood_again : Fun K "wood_again" "wood_again" s_wood_again (f 13) (fd 13)
  B_wood_again : Binds K (fd 13) ["wood"] []
  M_wood_again : mg "wood_again" = some (.ref (f 13))
  F_row_by : Fun K "row_by" "row_by" s_row_by (f 14) (fd 14)
  B_row_by : Binds K (fd 14) ["part"] []
  M_row_by : mg "row_by" = some (.ref (f 14))
  F_kind_by : Fun K "kind_by" "kind_by" s_kind_by (f 15) (fd 15)
  B_kind_by : Binds K (fd 15) ["part"] []
  M_kind_by : mg "kind_by" = some (.ref (f 15))
  F_look_over : Fun K "look_over" "look_over" s_look_over (f 16) (fd 16)
  B_look_over : Binds K (fd 16) ["wood"] []
  M_look_over : mg "look_over" = some (.ref (f 16))
  F_read_wood : Fun K "read_wood" "read_wood" s_read_wood (f 17) (fd 17)
  B_read_wood : Binds K (fd 17) ["text"] []
  M_read_wood : mg "read_wood" = some (.ref (f 17))
  N_read_wood : PySem.W.nsIn K PySem.mainGlobals "read_wood" = some (some (.ref (f 17)))
  F_calls_fit : Fun K "calls_fit" "calls_fit" s_calls_fit (f 18) (fd 18)
  B_calls_fit : Binds K (fd 18) ["term", "branches", "modes"] []
  M_calls_fit : mg "calls_fit" = some (.ref (f 18))
  F_is_sound : Fun K "is_sound" "is_sound" s_is_sound (f 19) (fd 19)
  B_is_sound : Binds K (fd 19) ["wood", "start", "modes"] []
  M_is_sound : mg "is_sound" = some (.ref (f 19))
  F_mark_at : Fun K "mark_at" "mark_at" s_mark_at (f 20) (fd 20)
  B_mark_at : Binds K (fd 20) ["row", "here"] []
  M_mark_at : mg "mark_at" = some (.ref (f 20))
  F_call_at : Fun K "call_at" "call_at" s_call_at (f 21) (fd 21)
  B_call_at : Binds K (fd 21) ["row", "here"] []
  M_call_at : mg "call_at" = some (.ref (f 21))
  F_term_at : Fun K "term_at" "term_at" s_term_at (f 22) (fd 22)
  B_term_at : Binds K (fd 22) ["row", "here", "depth"] []
  M_term_at : mg "term_at" = some (.ref (f 22))
  F_term_by : Fun K "term_by" "term_by" s_term_by (f 23) (fd 23)
  B_term_by : Binds K (fd 23) ["row"] []
  M_term_by : mg "term_by" = some (.ref (f 23))
  F_rule_by : Fun K "rule_by" "rule_by" s_rule_by (f 24) (fd 24)
  B_rule_by : Binds K (fd 24) ["part"] []
  M_rule_by : mg "rule_by" = some (.ref (f 24))
  F_numbered : Fun K "numbered" "numbered" s_numbered (f 25) (fd 25)
  B_numbered : Binds K (fd 25) ["term", "names"] []
  M_numbered : mg "numbered" = some (.ref (f 25))
  F_table_by : Fun K "table_by" "table_by" s_table_by (f 26) (fd 26)
  B_table_by : Binds K (fd 26) ["wood", "rules"] []
  M_table_by : mg "table_by" = some (.ref (f 26))
  F_modes_by : Fun K "modes_by" "modes_by" s_modes_by (f 27) (fd 27)
  B_modes_by : Binds K (fd 27) ["wood", "table"] []
  M_modes_by : mg "modes_by" = some (.ref (f 27))
  F_read_turning : Fun K "read_turning" "read_turning" s_read_turning (f 28) (fd 28)
  B_read_turning : Binds K (fd 28) ["wood", "text"] []
  M_read_turning : mg "read_turning" = some (.ref (f 28))
  F__law_cell_at : Fun K "_law_cell_at" "_law_cell_at" s__law_cell_at (f 29) (fd 29)
  B__law_cell_at : Binds K (fd 29) ["_law_script", "_law_k"] []
  M__law_cell_at : mg "_law_cell_at" = some (.ref (f 29))
  F__law_word_by : Fun K "_law_word_by" "_law_word_by" s__law_word_by (f 30) (fd 30)
  B__law_word_by : Binds K (fd 30) ["_law_cell"] []
  M__law_word_by : mg "_law_word_by" = some (.ref (f 30))
  F__law_figures : Fun K "_law_figures" "_law_figures" s__law_figures (f 31) (fd 31)
  B__law_figures : Binds K (fd 31) ["_law_number", "_law_lots"] []
  M__law_figures : mg "_law_figures" = some (.ref (f 31))
  F__law_letters : Fun K "_law_letters" "_law_letters" s__law_letters (f 32) (fd 32)
  B__law_letters : Binds K (fd 32) ["_law_number", "_law_lots"] []
  M__law_letters : mg "_law_letters" = some (.ref (f 32))
  F__law_bad_by : Fun K "_law_bad_by" "_law_bad_by" s__law_bad_by (f 33) (fd 33)
  B__law_bad_by : Binds K (fd 33) ["_law_cell"] []
  M__law_bad_by : mg "_law_bad_by" = some (.ref (f 33))
  F__law_refused : Fun K "_law_refused" "_law_refused" s__law_refused (f 34) (fd 34)
  B__law_refused : Binds K (fd 34) ["_law_ask", "_law_thing"] []
  M__law_refused : mg "_law_refused" = some (.ref (f 34))
  F__law_read : Fun K "_law_read" "_law_read" s__law_read (f 35) (fd 35)
  B__law_read : Binds K (fd 35) ["_law_thing"] []
  M__law_read : mg "_law_read" = some (.ref (f 35))
  N__law_read : PySem.W.nsIn K PySem.mainGlobals "_law_read" = some (some (.ref (f 35)))
  F_law : Fun K "law" "law" s_law (f 36) (fd 36)
  B_law : Binds K (fd 36) ["_law_script"] []
  M_law : mg "law" = some (.ref (f 36))
  z_ValueError : mg "ValueError" = none
  z_any : mg "any" = none
  z_int : mg "int" = none
  z_isinstance : mg "isinstance" = none
  z_len : mg "len" = none
  z_list : mg "list" = none
  z_range : mg "range" = none
  z_set : mg "set" = none
  z_sorted : mg "sorted" = none
  z_str : mg "str" = none
  z_sum : mg "sum" = none
  z_tuple : mg "tuple" = none
  z_zip : mg "zip" = none
  k_FIGURES : ∃ u, mg "FIGURES" = some u ∧ RelV (.str "0123456789") u
  k_LETTERS : ∃ u, mg "LETTERS" = some u ∧ RelV (.str "abcdefghijklmnopqrstuvwxyz") u
  k_SIGNS : ∃ u, mg "SIGNS" = some u ∧ RelV (.str "();:=|*") u
  cn_NoText : PySem.W.nsIn K PySem.mainGlobals "NoText" = some (some (.ref (cl 0)))
  cg_NoText : mg "NoText" = some (.ref (cl 0))
  cx_NoText : ExcT K mg "NoText" (cl 0)
  cc_NoText : ExcC K (cl 0)
  cn_NoWood : PySem.W.nsIn K PySem.mainGlobals "NoWood" = some (some (.ref (cl 1)))
  cg_NoWood : mg "NoWood" = some (.ref (cl 1))
  cx_NoWood : ExcT K mg "NoWood" (cl 1)
  cc_NoWood : ExcC K (cl 1)
  cn_NoTurning : PySem.W.nsIn K PySem.mainGlobals "NoTurning" = some (some (.ref (cl 2)))
  cg_NoTurning : mg "NoTurning" = some (.ref (cl 2))
  cx_NoTurning : ExcT K mg "NoTurning" (cl 2)
  cc_NoTurning : ExcC K (cl 2)
  cg_NoName : mg "NoName" = some (.ref (cl 3))
  cg_NoRow : mg "NoRow" = some (.ref (cl 4))
  cg_Strays : mg "Strays" = some (.ref (cl 5))
  cg_OtherWood : mg "OtherWood" = some (.ref (cl 6))
  cg_TooGreat : mg "TooGreat" = some (.ref (cl 7))
  cg_NoTree : mg "NoTree" = some (.ref (cl 8))
  cg_TurnError : mg "TurnError" = some (.ref (cl 9))
  ci_NoText_NoName : PySem.W.kitOne K (.ref (cl 0)) (.ref (cl 3)) = some false
  ci_NoWood_NoName : PySem.W.kitOne K (.ref (cl 1)) (.ref (cl 3)) = some false
  ci_NoTurning_NoName : PySem.W.kitOne K (.ref (cl 2)) (.ref (cl 3)) = some false
  ci_NoText_NoRow : PySem.W.kitOne K (.ref (cl 0)) (.ref (cl 4)) = some false
  ci_NoWood_NoRow : PySem.W.kitOne K (.ref (cl 1)) (.ref (cl 4)) = some false
  ci_NoTurning_NoRow : PySem.W.kitOne K (.ref (cl 2)) (.ref (cl 4)) = some false
  ci_NoText_Strays : PySem.W.kitOne K (.ref (cl 0)) (.ref (cl 5)) = some false
  ci_NoWood_Strays : PySem.W.kitOne K (.ref (cl 1)) (.ref (cl 5)) = some false
  ci_NoTurning_Strays : PySem.W.kitOne K (.ref (cl 2)) (.ref (cl 5)) = some false
  ci_NoText_OtherWood : PySem.W.kitOne K (.ref (cl 0)) (.ref (cl 6)) = some false
  ci_NoWood_OtherWood : PySem.W.kitOne K (.ref (cl 1)) (.ref (cl 6)) = some false
  ci_NoTurning_OtherWood : PySem.W.kitOne K (.ref (cl 2)) (.ref (cl 6)) = some false
  ci_NoText_TooGreat : PySem.W.kitOne K (.ref (cl 0)) (.ref (cl 7)) = some false
  ci_NoWood_TooGreat : PySem.W.kitOne K (.ref (cl 1)) (.ref (cl 7)) = some false
  ci_NoTurning_TooGreat : PySem.W.kitOne K (.ref (cl 2)) (.ref (cl 7)) = some false
  ci_NoText_NoTree : PySem.W.kitOne K (.ref (cl 0)) (.ref (cl 8)) = some false
  ci_NoWood_NoTree : PySem.W.kitOne K (.ref (cl 1)) (.ref (cl 8)) = some false
  ci_NoTurning_NoTree : PySem.W.kitOne K (.ref (cl 2)) (.ref (cl 8)) = some false
  ci_NoText_NoTurning : PySem.W.kitOne K (.ref (cl 0)) (.ref (cl 2)) = some false
  ci_NoWood_NoTurning : PySem.W.kitOne K (.ref (cl 1)) (.ref (cl 2)) = some false
  ci_NoTurning_NoTurning : PySem.W.kitOne K (.ref (cl 2)) (.ref (cl 2)) = some true
  ci_NoText_NoWood : PySem.W.kitOne K (.ref (cl 0)) (.ref (cl 1)) = some false
  ci_NoWood_NoWood : PySem.W.kitOne K (.ref (cl 1)) (.ref (cl 1)) = some true
  ci_NoTurning_NoWood : PySem.W.kitOne K (.ref (cl 2)) (.ref (cl 1)) = some false
  ci_NoText_ValueError : PySem.W.kitOne K (.ref (cl 0)) (.type "ValueError") = some true
  ci_NoWood_ValueError : PySem.W.kitOne K (.ref (cl 1)) (.type "ValueError") = some true
  ci_NoTurning_ValueError : PySem.W.kitOne K (.ref (cl 2)) (.type "ValueError") = some true
  ci_NoText_NoText : PySem.W.kitOne K (.ref (cl 0)) (.ref (cl 0)) = some true
  ci_NoWood_NoText : PySem.W.kitOne K (.ref (cl 1)) (.ref (cl 0)) = some false
  ci_NoTurning_NoText : PySem.W.kitOne K (.ref (cl 2)) (.ref (cl 0)) = some false
  cm_NoTurning_TurnError : PySem.W.exmOne K (.ref (cl 2)) (.ref (cl 9)) = some true
  cm_NoWood_TurnError : PySem.W.exmOne K (.ref (cl 1)) (.ref (cl 9)) = some true
  cm_NoText_TurnError : PySem.W.exmOne K (.ref (cl 0)) (.ref (cl 9)) = some true
  kn_NoName : PySem.W.kitOne K (.type "NoneType") (.ref (cl 3)) = some false
  kn_NoRow : PySem.W.kitOne K (.type "NoneType") (.ref (cl 4)) = some false
  kn_Strays : PySem.W.kitOne K (.type "NoneType") (.ref (cl 5)) = some false
  kn_OtherWood : PySem.W.kitOne K (.type "NoneType") (.ref (cl 6)) = some false
  kn_TooGreat : PySem.W.kitOne K (.type "NoneType") (.ref (cl 7)) = some false
  kn_NoTree : PySem.W.kitOne K (.type "NoneType") (.ref (cl 8)) = some false
  kn_NoTurning : PySem.W.kitOne K (.type "NoneType") (.ref (cl 2)) = some false
  kn_NoWood : PySem.W.kitOne K (.type "NoneType") (.ref (cl 1)) = some false
  kn_ValueError : PySem.W.kitOne K (.type "NoneType") (.type "ValueError") = some false
  kn_NoText : PySem.W.kitOne K (.type "NoneType") (.ref (cl 0)) = some false
structure Fns (P : Program) (w : World) (K : PySem.W.Frag) (mg : Str → Option Value) (base : Heap) (f : Nat → Addr) (fd : Nat → FuncData) (n : Nat) : Prop where
  g_run_end : FnOk P w K mg base (L2.CX P w) n (f 0) (fd 0) ["text", "start", "signs"] (spM ⟨K, w⟩ mg 3 (mir n 0))
  g_word_end : FnOk P w K mg base (L2.CX P w) n (f 1) (fd 1) ["text", "start"] (spM ⟨K, w⟩ mg 2 (mir n 1))
  g_words : FnOk P w K mg base (L2.CX P w) n (f 2) (fd 2) ["text"] (spM ⟨K, w⟩ mg 1 (mir n 2))
  g_is_name : FnOk P w K mg base (L2.CX P w) n (f 3) (fd 3) ["word"] (spM ⟨K, w⟩ mg 1 (mir n 3))
  g_is_number : FnOk P w K mg base (L2.CX P w) n (f 4) (fd 4) ["word"] (spM ⟨K, w⟩ mg 1 (mir n 4))
  g_parted : FnOk P w K mg base (L2.CX P w) n (f 5) (fd 5) ["row", "sign"] (spM ⟨K, w⟩ mg 2 (mir n 5))
  g_size : FnOk P w K mg base (L2.CX P w) n (f 6) (fd 6) ["tree"] (spM ⟨K, w⟩ mg 1 (mir n 6))
  g_tree_at : FnOk P w K mg base (L2.CX P w) n (f 7) (fd 7) ["row", "here", "level"] (spM ⟨K, w⟩ mg 3 (mir n 7))
  g_read_tree : FnOk P w K mg base (L2.CX P w) n (f 8) (fd 8) ["text"] (spM ⟨K, w⟩ mg 1 (mir n 8))
  g_term_size : FnOk P w K mg base (L2.CX P w) n (f 9) (fd 9) ["term"] (spM ⟨K, w⟩ mg 1 (mir n 9))
  g_calls_of : FnOk P w K mg base (L2.CX P w) n (f 10) (fd 10) ["term"] (spM ⟨K, w⟩ mg 1 (mir n 10))
  g_keeps_mark : FnOk P w K mg base (L2.CX P w) n (f 11) (fd 11) ["term"] (spM ⟨K, w⟩ mg 1 (mir n 11))
  g_rows_of : FnOk P w K mg base (L2.CX P w) n (f 12) (fd 12) ["wood", "kind"] (spM ⟨K, w⟩ mg 2 (mir n 12))
  g_wood_again : FnOk P w K mg base (L2.CX P w) n (f 13) (fd 13) ["wood"] (spM ⟨K, w⟩ mg 1 (mir n 13))
  g_row_by : FnOk P w K mg base (L2.CX P w) n (f 14) (fd 14) ["part"] (spM ⟨K, w⟩ mg 1 (mir n 14))
  g_kind_by : FnOk P w K mg base (L2.CX P w) n (f 15) (fd 15) ["part"] (spM ⟨K, w⟩ mg 1 (mir n 15))
  g_look_over : FnOk P w K mg base (L2.CX P w) n (f 16) (fd 16) ["wood"] (spM ⟨K, w⟩ mg 1 (mir n 16))
  g_read_wood : FnOk P w K mg base (L2.CX P w) n (f 17) (fd 17) ["text"] (spM ⟨K, w⟩ mg 1 (mir n 17))
  g_calls_fit : FnOk P w K mg base (L2.CX P w) n (f 18) (fd 18) ["term", "branches", "modes"] (spM ⟨K, w⟩ mg 3 (mir n 18))
  g_is_sound : FnOk P w K mg base (L2.CX P w) n (f 19) (fd 19) ["wood", "start", "modes"] (spM ⟨K, w⟩ mg 3 (mir n 19))
  g_mark_at : FnOk P w K mg base (L2.CX P w) n (f 20) (fd 20) ["row", "here"] (spM ⟨K, w⟩ mg 2 (mir n 20))
  g_call_at : FnOk P w K mg base (L2.CX P w) n (f 21) (fd 21) ["row", "here"] (spM ⟨K, w⟩ mg 2 (mir n 21))
  g_term_at : FnOk P w K mg base (L2.CX P w) n (f 22) (fd 22) ["row", "here", "depth"] (spM ⟨K, w⟩ mg 3 (mir n 22))
  g_term_by : FnOk P w K mg base (L2.CX P w) n (f 23) (fd 23) ["row"] (spM ⟨K, w⟩ mg 1 (mir n 23))
  g_rule_by : FnOk P w K mg base (L2.CX P w) n (f 24) (fd 24) ["part"] (spM ⟨K, w⟩ mg 1 (mir n 24))
  g_numbered : FnOk P w K mg base (L2.CX P w) n (f 25) (fd 25) ["term", "names"] (spM ⟨K, w⟩ mg 2 (mir n 25))
  g_table_by : FnOk P w K mg base (L2.CX P w) n (f 26) (fd 26) ["wood", "rules"] (spM ⟨K, w⟩ mg 2 (mir n 26))
  g_modes_by : FnOk P w K mg base (L2.CX P w) n (f 27) (fd 27) ["wood", "table"] (spM ⟨K, w⟩ mg 2 (mir n 27))
  g_read_turning : FnOk P w K mg base (L2.CX P w) n (f 28) (fd 28) ["wood", "text"] (spM ⟨K, w⟩ mg 2 (mir n 28))
  g__law_cell_at : FnOk P w K mg base (L2.CX P w) n (f 29) (fd 29) ["_law_script", "_law_k"] (spM ⟨K, w⟩ mg 2 (mir n 29))
  g__law_word_by : FnOk P w K mg base (L2.CX P w) n (f 30) (fd 30) ["_law_cell"] (spM ⟨K, w⟩ mg 1 (mir n 30))
  g__law_figures : FnOk P w K mg base (L2.CX P w) n (f 31) (fd 31) ["_law_number", "_law_lots"] (spM ⟨K, w⟩ mg 2 (mir n 31))
  g__law_letters : FnOk P w K mg base (L2.CX P w) n (f 32) (fd 32) ["_law_number", "_law_lots"] (spM ⟨K, w⟩ mg 2 (mir n 32))
  g__law_bad_by : FnOk P w K mg base (L2.CX P w) n (f 33) (fd 33) ["_law_cell"] (spM ⟨K, w⟩ mg 1 (mir n 33))
  g__law_refused : FnOk P w K mg base (L2.CX P w) n (f 34) (fd 34) ["_law_ask", "_law_thing"] (spM ⟨K, w⟩ mg 2 (mir n 34))
  g__law_read : FnOk P w K mg base (L2.CX P w) n (f 35) (fd 35) ["_law_thing"] (spM ⟨K, w⟩ mg 1 (mir n 35))
  g_law : FnOk P w K mg base (L2.CX P w) n (f 36) (fd 36) ["_law_script"] (spM ⟨K, w⟩ mg 1 (mir n 36))
section
variable {P : Program} {w : World} {K : PySem.W.Frag} {mg : Str → Option Value} {base : Heap} {f : Nat → Addr} {fd : Nat → FuncData} {cl : Nat → Addr} {n : Nat}
theorem ok_run_end (T : Txt K mg f fd cl) (G : Fns P w K mg base f fd n) : FnOk P w K mg base (L2.CX P w) (n + 1) (f 0) (fd 0) ["text", "start", "signs"] (spM ⟨K, w⟩ mg 3 (mir (n + 1) 0)) :=
  mk_fn (l := 1) (fb := b_run_end (mir n)) T.F_run_end sc_run_end rfl (fun _ => rfl) fun cdv A outer s H E hr =>
    (dss_cons (ds_set 3 sc_run_end.nd (de_df (df_var 1)))
    (dss_cons (ds_while 1000000 (passes_of rfl) (dt_dw (dw_and (dt_lt (dv_df (df_var 3)) (dv_de (de_len rfl T.z_len (dal_cons (dl_df (df_var 0)) dal_nil)))) (dw_and1 (dt_in (room_eq hr) (dv_df (df_ix (dl_df (df_var 0)) (dv_df (df_var 3)))) (dv_df (df_var 2))))))
    (dss_one (ds_aug 3 iop_addA opS_addA sc_run_end.nd (dv_df df_int))))
    (dss_one (ds_ret (de_df (df_var 3))))))
theorem ok_word_end (T : Txt K mg f fd cl) (G : Fns P w K mg base f fd n) : FnOk P w K mg base (L2.CX P w) (n + 1) (f 1) (fd 1) ["text", "start"] (spM ⟨K, w⟩ mg 2 (mir (n + 1) 1)) :=
  mk_fn (l := 2) (fb := b_word_end (mir n)) T.F_word_end sc_word_end rfl (fun _ => rfl) fun cdv A outer s H E hr =>
    (dss_cons (ds_if (dt_in (room_eq hr) (dv_df (df_ix (dl_df (df_var 0)) (dv_df (df_var 1)))) (dv_df (df_gstr rfl T.k_SIGNS.choose_spec.1 T.k_SIGNS.choose_spec.2)))
    (dss_one (ds_ret (de_add (dl_df (df_var 1)) (dl_df df_int))))
    dss_nil)
    (dss_cons (ds_set 2 sc_word_end.nd (de_df (df_de (de_call G.g_run_end (takes_of rfl rfl rfl rfl) hr rfl T.M_run_end T.F_run_end.kp T.B_run_end (da_cons (df_var 0) (da_cons (df_var 1) (da_cons (df_gstr rfl T.k_LETTERS.choose_spec.1 T.k_LETTERS.choose_spec.2) da_nil))) (aCons_len (aCons_len (aCons_len (fun _ _ h => aNil_len h))))))))
    (dss_cons (ds_if (dt_gt (dv_df (df_var 2)) (dv_df (df_var 1)))
    (dss_cons (ds_if (dt_gt (dv_df (df_sub (dv_df (df_var 2)) (dv_df (df_var 1)))) (dv_df df_int))
    (dss_one (ds_raise rfl (takes_of rfl rfl rfl rfl) T.cx_NoText rfl))
    dss_nil)
    (dss_one (ds_ret (de_df (df_var 2)))))
    dss_nil)
    (dss_cons (ds_set 3 sc_word_end.nd (de_df (df_de (de_add (dl_df (df_var 1)) (dl_de (de_int rfl T.z_int (dal_cons (dl_df (df_eq (room_eq hr) (dv_df (df_ix (dl_df (df_var 0)) (dv_df (df_var 1)))) (dv_df df_str))) dal_nil)))))))
    (dss_cons (ds_set 2 sc_word_end.nd (de_df (df_de (de_call G.g_run_end (takes_of rfl rfl rfl rfl) hr rfl T.M_run_end T.F_run_end.kp T.B_run_end (da_cons (df_var 0) (da_cons (df_var 3) (da_cons (df_gstr rfl T.k_FIGURES.choose_spec.1 T.k_FIGURES.choose_spec.2) da_nil))) (aCons_len (aCons_len (aCons_len (fun _ _ h => aNil_len h))))))))
    (dss_cons (ds_if (dt_dw (dw_or (dt_eq (room_eq hr) (dv_df (df_var 2)) (dv_df (df_var 3))) (dw_or1 (dt_gt (dv_df (df_sub (dv_df (df_var 2)) (dv_df (df_var 3)))) (dv_df df_int)))))
    (dss_one (ds_raise rfl (takes_of rfl rfl rfl rfl) T.cx_NoText rfl))
    dss_nil)
    (dss_cons (ds_if (dt_dw (dw_and (dt_eq (room_eq hr) (dv_df (df_ix (dl_df (df_var 0)) (dv_df (df_var 3)))) (dv_df df_str)) (dw_and1 (dt_dw (dw_or (dt_gt (dv_df (df_sub (dv_df (df_var 2)) (dv_df (df_var 3)))) (dv_df df_int)) (dw_or1 (dt_gt (dv_df (df_var 3)) (dv_df (df_var 1)))))))))
    (dss_one (ds_raise rfl (takes_of rfl rfl rfl rfl) T.cx_NoText rfl))
    dss_nil)
    (dss_one (ds_ret (de_df (df_var 2)))))))))))
theorem ok_words (T : Txt K mg f fd cl) (G : Fns P w K mg base f fd n) : FnOk P w K mg base (L2.CX P w) (n + 1) (f 2) (fd 2) ["text"] (spM ⟨K, w⟩ mg 1 (mir (n + 1) 2)) :=
  mk_fn (l := 3) (fb := b_words (mir n)) T.F_words sc_words rfl (fun _ => rfl) fun cdv A outer s H E hr =>
    (dss_cons (ds_if (dt_not (dt_val (dv_df (df_isiW (dv_df (df_var 0)) rfl T.z_isinstance rfl T.z_str rfl))))
    (dss_one (ds_raise rfl (takes_of rfl rfl rfl rfl) T.cx_NoText rfl))
    dss_nil)
    (dss_cons (ds_set 1 sc_words.nd (de_lst da_nil))
    (dss_cons (ds_set 2 sc_words.nd (de_df df_int))
    (dss_cons (ds_while 1000000 (passes_of rfl) (dt_lt (dv_df (df_var 2)) (dv_de (de_len rfl T.z_len (dal_cons (dl_df (df_var 0)) dal_nil))))
    (dss_cons (ds_if (dt_eq (room_eq hr) (dv_df (df_ix (dl_df (df_var 0)) (dv_df (df_var 2)))) (dv_df df_str))
    (dss_cons (ds_aug 2 iop_addA opS_addA sc_words.nd (dv_df df_int))
    (dss_one ds_cont))
    dss_nil)
    (dss_cons (ds_set 3 sc_words.nd (de_df (df_de (de_call G.g_word_end (takes_of rfl rfl rfl rfl) hr rfl T.M_word_end T.F_word_end.kp T.B_word_end (da_cons (df_var 0) (da_cons (df_var 2) da_nil)) (aCons_len (aCons_len (fun _ _ h => aNil_len h)))))))
    (dss_cons (ds_app 1 (de_slice (dl_df (df_var 0)) (do_some (dv_df (df_var 2))) (do_some (dv_df (df_var 3)))))
    (dss_one (ds_set 2 sc_words.nd (de_df (df_var 3))))))))
    (dss_one (ds_retV 1))))))
theorem ok_is_name (T : Txt K mg f fd cl) (G : Fns P w K mg base f fd n) : FnOk P w K mg base (L2.CX P w) (n + 1) (f 3) (fd 3) ["word"] (spM ⟨K, w⟩ mg 1 (mir (n + 1) 3)) :=
  mk_fn (l := 0) (fb := b_is_name (mir n)) T.F_is_name sc_is_name rfl (fun _ => rfl) fun cdv A outer s H E hr =>
    (dss_one (ds_ret (de_df (df_in (room_eq hr) (dv_df (df_ix (dl_df (df_var 0)) (dv_df df_int))) (dv_df (df_gstr rfl T.k_LETTERS.choose_spec.1 T.k_LETTERS.choose_spec.2))))))
theorem ok_is_number (T : Txt K mg f fd cl) (G : Fns P w K mg base f fd n) : FnOk P w K mg base (L2.CX P w) (n + 1) (f 4) (fd 4) ["word"] (spM ⟨K, w⟩ mg 1 (mir (n + 1) 4)) :=
  mk_fn (l := 0) (fb := b_is_number (mir n)) T.F_is_number sc_is_number rfl (fun _ => rfl) fun cdv A outer s H E hr =>
    (dss_one (ds_ret (de_df (df_in (room_eq hr) (dv_df (df_ix (dl_df (df_var 0)) (dv_df (df_neg (dv_df df_int))))) (dv_df (df_gstr rfl T.k_FIGURES.choose_spec.1 T.k_FIGURES.choose_spec.2))))))
theorem ok_parted (T : Txt K mg f fd cl) (G : Fns P w K mg base f fd n) : FnOk P w K mg base (L2.CX P w) (n + 1) (f 5) (fd 5) ["row", "sign"] (spM ⟨K, w⟩ mg 2 (mir (n + 1) 5)) :=
  mk_fn (l := 2) (fb := b_parted (mir n)) T.F_parted sc_parted rfl (fun _ => rfl) fun cdv A outer s H E hr =>
    (dss_cons (ds_set 2 sc_parted.nd (de_lstO (dao_cons (de_lst da_nil) dao_nil)))
    (dss_cons (ds_for (ix := [3]) (passes_of rfl) rfl (di_seq (df_var 0)) (dg_name 3 sc_parted.nd)
    (dss_one (ds_if (dt_eq (room_eq hr) (dv_df (df_var 3)) (dv_df (df_var 1)))
    (dss_one (ds_app 2 (de_lst da_nil)))
    (dss_one (ds_app1 2 (dv_df (df_neg (dv_df df_int))) (de_df (df_var 3)))))))
    (dss_one (ds_retV 2))))
theorem ok_size (T : Txt K mg f fd cl) (G : Fns P w K mg base f fd n) : FnOk P w K mg base (L2.CX P w) (n + 1) (f 6) (fd 6) ["tree"] (spM ⟨K, w⟩ mg 1 (mir (n + 1) 6)) :=
  mk_fn (l := 2) (fb := b_size (mir n)) T.F_size sc_size rfl (fun _ => rfl) fun cdv A outer s H E hr =>
    (dss_cons (ds_set 1 sc_size.nd (de_df df_int))
    (dss_cons (ds_for (ix := [2]) (passes_of rfl) rfl (di_seq (df_ix (dl_df (df_var 0)) (dv_df df_int))) (dg_name 2 sc_size.nd)
    (dss_one (ds_aug 1 iop_addA opS_addA sc_size.nd (dv_de (de_call G.g_size (takes_of rfl rfl rfl rfl) hr rfl T.M_size T.F_size.kp T.B_size (da_cons (df_var 2) da_nil) (aCons_len (fun _ _ h => aNil_len h)))))))
    (dss_one (ds_ret (de_df (df_var 1))))))
theorem ok_tree_at (T : Txt K mg f fd cl) (G : Fns P w K mg base f fd n) : FnOk P w K mg base (L2.CX P w) (n + 1) (f 7) (fd 7) ["row", "here", "level"] (spM ⟨K, w⟩ mg 3 (mir (n + 1) 7)) :=
  mk_fn (l := 4) (fb := b_tree_at (mir n)) T.F_tree_at sc_tree_at rfl (fun _ => rfl) fun cdv A outer s H E hr =>
    (dss_cons (ds_if (dt_dw (dw_or (dt_gt (dv_df (df_var 2)) (dv_df df_int)) (dw_or (dt_ge (dv_df (df_var 1)) (dv_de (de_len rfl T.z_len (dal_cons (dl_df (df_var 0)) dal_nil)))) (dw_or1 (dt_not (dt_val (dv_de (de_call G.g_is_name (takes_of rfl rfl rfl rfl) hr rfl T.M_is_name T.F_is_name.kp T.B_is_name (da_cons (df_ix (dl_df (df_var 0)) (dv_df (df_var 1))) da_nil) (aCons_len (fun _ _ h => aNil_len h))))))))))
    (dss_one (ds_raise rfl (takes_of rfl rfl rfl rfl) T.cx_NoText rfl))
    dss_nil)
    (dss_cons (ds_set 3 sc_tree_at.nd (de_df (df_ix (dl_df (df_var 0)) (dv_df (df_var 1)))))
    (dss_cons (ds_aug 1 iop_addA opS_addA sc_tree_at.nd (dv_df df_int))
    (dss_cons (ds_set 4 sc_tree_at.nd (de_df df_int))
    (dss_cons (ds_if (dt_dw (dw_and (dt_lt (dv_df (df_var 1)) (dv_de (de_len rfl T.z_len (dal_cons (dl_df (df_var 0)) dal_nil)))) (dw_and1 (dt_val (dv_de (de_call G.g_is_number (takes_of rfl rfl rfl rfl) hr rfl T.M_is_number T.F_is_number.kp T.B_is_number (da_cons (df_ix (dl_df (df_var 0)) (dv_df (df_var 1))) da_nil) (aCons_len (fun _ _ h => aNil_len h))))))))
    (dss_cons (ds_set 4 sc_tree_at.nd (de_df (df_de (de_int rfl T.z_int (dal_cons (dl_df (df_ix (dl_df (df_var 0)) (dv_df (df_var 1)))) dal_nil)))))
    (dss_one (ds_aug 1 iop_addA opS_addA sc_tree_at.nd (dv_df df_int))))
    dss_nil)
    (dss_cons (ds_set 5 sc_tree_at.nd (de_lst da_nil))
    (dss_cons (ds_if (dt_dw (dw_and (dt_lt (dv_df (df_var 1)) (dv_de (de_len rfl T.z_len (dal_cons (dl_df (df_var 0)) dal_nil)))) (dw_and1 (dt_eq (room_eq hr) (dv_df (df_ix (dl_df (df_var 0)) (dv_df (df_var 1)))) (dv_df df_str)))))
    (dss_cons (ds_aug 1 iop_addA opS_addA sc_tree_at.nd (dv_df df_int))
    (dss_cons (ds_while 1000000 (passes_of rfl) (dt_dw (dw_or (dt_ge (dv_df (df_var 1)) (dv_de (de_len rfl T.z_len (dal_cons (dl_df (df_var 0)) dal_nil)))) (dw_or1 (dt_ne (room_eq hr) (dv_df (df_ix (dl_df (df_var 0)) (dv_df (df_var 1)))) (dv_df df_str)))))
    (dss_cons (ds_asg (ix := [6, 1]) (df_de (de_call G.g_tree_at (takes_of rfl rfl rfl rfl) hr rfl T.M_tree_at T.F_tree_at.kp T.B_tree_at (da_cons (df_var 0) (da_cons (df_var 1) (da_cons (df_de (de_add (dl_df (df_var 2)) (dl_df df_int))) da_nil))) (aCons_len (aCons_len (aCons_len (fun _ _ h => aNil_len h)))))) (dg_tup (n := 2) rfl (dgs_cons (dg_name 6 sc_tree_at.nd) (dgs_cons (dg_name 1 sc_tree_at.nd) dgs_nil))))
    (dss_one (ds_app 5 (de_df (df_var 6))))))
    (dss_cons (ds_if (dt_eq (room_eq hr) (dv_dp (dp_var 5)) (dv_de (de_lst da_nil)))
    (dss_one (ds_raise rfl (takes_of rfl rfl rfl rfl) T.cx_NoText rfl))
    dss_nil)
    (dss_one (ds_aug 1 iop_addA opS_addA sc_tree_at.nd (dv_df df_int))))))
    dss_nil)
    (dss_one (ds_ret (de_df (df_tup (da_cons (df_tup (da_cons (df_var 3) (da_cons (df_var 4) (da_cons (df_de (de_tuple rfl T.z_tuple (dal_cons (dl_dp (dp_var 5)) dal_nil))) da_nil)))) (da_cons (df_var 1) da_nil)))))))))))))
theorem ok_read_tree (T : Txt K mg f fd cl) (G : Fns P w K mg base f fd n) : FnOk P w K mg base (L2.CX P w) (n + 1) (f 8) (fd 8) ["text"] (spM ⟨K, w⟩ mg 1 (mir (n + 1) 8)) :=
  mk_fn (l := 3) (fb := b_read_tree (mir n)) T.F_read_tree sc_read_tree rfl (fun _ => rfl) fun cdv A outer s H E hr =>
    (dss_cons (ds_set 1 sc_read_tree.nd (de_df (df_de (de_call G.g_words (takes_of rfl rfl rfl rfl) hr rfl T.M_words T.F_words.kp T.B_words (da_cons (df_var 0) da_nil) (aCons_len (fun _ _ h => aNil_len h))))))
    (dss_cons (ds_asg (ix := [2, 3]) (df_de (de_call G.g_tree_at (takes_of rfl rfl rfl rfl) hr rfl T.M_tree_at T.F_tree_at.kp T.B_tree_at (da_cons (df_var 1) (da_cons df_int (da_cons df_int da_nil))) (aCons_len (aCons_len (aCons_len (fun _ _ h => aNil_len h)))))) (dg_tup (n := 2) rfl (dgs_cons (dg_name 2 sc_read_tree.nd) (dgs_cons (dg_name 3 sc_read_tree.nd) dgs_nil))))
    (dss_cons (ds_if (dt_dw (dw_or (dt_ne (room_eq hr) (dv_df (df_var 3)) (dv_de (de_len rfl T.z_len (dal_cons (dl_df (df_var 1)) dal_nil)))) (dw_or1 (dt_gt (dv_de (de_call G.g_size (takes_of rfl rfl rfl rfl) hr rfl T.M_size T.F_size.kp T.B_size (da_cons (df_var 2) da_nil) (aCons_len (fun _ _ h => aNil_len h)))) (dv_df df_int)))))
    (dss_one (ds_raise rfl (takes_of rfl rfl rfl rfl) T.cx_NoText rfl))
    dss_nil)
    (dss_one (ds_ret (de_df (df_var 2)))))))
theorem ok_term_size (T : Txt K mg f fd cl) (G : Fns P w K mg base f fd n) : FnOk P w K mg base (L2.CX P w) (n + 1) (f 9) (fd 9) ["term"] (spM ⟨K, w⟩ mg 1 (mir (n + 1) 9)) :=
  mk_fn (l := 1) (fb := b_term_size (mir n)) T.F_term_size sc_term_size rfl (fun _ => rfl) fun cdv A outer s H E hr =>
    (dss_cons (ds_if (dt_eq (room_eq hr) (dv_df (df_ix (dl_df (df_var 0)) (dv_df df_int))) (dv_df df_str))
    (dss_one (ds_ret (de_df df_int)))
    dss_nil)
    (dss_one (ds_ret (de_add (dl_df df_int) (dl_de (de_sum rfl rfl T.z_sum (dal_cons (dl_de (de_lc (own := [("part", 1)]) (ix := [1]) rfl sc_term_size.nd (di_seq (df_ix (dl_df (df_var 0)) (dv_df df_int))) (blkOk_by (N := N_term_size) (sc := defScope s_term_size) (by decide +kernel)) (fun _ _ _ _ _ => (dg_name 1 sc_term_size.nd)) (fun _ _ _ _ _ => dts_nil) (fun _ _ _ _ _ => (de_call G.g_term_size takes0 hr rfl T.M_term_size T.F_term_size.kp T.B_term_size (da_cons (df_var 1) da_nil) (aCons_len (fun _ _ h => aNil_len h)))))) dal_nil)))))))
theorem ok_calls_of (T : Txt K mg f fd cl) (G : Fns P w K mg base f fd n) : FnOk P w K mg base (L2.CX P w) (n + 1) (f 10) (fd 10) ["term"] (spM ⟨K, w⟩ mg 1 (mir (n + 1) 10)) :=
  mk_fn (l := 2) (fb := b_calls_of (mir n)) T.F_calls_of sc_calls_of rfl (fun _ => rfl) fun cdv A outer s H E hr =>
    (dss_cons (ds_if (dt_eq (room_eq hr) (dv_df (df_ix (dl_df (df_var 0)) (dv_df df_int))) (dv_df df_str))
    (dss_one (ds_ret (de_lst (da_cons (df_tup (da_cons (df_ix (dl_df (df_var 0)) (dv_df df_int)) (da_cons (df_ix (dl_df (df_var 0)) (dv_df df_int)) da_nil))) da_nil))))
    dss_nil)
    (dss_cons (ds_set 1 sc_calls_of.nd (de_lst da_nil))
    (dss_cons (ds_for (ix := [2]) (passes_of rfl) rfl (di_seq (df_ix (dl_df (df_var 0)) (dv_df df_int))) (dg_name 2 sc_calls_of.nd)
    (dss_one (ds_ext 1 (dl_de (de_call G.g_calls_of (takes_of rfl rfl rfl rfl) hr rfl T.M_calls_of T.F_calls_of.kp T.B_calls_of (da_cons (df_var 2) da_nil) (aCons_len (fun _ _ h => aNil_len h)))))))
    (dss_one (ds_retV 1)))))
theorem ok_keeps_mark (T : Txt K mg f fd cl) (G : Fns P w K mg base f fd n) : FnOk P w K mg base (L2.CX P w) (n + 1) (f 11) (fd 11) ["term"] (spM ⟨K, w⟩ mg 1 (mir (n + 1) 11)) :=
  mk_fn (l := 1) (fb := b_keeps_mark (mir n)) T.F_keeps_mark sc_keeps_mark rfl (fun _ => rfl) fun cdv A outer s H E hr =>
    (dss_cons (ds_if (dt_eq (room_eq hr) (dv_df (df_ix (dl_df (df_var 0)) (dv_df df_int))) (dv_df df_str))
    (dss_one (ds_ret (de_df df_bl)))
    dss_nil)
    (dss_one (ds_ret (de_df (df_or (dv_df (df_ix (dl_df (df_var 0)) (dv_df df_int))) (df_one (df_de (de_any rfl rfl T.z_any (dal_cons (dl_de (de_lc (own := [("part", 1)]) (ix := [1]) rfl sc_keeps_mark.nd (di_seq (df_ix (dl_df (df_var 0)) (dv_df df_int))) (blkOk_by (N := N_keeps_mark) (sc := defScope s_keeps_mark) (by decide +kernel)) (fun _ _ _ _ _ => (dg_name 1 sc_keeps_mark.nd)) (fun _ _ _ _ _ => dts_nil) (fun _ _ _ _ _ => (de_call G.g_keeps_mark takes0 hr rfl T.M_keeps_mark T.F_keeps_mark.kp T.B_keeps_mark (da_cons (df_var 1) da_nil) (aCons_len (fun _ _ h => aNil_len h)))))) dal_nil)))))))))
theorem ok_rows_of (T : Txt K mg f fd cl) (G : Fns P w K mg base f fd n) : FnOk P w K mg base (L2.CX P w) (n + 1) (f 12) (fd 12) ["wood", "kind"] (spM ⟨K, w⟩ mg 2 (mir (n + 1) 12)) :=
  mk_fn (l := 2) (fb := b_rows_of (mir n)) T.F_rows_of sc_rows_of rfl (fun _ => rfl) fun cdv A outer s H E hr =>
    (dss_cons (ds_for (ix := [2, 3]) (passes_of rfl) rfl (di_seq (df_var 0)) (dg_tup (n := 2) rfl (dgs_cons (dg_name 2 sc_rows_of.nd) (dgs_cons (dg_name 3 sc_rows_of.nd) dgs_nil)))
    (dss_one (ds_if (dt_eq (room_eq hr) (dv_df (df_var 2)) (dv_df (df_var 1)))
    (dss_one (ds_ret (de_df (df_var 3))))
    dss_nil)))
    (dss_one (ds_ret (de_lst da_nil))))
theorem ok_wood_again (T : Txt K mg f fd cl) (G : Fns P w K mg base f fd n) : FnOk P w K mg base (L2.CX P w) (n + 1) (f 13) (fd 13) ["wood"] (spM ⟨K, w⟩ mg 1 (mir (n + 1) 13)) :=
  mk_fn (l := 2) (fb := b_wood_again (mir n)) T.F_wood_again sc_wood_again rfl (fun _ => rfl) fun cdv A outer s H E hr =>
    (dss_one (ds_ret (de_lc (own := [("kind", 1), ("rows", 2)]) (ix := [1, 2]) rfl sc_wood_again.nd (di_seq (df_var 0)) (blkOk_by (N := N_wood_again) (sc := defScope s_wood_again) (by decide +kernel)) (fun _ _ _ _ _ => (dg_tup (n := 2) rfl (dgs_cons (dg_name 1 sc_wood_again.nd) (dgs_cons (dg_name 2 sc_wood_again.nd) dgs_nil)))) (fun _ _ _ _ _ => dts_nil) (fun _ _ _ _ _ => (de_df (df_tup (da_cons (df_var 1) (da_cons (df_de (de_list rfl T.z_list (dal_cons (dl_df (df_var 2)) dal_nil))) da_nil))))))))
theorem ok_row_by (T : Txt K mg f fd cl) (G : Fns P w K mg base f fd n) : FnOk P w K mg base (L2.CX P w) (n + 1) (f 14) (fd 14) ["part"] (spM ⟨K, w⟩ mg 1 (mir (n + 1) 14)) :=
  mk_fn (l := 2) (fb := b_row_by (mir n)) T.F_row_by sc_row_by rfl (fun _ => rfl) fun cdv A outer s H E hr =>
    (dss_cons (ds_if (dt_dw (dw_or (dt_eq (room_eq hr) (dv_df (df_var 0)) (dv_de (de_lst da_nil))) (dw_or1 (dt_not (dt_val (dv_de (de_call G.g_is_name (takes_of rfl rfl rfl rfl) hr rfl T.M_is_name T.F_is_name.kp T.B_is_name (da_cons (df_ix (dl_df (df_var 0)) (dv_df df_int)) da_nil) (aCons_len (fun _ _ h => aNil_len h)))))))))
    (dss_one (ds_raise rfl (takes_of rfl rfl rfl rfl) T.cx_NoText rfl))
    dss_nil)
    (dss_cons (ds_if (dt_eq (room_eq hr) (dv_de (de_len rfl T.z_len (dal_cons (dl_df (df_var 0)) dal_nil))) (dv_df df_int))
    (dss_one (ds_ret (de_df (df_tup (da_cons (df_ix (dl_df (df_var 0)) (dv_df df_int)) (da_cons (df_tup da_nil) da_nil))))))
    dss_nil)
    (dss_cons (ds_set 1 sc_row_by.nd (de_df (df_de (de_slice (dl_df (df_var 0)) (do_some (dv_df df_int)) (do_some (dv_df (df_neg (dv_df df_int))))))))
    (dss_cons (ds_if (dt_dw (dw_or (dt_ne (room_eq hr) (dv_df (df_ix (dl_df (df_var 0)) (dv_df df_int))) (dv_df df_str)) (dw_or (dt_ne (room_eq hr) (dv_df (df_ix (dl_df (df_var 0)) (dv_df (df_neg (dv_df df_int))))) (dv_df df_str)) (dw_or (dt_eq (room_eq hr) (dv_df (df_var 1)) (dv_de (de_lst da_nil))) (dw_or1 (dt_gt (dv_de (de_len rfl T.z_len (dal_cons (dl_df (df_var 1)) dal_nil))) (dv_df df_int)))))))
    (dss_one (ds_raise rfl (takes_of rfl rfl rfl rfl) T.cx_NoText rfl))
    dss_nil)
    (dss_cons (ds_for (ix := [2]) (passes_of rfl) rfl (di_seq (df_var 1)) (dg_name 2 sc_row_by.nd)
    (dss_one (ds_if (dt_not (dt_val (dv_de (de_call G.g_is_name (takes_of rfl rfl rfl rfl) hr rfl T.M_is_name T.F_is_name.kp T.B_is_name (da_cons (df_var 2) da_nil) (aCons_len (fun _ _ h => aNil_len h))))))
    (dss_one (ds_raise rfl (takes_of rfl rfl rfl rfl) T.cx_NoText rfl))
    dss_nil)))
    (dss_one (ds_ret (de_df (df_tup (da_cons (df_ix (dl_df (df_var 0)) (dv_df df_int)) (da_cons (df_de (de_tuple rfl T.z_tuple (dal_cons (dl_df (df_var 1)) dal_nil))) da_nil)))))))))))
theorem ok_kind_by (T : Txt K mg f fd cl) (G : Fns P w K mg base f fd n) : FnOk P w K mg base (L2.CX P w) (n + 1) (f 15) (fd 15) ["part"] (spM ⟨K, w⟩ mg 1 (mir (n + 1) 15)) :=
  mk_fn (l := 1) (fb := b_kind_by (mir n)) T.F_kind_by sc_kind_by rfl (fun _ => rfl) fun cdv A outer s H E hr =>
    (dss_cons (ds_if (dt_dw (dw_or (dt_lt (dv_de (de_len rfl T.z_len (dal_cons (dl_df (df_var 0)) dal_nil))) (dv_df df_int)) (dw_or (dt_not (dt_val (dv_de (de_call G.g_is_name (takes_of rfl rfl rfl rfl) hr rfl T.M_is_name T.F_is_name.kp T.B_is_name (da_cons (df_ix (dl_df (df_var 0)) (dv_df df_int)) da_nil) (aCons_len (fun _ _ h => aNil_len h)))))) (dw_or1 (dt_ne (room_eq hr) (dv_df (df_ix (dl_df (df_var 0)) (dv_df df_int))) (dv_df df_str))))))
    (dss_one (ds_raise rfl (takes_of rfl rfl rfl rfl) T.cx_NoText rfl))
    dss_nil)
    (dss_one (ds_ret (de_df (df_tup (da_cons (df_ix (dl_df (df_var 0)) (dv_df df_int)) (da_cons (df_de (de_lc (own := [("row", 1)]) (ix := [1]) rfl sc_kind_by.nd (di_seq (df_de (de_call G.g_parted (takes_of rfl rfl rfl rfl) hr rfl T.M_parted T.F_parted.kp T.B_parted (da_cons (df_de (de_slice (dl_df (df_var 0)) (do_some (dv_df df_int)) do_none)) (da_cons df_str da_nil)) (aCons_len (aCons_len (fun _ _ h => aNil_len h)))))) (blkOk_by (N := N_kind_by) (sc := defScope s_kind_by) (by decide +kernel)) (fun _ _ _ _ _ => (dg_name 1 sc_kind_by.nd)) (fun _ _ _ _ _ => dts_nil) (fun _ _ _ _ _ => (de_call G.g_row_by takes0 hr rfl T.M_row_by T.F_row_by.kp T.B_row_by (da_cons (df_var 1) da_nil) (aCons_len (fun _ _ h => aNil_len h)))))) da_nil)))))))
theorem ok_look_over (T : Txt K mg f fd cl) (G : Fns P w K mg base f fd n) : FnOk P w K mg base (L2.CX P w) (n + 1) (f 16) (fd 16) ["wood"] (spM ⟨K, w⟩ mg 1 (mir (n + 1) 16)) :=
  mk_fn (l := 7) (fb := b_look_over (mir n)) T.F_look_over sc_look_over rfl (fun _ => rfl) fun cdv A outer s H E hr =>
    (dss_cons (ds_setLcF 1 (own := [("kind", 2), ("rows", 3)]) (ix := [2, 3]) rfl sc_look_over.nd (di_seq (df_var 0)) (blkOk_by (N := N_look_over) (sc := defScope s_look_over) (by decide +kernel)) (fun _ _ _ _ _ => (dg_tup (n := 2) rfl (dgs_cons (dg_name 2 sc_look_over.nd) (dgs_cons (dg_name 3 sc_look_over.nd) dgs_nil)))) (fun _ _ _ _ _ => dts_nil) (fun _ _ _ _ _ => (de_df (df_var 2))))
    (dss_cons (ds_if (dt_lt (dv_df (df_lenSet rfl T.z_len rfl T.z_set (dl_df (df_var 1)))) (dv_de (de_len rfl T.z_len (dal_cons (dl_df (df_var 1)) dal_nil))))
    (dss_one (ds_raise rfl (takes_of rfl rfl rfl rfl) T.cx_NoWood rfl))
    dss_nil)
    (dss_one (ds_for (ix := [2, 3]) (passes_of rfl) rfl (di_seq (df_var 0)) (dg_tup (n := 2) rfl (dgs_cons (dg_name 2 sc_look_over.nd) (dgs_cons (dg_name 3 sc_look_over.nd) dgs_nil)))
    (dss_cons (ds_setLcF 4 (own := [("name", 5), ("branches", 6)]) (ix := [5, 6]) rfl sc_look_over.nd (di_seq (df_var 3)) (blkOk_by (N := N_look_over) (sc := defScope s_look_over) (by decide +kernel)) (fun _ _ _ _ _ => (dg_tup (n := 2) rfl (dgs_cons (dg_name 5 sc_look_over.nd) (dgs_cons (dg_name 6 sc_look_over.nd) dgs_nil)))) (fun _ _ _ _ _ => dts_nil) (fun _ _ _ _ _ => (de_df (df_var 5))))
    (dss_cons (ds_if (dt_lt (dv_df (df_lenSet rfl T.z_len rfl T.z_set (dl_df (df_var 4)))) (dv_de (de_len rfl T.z_len (dal_cons (dl_df (df_var 4)) dal_nil))))
    (dss_one (ds_raise rfl (takes_of rfl rfl rfl rfl) T.cx_NoWood rfl))
    dss_nil)
    (dss_cons (ds_if (dt_notIn (room_eq hr) (dv_df (df_tup da_nil)) (dv_de (de_lc (own := [("name", 5), ("branches", 6)]) (ix := [5, 6]) rfl sc_look_over.nd (di_seq (df_var 3)) (blkOk_by (N := N_look_over) (sc := defScope s_look_over) (by decide +kernel)) (fun _ _ _ _ _ => (dg_tup (n := 2) rfl (dgs_cons (dg_name 5 sc_look_over.nd) (dgs_cons (dg_name 6 sc_look_over.nd) dgs_nil)))) (fun _ _ _ _ _ => dts_nil) (fun _ _ _ _ _ => (de_df (df_var 6))))))
    (dss_one (ds_raise rfl (takes_of rfl rfl rfl rfl) T.cx_NoWood rfl))
    dss_nil)
    (dss_one (ds_for (ix := [5, 6]) (passes_of rfl) rfl (di_seq (df_var 3)) (dg_tup (n := 2) rfl (dgs_cons (dg_name 5 sc_look_over.nd) (dgs_cons (dg_name 6 sc_look_over.nd) dgs_nil)))
    (dss_one (ds_for (ix := [7]) (passes_of rfl) rfl (di_seq (df_var 6)) (dg_name 7 sc_look_over.nd)
    (dss_one (ds_if (dt_notIn (room_eq hr) (dv_df (df_var 7)) (dv_df (df_var 1)))
    (dss_one (ds_raise rfl (takes_of rfl rfl rfl rfl) T.cx_NoWood rfl))
    dss_nil)))))))))))))
theorem ok_read_wood (T : Txt K mg f fd cl) (G : Fns P w K mg base f fd n) : FnOk P w K mg base (L2.CX P w) (n + 1) (f 17) (fd 17) ["text"] (spM ⟨K, w⟩ mg 1 (mir (n + 1) 17)) :=
  mk_fn (l := 4) (fb := b_read_wood (mir n)) T.F_read_wood sc_read_wood rfl (fun _ => rfl) fun cdv A outer s H E hr =>
    (dss_cons (ds_setLcF 1 (own := [("part", 2)]) (ix := [2]) rfl sc_read_wood.nd (di_seq (df_de (de_call G.g_parted (takes_of rfl rfl rfl rfl) hr rfl T.M_parted T.F_parted.kp T.B_parted (da_cons (df_de (de_call G.g_words (takes_of rfl rfl rfl rfl) hr rfl T.M_words T.F_words.kp T.B_words (da_cons (df_var 0) da_nil) (aCons_len (fun _ _ h => aNil_len h)))) (da_cons df_str da_nil)) (aCons_len (aCons_len (fun _ _ h => aNil_len h)))))) (blkOk_by (N := N_read_wood) (sc := defScope s_read_wood) (by decide +kernel)) (fun _ _ _ _ _ => (dg_name 2 sc_read_wood.nd)) (fun _ _ _ _ _ => dts_nil) (fun _ _ _ _ _ => (de_call G.g_kind_by takes0 hr rfl T.M_kind_by T.F_kind_by.kp T.B_kind_by (da_cons (df_var 2) da_nil) (aCons_len (fun _ _ h => aNil_len h)))))
    (dss_cons (ds_if (dt_dw (dw_or (dt_gt (dv_de (de_len rfl T.z_len (dal_cons (dl_df (df_var 1)) dal_nil))) (dv_df df_int)) (dw_or1 (dt_gt (dv_de (de_sum rfl rfl T.z_sum (dal_cons (dl_de (de_lc (own := [("kind", 3), ("rows", 4)]) (ix := [3, 4]) rfl sc_read_wood.nd (di_seq (df_var 1)) (blkOk_by (N := N_read_wood) (sc := defScope s_read_wood) (by decide +kernel)) (fun _ _ _ _ _ => (dg_tup (n := 2) rfl (dgs_cons (dg_name 3 sc_read_wood.nd) (dgs_cons (dg_name 4 sc_read_wood.nd) dgs_nil)))) (fun _ _ _ _ _ => dts_nil) (fun _ _ _ _ _ => (de_len rfl T.z_len (dal_cons (dl_df (df_var 4)) dal_nil))))) dal_nil))) (dv_df df_int)))))
    (dss_one (ds_raise rfl (takes_of rfl rfl rfl rfl) T.cx_NoText rfl))
    dss_nil)
    (dss_cons (ds_expr (df_de (de_call G.g_look_over (takes_of rfl rfl rfl rfl) hr rfl T.M_look_over T.F_look_over.kp T.B_look_over (da_cons (df_var 1) da_nil) (aCons_len (fun _ _ h => aNil_len h)))))
    (dss_one (ds_ret (de_lc (own := [("kind", 3), ("rows", 4)]) (ix := [3, 4]) rfl sc_read_wood.nd (di_seq (df_var 1)) (blkOk_by (N := N_read_wood) (sc := defScope s_read_wood) (by decide +kernel)) (fun _ _ _ _ _ => (dg_tup (n := 2) rfl (dgs_cons (dg_name 3 sc_read_wood.nd) (dgs_cons (dg_name 4 sc_read_wood.nd) dgs_nil)))) (fun _ _ _ _ _ => dts_nil) (fun _ _ _ _ _ => (de_df (df_tup (da_cons (df_var 3) (da_cons (df_de (de_sorted (room_eq hr) rfl T.z_sorted (dal_cons (dl_df (df_var 4)) dal_nil))) da_nil)))))))))))
theorem ok_calls_fit (T : Txt K mg f fd cl) (G : Fns P w K mg base f fd n) : FnOk P w K mg base (L2.CX P w) (n + 1) (f 18) (fd 18) ["term", "branches", "modes"] (spM ⟨K, w⟩ mg 3 (mir (n + 1) 18)) :=
  mk_fn (l := 2) (fb := b_calls_fit (mir n)) T.F_calls_fit sc_calls_fit rfl (fun _ => rfl) fun cdv A outer s H E hr =>
    (dss_cons (ds_for (ix := [3, 4]) (passes_of rfl) rfl (di_seq (df_de (de_call G.g_calls_of (takes_of rfl rfl rfl rfl) hr rfl T.M_calls_of T.F_calls_of.kp T.B_calls_of (da_cons (df_var 0) da_nil) (aCons_len (fun _ _ h => aNil_len h))))) (dg_tup (n := 2) rfl (dgs_cons (dg_name 3 sc_calls_fit.nd) (dgs_cons (dg_name 4 sc_calls_fit.nd) dgs_nil)))
    (dss_cons (ds_if (dt_dw (dw_or (dt_lt (dv_df (df_var 3)) (dv_df df_int)) (dw_or (dt_ge (dv_df (df_var 3)) (dv_de (de_len rfl T.z_len (dal_cons (dl_df (df_var 2)) dal_nil)))) (dw_or (dt_lt (dv_df (df_var 4)) (dv_df df_int)) (dw_or1 (dt_ge (dv_df (df_var 4)) (dv_de (de_len rfl T.z_len (dal_cons (dl_df (df_var 1)) dal_nil)))))))))
    (dss_one (ds_ret (de_df df_bl)))
    dss_nil)
    (dss_one (ds_if (dt_ne (room_eq hr) (dv_df (df_ix (dl_df (df_ix (dl_df (df_var 2)) (dv_df (df_var 3)))) (dv_df df_int))) (dv_df (df_ix (dl_df (df_var 1)) (dv_df (df_var 4)))))
    (dss_one (ds_ret (de_df df_bl)))
    dss_nil))))
    (dss_one (ds_ret (de_df df_bl))))
theorem ok_is_sound (T : Txt K mg f fd cl) (G : Fns P w K mg base f fd n) : FnOk P w K mg base (L2.CX P w) (n + 1) (f 19) (fd 19) ["wood", "start", "modes"] (spM ⟨K, w⟩ mg 3 (mir (n + 1) 19)) :=
  mk_fn (l := 6) (fb := b_is_sound (mir n)) T.F_is_sound sc_is_sound rfl (fun _ => rfl) fun cdv A outer s H E hr =>
    (dss_cons (ds_if (dt_dw (dw_or (dt_val (dv_de (de_call G.g_keeps_mark (takes_of rfl rfl rfl rfl) hr rfl T.M_keeps_mark T.F_keeps_mark.kp T.B_keeps_mark (da_cons (df_var 1) da_nil) (aCons_len (fun _ _ h => aNil_len h))))) (dw_or1 (dt_not (dt_val (dv_de (de_call G.g_calls_fit (takes_of rfl rfl rfl rfl) hr rfl T.M_calls_fit T.F_calls_fit.kp T.B_calls_fit (da_cons (df_var 1) (da_cons (df_tup (da_cons (df_ix (dl_df (df_ix (dl_df (df_var 0)) (dv_df df_int))) (dv_df df_int)) da_nil)) (da_cons (df_var 2) da_nil))) (aCons_len (aCons_len (aCons_len (fun _ _ h => aNil_len h)))))))))))
    (dss_one (ds_ret (de_df df_bl)))
    dss_nil)
    (dss_cons (ds_setLcF 3 (own := [("kind", 4), ("rows", 5)]) (ix := [4, 5]) rfl sc_is_sound.nd (di_seq (df_var 0)) (blkOk_by (N := N_is_sound) (sc := defScope s_is_sound) (by decide +kernel)) (fun _ _ _ _ _ => (dg_tup (n := 2) rfl (dgs_cons (dg_name 4 sc_is_sound.nd) (dgs_cons (dg_name 5 sc_is_sound.nd) dgs_nil)))) (fun _ _ _ _ _ => dts_nil) (fun _ _ _ _ _ => (de_df (df_var 4))))
    (dss_cons (ds_for (ix := [4, 6]) (passes_of rfl) rfl (di_seq (df_var 2)) (dg_tup (n := 2) rfl (dgs_cons (dg_name 4 sc_is_sound.nd) (dgs_cons (dg_name 6 sc_is_sound.nd) dgs_nil)))
    (dss_cons (ds_set 5 sc_is_sound.nd (de_df (df_de (de_call G.g_rows_of (takes_of rfl rfl rfl rfl) hr rfl T.M_rows_of T.F_rows_of.kp T.B_rows_of (da_cons (df_var 0) (da_cons (df_var 4) da_nil)) (aCons_len (aCons_len (fun _ _ h => aNil_len h)))))))
    (dss_cons (ds_if (dt_dw (dw_or (dt_notIn (room_eq hr) (dv_df (df_var 4)) (dv_df (df_var 3))) (dw_or1 (dt_ne (room_eq hr) (dv_de (de_len rfl T.z_len (dal_cons (dl_df (df_var 6)) dal_nil))) (dv_de (de_len rfl T.z_len (dal_cons (dl_df (df_var 5)) dal_nil)))))))
    (dss_one (ds_ret (de_df df_bl)))
    dss_nil)
    (dss_one (ds_for (ix := [7, 8]) (passes_of rfl) rfl (di_zip rfl T.z_zip (da_cons (df_var 5) (da_cons (df_var 6) da_nil))) (dg_tup (n := 2) rfl (dgs_cons (dg_name 7 sc_is_sound.nd) (dgs_cons (dg_name 8 sc_is_sound.nd) dgs_nil)))
    (dss_one (ds_if (dt_not (dt_val (dv_de (de_call G.g_calls_fit (takes_of rfl rfl rfl rfl) hr rfl T.M_calls_fit T.F_calls_fit.kp T.B_calls_fit (da_cons (df_var 8) (da_cons (df_ix (dl_df (df_var 7)) (dv_df df_int)) (da_cons (df_var 2) da_nil))) (aCons_len (aCons_len (aCons_len (fun _ _ h => aNil_len h))))))))
    (dss_one (ds_ret (de_df df_bl)))
    dss_nil)))))))
    (dss_one (ds_ret (de_df df_bl))))))
theorem ok_mark_at (T : Txt K mg f fd cl) (G : Fns P w K mg base f fd n) : FnOk P w K mg base (L2.CX P w) (n + 1) (f 20) (fd 20) ["row", "here"] (spM ⟨K, w⟩ mg 2 (mir (n + 1) 20)) :=
  mk_fn (l := 1) (fb := b_mark_at (mir n)) T.F_mark_at sc_mark_at rfl (fun _ => rfl) fun cdv A outer s H E hr =>
    (dss_cons (ds_set 2 sc_mark_at.nd (de_df (df_and (dv_df (df_lt (dv_df (df_var 1)) (dv_de (de_len rfl T.z_len (dal_cons (dl_df (df_var 0)) dal_nil))))) (df_one (df_eq (room_eq hr) (dv_df (df_ix (dl_df (df_var 0)) (dv_df (df_var 1)))) (dv_df df_str))))))
    (dss_cons (ds_if (dt_val (dv_df (df_var 2)))
    (dss_one (ds_aug 1 iop_addA opS_addA sc_mark_at.nd (dv_df df_int)))
    dss_nil)
    (dss_cons (ds_if (dt_dw (dw_and (dt_lt (dv_df (df_var 1)) (dv_de (de_len rfl T.z_len (dal_cons (dl_df (df_var 0)) dal_nil)))) (dw_and1 (dt_val (dv_de (de_call G.g_is_number (takes_of rfl rfl rfl rfl) hr rfl T.M_is_number T.F_is_number.kp T.B_is_number (da_cons (df_ix (dl_df (df_var 0)) (dv_df (df_var 1))) da_nil) (aCons_len (fun _ _ h => aNil_len h))))))))
    (dss_one (ds_ret (de_df (df_tup (da_cons (df_var 2) (da_cons (df_de (de_int rfl T.z_int (dal_cons (dl_df (df_ix (dl_df (df_var 0)) (dv_df (df_var 1)))) dal_nil))) (da_cons (df_de (de_add (dl_df (df_var 1)) (dl_df df_int))) da_nil)))))))
    dss_nil)
    (dss_one (ds_ret (de_df (df_tup (da_cons (df_var 2) (da_cons df_int (da_cons (df_var 1) da_nil))))))))))
theorem ok_call_at (T : Txt K mg f fd cl) (G : Fns P w K mg base f fd n) : FnOk P w K mg base (L2.CX P w) (n + 1) (f 21) (fd 21) ["row", "here"] (spM ⟨K, w⟩ mg 2 (mir (n + 1) 21)) :=
  mk_fn (l := 0) (fb := b_call_at (mir n)) T.F_call_at sc_call_at rfl (fun _ => rfl) fun cdv A outer s H E hr =>
    (dss_cons (ds_if (dt_dw (dw_or (dt_ge (dv_de (de_add (dl_df (df_var 1)) (dl_df df_int))) (dv_de (de_len rfl T.z_len (dal_cons (dl_df (df_var 0)) dal_nil)))) (dw_or (dt_not (dt_val (dv_de (de_call G.g_is_name (takes_of rfl rfl rfl rfl) hr rfl T.M_is_name T.F_is_name.kp T.B_is_name (da_cons (df_ix (dl_df (df_var 0)) (dv_de (de_add (dl_df (df_var 1)) (dl_df df_int)))) da_nil) (aCons_len (fun _ _ h => aNil_len h)))))) (dw_or1 (dt_not (dt_val (dv_de (de_call G.g_is_number (takes_of rfl rfl rfl rfl) hr rfl T.M_is_number T.F_is_number.kp T.B_is_number (da_cons (df_ix (dl_df (df_var 0)) (dv_de (de_add (dl_df (df_var 1)) (dl_df df_int)))) da_nil) (aCons_len (fun _ _ h => aNil_len h))))))))))
    (dss_one (ds_raise rfl (takes_of rfl rfl rfl rfl) T.cx_NoText rfl))
    dss_nil)
    (dss_one (ds_ret (de_df (df_tup (da_cons (df_tup (da_cons df_str (da_cons (df_ix (dl_df (df_var 0)) (dv_de (de_add (dl_df (df_var 1)) (dl_df df_int)))) (da_cons (df_de (de_int rfl T.z_int (dal_cons (dl_df (df_ix (dl_df (df_var 0)) (dv_de (de_add (dl_df (df_var 1)) (dl_df df_int))))) dal_nil))) da_nil)))) (da_cons (df_de (de_add (dl_df (df_var 1)) (dl_df df_int))) da_nil)))))))
theorem ok_term_at (T : Txt K mg f fd cl) (G : Fns P w K mg base f fd n) : FnOk P w K mg base (L2.CX P w) (n + 1) (f 22) (fd 22) ["row", "here", "depth"] (spM ⟨K, w⟩ mg 3 (mir (n + 1) 22)) :=
  mk_fn (l := 5) (fb := b_term_at (mir n)) T.F_term_at sc_term_at rfl (fun _ => rfl) fun cdv A outer s H E hr =>
    (dss_cons (ds_if (dt_dw (dw_and (dt_lt (dv_df (df_var 1)) (dv_de (de_len rfl T.z_len (dal_cons (dl_df (df_var 0)) dal_nil)))) (dw_and1 (dt_eq (room_eq hr) (dv_df (df_ix (dl_df (df_var 0)) (dv_df (df_var 1)))) (dv_df df_str)))))
    (dss_one (ds_ret (de_call G.g_call_at (takes_of rfl rfl rfl rfl) hr rfl T.M_call_at T.F_call_at.kp T.B_call_at (da_cons (df_var 0) (da_cons (df_var 1) da_nil)) (aCons_len (aCons_len (fun _ _ h => aNil_len h))))))
    dss_nil)
    (dss_cons (ds_if (dt_dw (dw_or (dt_ge (dv_df (df_var 1)) (dv_de (de_len rfl T.z_len (dal_cons (dl_df (df_var 0)) dal_nil)))) (dw_or1 (dt_not (dt_val (dv_de (de_call G.g_is_name (takes_of rfl rfl rfl rfl) hr rfl T.M_is_name T.F_is_name.kp T.B_is_name (da_cons (df_ix (dl_df (df_var 0)) (dv_df (df_var 1))) da_nil) (aCons_len (fun _ _ h => aNil_len h)))))))))
    (dss_one (ds_raise rfl (takes_of rfl rfl rfl rfl) T.cx_NoText rfl))
    dss_nil)
    (dss_cons (ds_set 3 sc_term_at.nd (de_df (df_ix (dl_df (df_var 0)) (dv_df (df_var 1)))))
    (dss_cons (ds_asg (ix := [4, 5, 1]) (df_de (de_call G.g_mark_at (takes_of rfl rfl rfl rfl) hr rfl T.M_mark_at T.F_mark_at.kp T.B_mark_at (da_cons (df_var 0) (da_cons (df_de (de_add (dl_df (df_var 1)) (dl_df df_int))) da_nil)) (aCons_len (aCons_len (fun _ _ h => aNil_len h))))) (dg_tup (n := 3) rfl (dgs_cons (dg_name 4 sc_term_at.nd) (dgs_cons (dg_name 5 sc_term_at.nd) (dgs_cons (dg_name 1 sc_term_at.nd) dgs_nil)))))
    (dss_cons (ds_set 6 sc_term_at.nd (de_lst da_nil))
    (dss_cons (ds_if (dt_dw (dw_and (dt_lt (dv_df (df_var 1)) (dv_de (de_len rfl T.z_len (dal_cons (dl_df (df_var 0)) dal_nil)))) (dw_and1 (dt_eq (room_eq hr) (dv_df (df_ix (dl_df (df_var 0)) (dv_df (df_var 1)))) (dv_df df_str)))))
    (dss_cons (ds_if (dt_eq (room_eq hr) (dv_df (df_var 2)) (dv_df df_int))
    (dss_one (ds_raise rfl (takes_of rfl rfl rfl rfl) T.cx_NoText rfl))
    dss_nil)
    (dss_cons (ds_aug 1 iop_addA opS_addA sc_term_at.nd (dv_df df_int))
    (dss_cons (ds_while 1000000 (passes_of rfl) (dt_dw (dw_or (dt_ge (dv_df (df_var 1)) (dv_de (de_len rfl T.z_len (dal_cons (dl_df (df_var 0)) dal_nil)))) (dw_or1 (dt_ne (room_eq hr) (dv_df (df_ix (dl_df (df_var 0)) (dv_df (df_var 1)))) (dv_df df_str)))))
    (dss_cons (ds_asg (ix := [7, 1]) (df_de (de_call G.g_term_at (takes_of rfl rfl rfl rfl) hr rfl T.M_term_at T.F_term_at.kp T.B_term_at (da_cons (df_var 0) (da_cons (df_var 1) (da_cons (df_de (de_add (dl_df (df_var 2)) (dl_df df_int))) da_nil))) (aCons_len (aCons_len (aCons_len (fun _ _ h => aNil_len h)))))) (dg_tup (n := 2) rfl (dgs_cons (dg_name 7 sc_term_at.nd) (dgs_cons (dg_name 1 sc_term_at.nd) dgs_nil))))
    (dss_one (ds_app 6 (de_df (df_var 7))))))
    (dss_cons (ds_if (dt_eq (room_eq hr) (dv_dp (dp_var 6)) (dv_de (de_lst da_nil)))
    (dss_one (ds_raise rfl (takes_of rfl rfl rfl rfl) T.cx_NoText rfl))
    dss_nil)
    (dss_one (ds_aug 1 iop_addA opS_addA sc_term_at.nd (dv_df df_int)))))))
    dss_nil)
    (dss_one (ds_ret (de_df (df_tup (da_cons (df_tup (da_cons df_str (da_cons (df_var 3) (da_cons (df_var 4) (da_cons (df_var 5) (da_cons (df_de (de_tuple rfl T.z_tuple (dal_cons (dl_dp (dp_var 6)) dal_nil))) da_nil)))))) (da_cons (df_var 1) da_nil))))))))))))
theorem ok_term_by (T : Txt K mg f fd cl) (G : Fns P w K mg base f fd n) : FnOk P w K mg base (L2.CX P w) (n + 1) (f 23) (fd 23) ["row"] (spM ⟨K, w⟩ mg 1 (mir (n + 1) 23)) :=
  mk_fn (l := 2) (fb := b_term_by (mir n)) T.F_term_by sc_term_by rfl (fun _ => rfl) fun cdv A outer s H E hr =>
    (dss_cons (ds_asg (ix := [1, 2]) (df_de (de_call G.g_term_at (takes_of rfl rfl rfl rfl) hr rfl T.M_term_at T.F_term_at.kp T.B_term_at (da_cons (df_var 0) (da_cons df_int (da_cons df_int da_nil))) (aCons_len (aCons_len (aCons_len (fun _ _ h => aNil_len h)))))) (dg_tup (n := 2) rfl (dgs_cons (dg_name 1 sc_term_by.nd) (dgs_cons (dg_name 2 sc_term_by.nd) dgs_nil))))
    (dss_cons (ds_if (dt_ne (room_eq hr) (dv_df (df_var 2)) (dv_de (de_len rfl T.z_len (dal_cons (dl_df (df_var 0)) dal_nil))))
    (dss_one (ds_raise rfl (takes_of rfl rfl rfl rfl) T.cx_NoText rfl))
    dss_nil)
    (dss_one (ds_ret (de_df (df_var 1))))))
theorem ok_rule_by (T : Txt K mg f fd cl) (G : Fns P w K mg base f fd n) : FnOk P w K mg base (L2.CX P w) (n + 1) (f 24) (fd 24) ["part"] (spM ⟨K, w⟩ mg 1 (mir (n + 1) 24)) :=
  mk_fn (l := 1) (fb := b_rule_by (mir n)) T.F_rule_by sc_rule_by rfl (fun _ => rfl) fun cdv A outer s H E hr =>
    (dss_cons (ds_if (dt_dw (dw_or (dt_lt (dv_de (de_len rfl T.z_len (dal_cons (dl_df (df_var 0)) dal_nil))) (dv_df df_int)) (dw_or1 (dt_ne (room_eq hr) (dv_df (df_ix (dl_df (df_var 0)) (dv_df df_int))) (dv_df df_str)))))
    (dss_one (ds_raise rfl (takes_of rfl rfl rfl rfl) T.cx_NoText rfl))
    dss_nil)
    (dss_cons (ds_for (ix := [1]) (passes_of rfl) rfl (di_seq (df_de (de_slice (dl_df (df_var 0)) do_none (do_some (dv_df df_int))))) (dg_name 1 sc_rule_by.nd)
    (dss_one (ds_if (dt_not (dt_val (dv_de (de_call G.g_is_name (takes_of rfl rfl rfl rfl) hr rfl T.M_is_name T.F_is_name.kp T.B_is_name (da_cons (df_var 1) da_nil) (aCons_len (fun _ _ h => aNil_len h))))))
    (dss_one (ds_raise rfl (takes_of rfl rfl rfl rfl) T.cx_NoText rfl))
    dss_nil)))
    (dss_one (ds_ret (de_df (df_tup (da_cons (df_ix (dl_df (df_var 0)) (dv_df df_int)) (da_cons (df_ix (dl_df (df_var 0)) (dv_df df_int)) (da_cons (df_ix (dl_df (df_var 0)) (dv_df df_int)) (da_cons (df_de (de_call G.g_term_by (takes_of rfl rfl rfl rfl) hr rfl T.M_term_by T.F_term_by.kp T.B_term_by (da_cons (df_de (de_slice (dl_df (df_var 0)) (do_some (dv_df df_int)) do_none)) da_nil) (aCons_len (fun _ _ h => aNil_len h)))) da_nil))))))))))
theorem ok_numbered (T : Txt K mg f fd cl) (G : Fns P w K mg base f fd n) : FnOk P w K mg base (L2.CX P w) (n + 1) (f 25) (fd 25) ["term", "names"] (spM ⟨K, w⟩ mg 2 (mir (n + 1) 25)) :=
  mk_fn (l := 1) (fb := b_numbered (mir n)) T.F_numbered sc_numbered rfl (fun _ => rfl) fun cdv A outer s H E hr =>
    (dss_cons (ds_if (dt_eq (room_eq hr) (dv_df (df_ix (dl_df (df_var 0)) (dv_df df_int))) (dv_df df_str))
    (dss_cons (ds_if (dt_notIn (room_eq hr) (dv_df (df_ix (dl_df (df_var 0)) (dv_df df_int))) (dv_df (df_var 1)))
    (dss_one (ds_raise rfl (takes_of rfl rfl rfl rfl) T.cx_NoTurning rfl))
    dss_nil)
    (dss_one (ds_ret (de_df (df_tup (da_cons df_str (da_cons (df_lsIndex (dl_df (df_var 1)) (dv_df (df_ix (dl_df (df_var 0)) (dv_df df_int)))) (da_cons (df_ix (dl_df (df_var 0)) (dv_df df_int)) da_nil))))))))
    dss_nil)
    (dss_one (ds_ret (de_df (df_tup (da_cons df_str (da_cons (df_ix (dl_df (df_var 0)) (dv_df df_int)) (da_cons (df_ix (dl_df (df_var 0)) (dv_df df_int)) (da_cons (df_ix (dl_df (df_var 0)) (dv_df df_int)) (da_cons (df_de (de_tuple rfl T.z_tuple (dal_cons (dl_de (de_lc (own := [("part", 2)]) (ix := [2]) rfl sc_numbered.nd (di_seq (df_ix (dl_df (df_var 0)) (dv_df df_int))) (blkOk_by (N := N_numbered) (sc := defScope s_numbered) (by decide +kernel)) (fun _ _ _ _ _ => (dg_name 2 sc_numbered.nd)) (fun _ _ _ _ _ => dts_nil) (fun _ _ _ _ _ => (de_call G.g_numbered takes0 hr rfl T.M_numbered T.F_numbered.kp T.B_numbered (da_cons (df_var 2) (da_cons (df_var 1) da_nil)) (aCons_len (aCons_len (fun _ _ h => aNil_len h))))))) dal_nil))) da_nil))))))))))
theorem ok_table_by (T : Txt K mg f fd cl) (G : Fns P w K mg base f fd n) : FnOk P w K mg base (L2.CX P w) (n + 1) (f 26) (fd 26) ["wood", "rules"] (spM ⟨K, w⟩ mg 2 (mir (n + 1) 26)) :=
  mk_fn (l := 7) (fb := b_table_by (mir n)) T.F_table_by sc_table_by rfl (fun _ => rfl) fun cdv A outer s H E hr =>
    (dss_cons (ds_set 2 sc_table_by.nd de_dictNewK)
    (dss_cons (ds_for (ix := [3, 4, 5, 6]) (passes_of rfl) rfl (di_seq (df_var 1)) (dg_tup (n := 4) rfl (dgs_cons (dg_name 3 sc_table_by.nd) (dgs_cons (dg_name 4 sc_table_by.nd) (dgs_cons (dg_name 5 sc_table_by.nd) (dgs_cons (dg_name 6 sc_table_by.nd) dgs_nil)))))
    (dss_cons (ds_frz 7 (ds_if (dt_notIn (room_eq hr) (dv_df (df_var 5)) (dv_de (de_lc (own := [("told", 7), ("branches", 8)]) (ix := [7, 8]) rfl sc_table_by.nd (di_seq (df_de (de_call G.g_rows_of (takes_of rfl rfl rfl rfl) hr rfl T.M_rows_of T.F_rows_of.kp T.B_rows_of (da_cons (df_var 0) (da_cons (df_var 4) da_nil)) (aCons_len (aCons_len (fun _ _ h => aNil_len h)))))) (blkOk_by (N := N_table_by) (sc := defScope s_table_by) (by decide +kernel)) (fun _ _ _ _ _ => (dg_tup (n := 2) rfl (dgs_cons (dg_name 7 sc_table_by.nd) (dgs_cons (dg_name 8 sc_table_by.nd) dgs_nil)))) (fun _ _ _ _ _ => dts_nil) (fun _ _ _ _ _ => (de_df (df_var 7))))))
    (dss_one (ds_raise rfl (takes_of rfl rfl rfl rfl) T.cx_NoTurning rfl))
    dss_nil))
    (dss_borD 2 7 sc_table_by.nd (df_var 3) (de_tupO (dao_cons (de_df (df_var 4)) (dao_cons de_dictNew dao_nil)))
    (dss_cons (ds_if (dt_dw (dw_or (dt_ne (room_eq hr) (dv_df (df_pt (dpt_ix (dpt_var 7) (dv_df df_int)))) (dv_df (df_var 4))) (dw_or1 (dt_inPM (room_eq hr) (dv_df (df_var 5)) (dpt_ix (dpt_var 7) (dv_df df_int))))))
    (dss_one (ds_raise rfl (takes_of rfl rfl rfl rfl) T.cx_NoTurning rfl))
    dss_nil)
    (dss_one (ds_pputM (room_eq hr) (dpt_ix (dpt_var 7) (dv_df df_int)) (dv_df (df_var 5)) (df_var 6)))))))
    (dss_one (ds_retV 2))))
theorem ok_modes_by (T : Txt K mg f fd cl) (G : Fns P w K mg base f fd n) : FnOk P w K mg base (L2.CX P w) (n + 1) (f 27) (fd 27) ["wood", "table"] (spM ⟨K, w⟩ mg 2 (mir (n + 1) 27)) :=
  mk_fn (l := 7) (fb := b_modes_by (mir n)) T.F_modes_by sc_modes_by rfl (fun _ => rfl) fun cdv A outer s H E hr =>
    (dss_cons (ds_set 2 sc_modes_by.nd (de_df (df_de (de_listKD rfl rfl T.z_list (df_var 1)))))
    (dss_cons (ds_set 3 sc_modes_by.nd (de_lst da_nil))
    (dss_cons (ds_forVD (ix := [4, 5]) 1 (passes_of rfl) rfl (dg_tup (n := 2) rfl (dgs_cons (dg_name 4 sc_modes_by.nd) (dgs_cons (dg_name 5 sc_modes_by.nd) dgs_nil)))
    (dss_cons (ds_set 6 sc_modes_by.nd (de_lst da_nil))
    (dss_cons (ds_for (ix := [7, 8]) (passes_of rfl) rfl (di_seq (df_de (de_call G.g_rows_of takes0 hr rfl T.M_rows_of T.F_rows_of.kp T.B_rows_of (da_cons (df_var 0) (da_cons (df_var 4) da_nil)) (aCons_len (aCons_len (fun _ _ h => aNil_len h)))))) (dg_tup (n := 2) rfl (dgs_cons (dg_name 7 sc_modes_by.nd) (dgs_cons (dg_name 8 sc_modes_by.nd) dgs_nil)))
    (dss_cons (ds_if (dt_notInDD (room_eq hr) (dv_df (df_var 7)) (dv_df (df_var 5)))
    (dss_one (ds_raise rfl takes0 T.cx_NoTurning rfl))
    dss_nil)
    (dss_one (ds_app 6 (de_call G.g_numbered takes0 hr rfl T.M_numbered T.F_numbered.kp T.B_numbered (da_cons (df_getD (room_eq hr) (df_var 5) (dv_df (df_var 7))) (da_cons (df_var 2) da_nil)) (aCons_len (aCons_len (fun _ _ h => aNil_len h))))))))
    (dss_one (ds_frz 6 (ds_app 3 (de_df (df_tup (da_cons (df_var 4) (da_cons (df_var 6) da_nil))))))))))
    (dss_one (ds_retV 3)))))
theorem ok_read_turning (T : Txt K mg f fd cl) (G : Fns P w K mg base f fd n) : FnOk P w K mg base (L2.CX P w) (n + 1) (f 28) (fd 28) ["wood", "text"] (spM ⟨K, w⟩ mg 2 (mir (n + 1) 28)) :=
  mk_fn (l := 8) (fb := b_read_turning (mir n)) T.F_read_turning sc_read_turning rfl (fun _ => rfl) fun cdv A outer s H E hr =>
    (dss_cons (ds_set 2 sc_read_turning.nd (de_df (df_de (de_call G.g_parted (takes_of rfl rfl rfl rfl) hr rfl T.M_parted T.F_parted.kp T.B_parted (da_cons (df_de (de_call G.g_words (takes_of rfl rfl rfl rfl) hr rfl T.M_words T.F_words.kp T.B_words (da_cons (df_var 1) da_nil) (aCons_len (fun _ _ h => aNil_len h)))) (da_cons df_str da_nil)) (aCons_len (aCons_len (fun _ _ h => aNil_len h)))))))
    (dss_cons (ds_set 3 sc_read_turning.nd (de_df (df_de (de_call G.g_term_by (takes_of rfl rfl rfl rfl) hr rfl T.M_term_by T.F_term_by.kp T.B_term_by (da_cons (df_ix (dl_df (df_var 2)) (dv_df df_int)) da_nil) (aCons_len (fun _ _ h => aNil_len h))))))
    (dss_cons (ds_setLcF 4 (own := [("part", 5)]) (ix := [5]) rfl sc_read_turning.nd (di_seq (df_de (de_slice (dl_df (df_var 2)) (do_some (dv_df df_int)) do_none))) (blkOk_by (N := N_read_turning) (sc := defScope s_read_turning) (by decide +kernel)) (fun _ _ _ _ _ => (dg_name 5 sc_read_turning.nd)) (fun _ _ _ _ _ => dts_nil) (fun _ _ _ _ _ => (de_call G.g_rule_by takes0 hr rfl T.M_rule_by T.F_rule_by.kp T.B_rule_by (da_cons (df_var 5) da_nil) (aCons_len (fun _ _ h => aNil_len h)))))
    (dss_cons (ds_set 6 sc_read_turning.nd (de_df (df_de (de_add (dl_de (de_call G.g_term_size (takes_of rfl rfl rfl rfl) hr rfl T.M_term_size T.F_term_size.kp T.B_term_size (da_cons (df_var 3) da_nil) (aCons_len (fun _ _ h => aNil_len h)))) (dl_de (de_sum rfl rfl T.z_sum (dal_cons (dl_de (de_lc (own := [("rule", 7)]) (ix := [7]) rfl sc_read_turning.nd (di_seq (df_var 4)) (blkOk_by (N := N_read_turning) (sc := defScope s_read_turning) (by decide +kernel)) (fun _ _ _ _ _ => (dg_name 7 sc_read_turning.nd)) (fun _ _ _ _ _ => dts_nil) (fun _ _ _ _ _ => (de_call G.g_term_size takes0 hr rfl T.M_term_size T.F_term_size.kp T.B_term_size (da_cons (df_ix (dl_df (df_var 7)) (dv_df df_int)) da_nil) (aCons_len (fun _ _ h => aNil_len h)))))) dal_nil)))))))
    (dss_cons (ds_if (dt_dw (dw_or (dt_gt (dv_de (de_len rfl T.z_len (dal_cons (dl_df (df_var 4)) dal_nil))) (dv_df df_int)) (dw_or1 (dt_gt (dv_df (df_var 6)) (dv_df df_int)))))
    (dss_one (ds_raise rfl (takes_of rfl rfl rfl rfl) T.cx_NoText rfl))
    dss_nil)
    (dss_cons (ds_set 8 sc_read_turning.nd (de_df (df_de (de_call G.g_table_by (takes_of rfl rfl rfl rfl) hr rfl T.M_table_by T.F_table_by.kp T.B_table_by (da_cons (df_var 0) (da_cons (df_var 4) da_nil)) (aCons_len (aCons_len (fun _ _ h => aNil_len h)))))))
    (dss_cons (ds_set 9 sc_read_turning.nd (de_df (df_de (de_call G.g_modes_by (takes_of rfl rfl rfl rfl) hr rfl T.M_modes_by T.F_modes_by.kp T.B_modes_by (da_cons (df_var 0) (da_cons (df_var 8) da_nil)) (aCons_len (aCons_len (fun _ _ h => aNil_len h)))))))
    (dss_cons (ds_set 3 sc_read_turning.nd (de_df (df_de (de_call G.g_numbered (takes_of rfl rfl rfl rfl) hr rfl T.M_numbered T.F_numbered.kp T.B_numbered (da_cons (df_var 3) (da_cons (df_de (de_listKD rfl rfl T.z_list (df_var 8))) da_nil)) (aCons_len (aCons_len (fun _ _ h => aNil_len h)))))))
    (dss_cons (ds_if (dt_not (dt_val (dv_de (de_call G.g_is_sound (takes_of rfl rfl rfl rfl) hr rfl T.M_is_sound T.F_is_sound.kp T.B_is_sound (da_cons (df_var 0) (da_cons (df_var 3) (da_cons (df_var 9) da_nil))) (aCons_len (aCons_len (aCons_len (fun _ _ h => aNil_len h))))))))
    (dss_one (ds_raise rfl (takes_of rfl rfl rfl rfl) T.cx_NoTurning rfl))
    dss_nil)
    (dss_one (ds_ret (de_df (df_tup (da_cons (df_de (de_call G.g_wood_again (takes_of rfl rfl rfl rfl) hr rfl T.M_wood_again T.F_wood_again.kp T.B_wood_again (da_cons (df_var 0) da_nil) (aCons_len (fun _ _ h => aNil_len h)))) (da_cons (df_var 3) (da_cons (df_var 9) da_nil))))))))))))))))
theorem ok__law_cell_at (T : Txt K mg f fd cl) (G : Fns P w K mg base f fd n) : FnOk P w K mg base (L2.CX P w) (n + 1) (f 29) (fd 29) ["_law_script", "_law_k"] (spM ⟨K, w⟩ mg 2 (mir (n + 1) 29)) :=
  mk_fn (l := 0) (fb := b__law_cell_at (mir n)) T.F__law_cell_at sc__law_cell_at rfl (fun _ => rfl) fun cdv A outer s H E hr =>
    (dss_cons (ds_if (dt_lt (dv_df (df_var 1)) (dv_de (de_len rfl T.z_len (dal_cons (dl_df (df_var 0)) dal_nil))))
    (dss_one (ds_ret (de_df (df_ix (dl_df (df_var 0)) (dv_df (df_var 1))))))
    dss_nil)
    (dss_one (ds_ret (de_df df_int))))
theorem ok__law_word_by (T : Txt K mg f fd cl) (G : Fns P w K mg base f fd n) : FnOk P w K mg base (L2.CX P w) (n + 1) (f 30) (fd 30) ["_law_cell"] (spM ⟨K, w⟩ mg 1 (mir (n + 1) 30)) :=
  mk_fn (l := 1) (fb := b__law_word_by (mir n)) T.F__law_word_by sc__law_word_by rfl (fun _ => rfl) fun cdv A outer s H E hr =>
    (dss_cons (ds_set 1 sc__law_word_by.nd (de_df (df_mod (dv_df (df_var 0)) (dv_df (df_pow (dv_df df_int) (dv_df df_int))))))
    (dss_cons (ds_if (dt_eq (room_eq hr) (dv_df (df_mod (dv_df (df_var 1)) (dv_df df_int))) (dv_df df_int))
    (dss_one (ds_ret (de_df (df_ix (dl_df df_str) (dv_df (df_mod (dv_df (df_div (dv_df (df_var 1)) (dv_df df_int))) (dv_df df_int)))))))
    dss_nil)
    (dss_cons (ds_if (dt_eq (room_eq hr) (dv_df (df_mod (dv_df (df_var 1)) (dv_df df_int))) (dv_df df_int))
    (dss_one (ds_ret (de_str rfl T.z_str (dal_cons (dl_df (df_sub (dv_df (df_mod (dv_df (df_div (dv_df (df_var 1)) (dv_df df_int))) (dv_df (df_pow (dv_df df_int) (dv_df df_int))))) (dv_df (df_pow (dv_df df_int) (dv_df df_int))))) dal_nil))))
    dss_nil)
    (dss_one (ds_ret (de_df (df_ix (dl_df df_str) (dv_df (df_mod (dv_df (df_div (dv_df (df_var 1)) (dv_df df_int))) (dv_df df_int))))))))))
theorem ok__law_figures (T : Txt K mg f fd cl) (G : Fns P w K mg base f fd n) : FnOk P w K mg base (L2.CX P w) (n + 1) (f 31) (fd 31) ["_law_number", "_law_lots"] (spM ⟨K, w⟩ mg 2 (mir (n + 1) 31)) :=
  mk_fn (l := 2) (fb := b__law_figures (mir n)) T.F__law_figures sc__law_figures rfl (fun _ => rfl) fun cdv A outer s H E hr =>
    (dss_cons (ds_set 2 sc__law_figures.nd (de_df df_str))
    (dss_cons (ds_for (ix := [3]) (passes_of rfl) rfl (di_range1 rfl T.z_range (da_cons (df_var 1) da_nil)) (dg_name 3 sc__law_figures.nd)
    (dss_cons (ds_set 0 sc__law_figures.nd (de_df (df_de (de_add (dl_df (df_mod (dv_df (df_mul (dv_df (df_var 0)) (dv_df df_int))) (dv_df df_int))) (dl_df df_int)))))
    (dss_one (ds_set 2 sc__law_figures.nd (de_df (df_de (de_add (dl_df (df_var 2)) (dl_df (df_ix (dl_df df_str) (dv_df (df_mod (dv_df (df_var 0)) (dv_df df_int))))))))))))
    (dss_one (ds_ret (de_df (df_var 2))))))
theorem ok__law_letters (T : Txt K mg f fd cl) (G : Fns P w K mg base f fd n) : FnOk P w K mg base (L2.CX P w) (n + 1) (f 32) (fd 32) ["_law_number", "_law_lots"] (spM ⟨K, w⟩ mg 2 (mir (n + 1) 32)) :=
  mk_fn (l := 2) (fb := b__law_letters (mir n)) T.F__law_letters sc__law_letters rfl (fun _ => rfl) fun cdv A outer s H E hr =>
    (dss_cons (ds_set 2 sc__law_letters.nd (de_df df_str))
    (dss_cons (ds_for (ix := [3]) (passes_of rfl) rfl (di_range1 rfl T.z_range (da_cons (df_var 1) da_nil)) (dg_name 3 sc__law_letters.nd)
    (dss_cons (ds_set 0 sc__law_letters.nd (de_df (df_de (de_add (dl_df (df_mod (dv_df (df_mul (dv_df (df_var 0)) (dv_df df_int))) (dv_df df_int))) (dl_df df_int)))))
    (dss_one (ds_set 2 sc__law_letters.nd (de_df (df_de (de_add (dl_df (df_var 2)) (dl_df (df_ix (dl_df df_str) (dv_df (df_mod (dv_df (df_var 0)) (dv_df df_int))))))))))))
    (dss_one (ds_ret (de_df (df_var 2))))))
theorem ok__law_bad_by (T : Txt K mg f fd cl) (G : Fns P w K mg base f fd n) : FnOk P w K mg base (L2.CX P w) (n + 1) (f 33) (fd 33) ["_law_cell"] (spM ⟨K, w⟩ mg 1 (mir (n + 1) 33)) :=
  mk_fn (l := 4) (fb := b__law_bad_by (mir n)) T.F__law_bad_by sc__law_bad_by rfl (fun _ => rfl) fun cdv A outer s H E hr =>
    (dss_cons (ds_set 1 sc__law_bad_by.nd (de_df (df_mod (dv_df (df_div (dv_df (df_var 0)) (dv_df df_int))) (dv_df (df_pow (dv_df df_int) (dv_df df_int))))))
    (dss_cons (ds_set 2 sc__law_bad_by.nd (de_df (df_mod (dv_df (df_var 0)) (dv_df df_int))))
    (dss_cons (ds_set 3 sc__law_bad_by.nd (de_df (df_ix (dl_de (de_lst (da_cons df_str (da_cons df_str da_nil)))) (dv_df (df_mod (dv_df (df_var 1)) (dv_df df_int))))))
    (dss_cons (ds_if (dt_eq (room_eq hr) (dv_df (df_var 2)) (dv_df df_int))
    (dss_cons (ds_set 4 sc__law_bad_by.nd (de_df df_str))
    (dss_one (ds_ret (de_df (df_ix (dl_df (df_var 4)) (dv_df (df_mod (dv_df (df_var 1)) (dv_de (de_len rfl T.z_len (dal_cons (dl_df (df_var 4)) dal_nil))))))))))
    dss_nil)
    (dss_cons (ds_if (dt_eq (room_eq hr) (dv_df (df_var 2)) (dv_df df_int))
    (dss_one (ds_ret (de_add (dl_df df_str) (dl_df (df_ix (dl_de (de_lst (da_cons df_str (da_cons df_str (da_cons df_str (da_cons df_str (da_cons df_str (da_cons df_str da_nil)))))))) (dv_df (df_mod (dv_df (df_var 1)) (dv_df df_int))))))))
    dss_nil)
    (dss_cons (ds_if (dt_eq (room_eq hr) (dv_df (df_var 2)) (dv_df df_int))
    (dss_one (ds_ret (de_call G.g__law_letters (takes_of rfl rfl rfl rfl) hr rfl T.M__law_letters T.F__law_letters.kp T.B__law_letters (da_cons (df_var 1) (da_cons (df_de (de_add (dl_df df_int) (dl_df (df_mod (dv_df (df_div (dv_df (df_var 1)) (dv_df df_int))) (dv_df df_int))))) da_nil)) (aCons_len (aCons_len (fun _ _ h => aNil_len h))))))
    dss_nil)
    (dss_cons (ds_if (dt_eq (room_eq hr) (dv_df (df_var 2)) (dv_df df_int))
    (dss_one (ds_ret (de_add (dl_de (de_add (dl_df (df_var 3)) (dl_df df_str))) (dl_de (de_call G.g__law_figures (takes_of rfl rfl rfl rfl) hr rfl T.M__law_figures T.F__law_figures.kp T.B__law_figures (da_cons (df_var 1) (da_cons (df_de (de_add (dl_df df_int) (dl_df (df_mod (dv_df (df_div (dv_df (df_var 1)) (dv_df df_int))) (dv_df df_int))))) da_nil)) (aCons_len (aCons_len (fun _ _ h => aNil_len h))))))))
    dss_nil)
    (dss_cons (ds_if (dt_eq (room_eq hr) (dv_df (df_var 2)) (dv_df df_int))
    (dss_one (ds_ret (de_add (dl_de (de_add (dl_df (df_var 3)) (dl_df df_str))) (dl_de (de_call G.g__law_figures (takes_of rfl rfl rfl rfl) hr rfl T.M__law_figures T.F__law_figures.kp T.B__law_figures (da_cons (df_var 1) (da_cons (df_de (de_add (dl_df df_int) (dl_df (df_mod (dv_df (df_div (dv_df (df_var 1)) (dv_df df_int))) (dv_df df_int))))) da_nil)) (aCons_len (aCons_len (fun _ _ h => aNil_len h))))))))
    dss_nil)
    (dss_one (ds_ret (de_df df_str)))))))))))
theorem ok__law_refused (T : Txt K mg f fd cl) (G : Fns P w K mg base f fd n) : FnOk P w K mg base (L2.CX P w) (n + 1) (f 34) (fd 34) ["_law_ask", "_law_thing"] (spM ⟨K, w⟩ mg 2 (mir (n + 1) 34)) :=
  mk_fn (l := 2) (fb := b__law_refused (mir n)) T.F__law_refused sc__law_refused rfl (fun _ => rfl) fun cdv A outer s H E hr =>
    (dss_cons (ds_set 2 sc__law_refused.nd (de_df df_non))
    (dss_cons (ds_tryT (l := [("NoText", true), ("NoWood", true), ("NoTurning", true)]) 3 rfl rfl rfl sc__law_refused.nd rfl rfl rfl ⟨rfl, by decide, .inl T.cg_TurnError⟩ (.cons ⟨T.cn_NoText, T.cg_NoText⟩ T.cm_NoText_TurnError (.cons ⟨T.cn_NoWood, T.cg_NoWood⟩ T.cm_NoWood_TurnError (.cons ⟨T.cn_NoTurning, T.cg_NoTurning⟩ T.cm_NoTurning_TurnError .nil))) (takes_of rfl rfl rfl rfl) (fun W' pn xe tk po => (dss_one (ds_expr (df_de (de_callF 0 tk (fvs_cons ⟨_, _, _, _, T.N_words, G.g_words, hr, T.F_words.kp, T.B_words⟩ (fvs_cons ⟨_, _, _, _, T.N_read_tree, G.g_read_tree, hr, T.F_read_tree.kp, T.B_read_tree⟩ (fvs_cons ⟨_, _, _, _, T.N_read_wood, G.g_read_wood, hr, T.F_read_wood.kp, T.B_read_wood⟩ (fvs_cons ⟨_, _, _, _, T.N__law_read, G.g__law_read, hr, T.F__law_read.kp, T.B__law_read⟩ fvs_nil)))) (da_cons (df_var 1) da_nil) (aCons_len (fun _ _ h => aNil_len h))))))) (fun a pn => (dss_one (ds_set 2 sc__law_refused.nd (de_df (df_var 3))))))
    (dss_cons (ds_if (dt_dw (dw_or (dt_not (dt_val (dv_df (df_isE (l := [("NoText", true), ("NoWood", false), ("NoTurning", false)]) (dv_df (df_var 2)) rfl T.z_isinstance rfl T.cg_NoText (.cons T.cn_NoText T.cc_NoText (kitAny_of1 T.ci_NoText_NoText) (.cons T.cn_NoWood T.cc_NoWood (kitAny_of1 T.ci_NoWood_NoText) (.cons T.cn_NoTurning T.cc_NoTurning (kitAny_of1 T.ci_NoTurning_NoText) .nil))) T.kn_NoText)))) (dw_or1 (dt_not (dt_val (dv_df (df_isEB (l := [("NoText", true), ("NoWood", true), ("NoTurning", true)]) (dv_df (df_var 2)) rfl T.z_isinstance rfl T.z_ValueError rfl (.cons T.cn_NoText T.cc_NoText (kitAny_of1 T.ci_NoText_ValueError) (.cons T.cn_NoWood T.cc_NoWood (kitAny_of1 T.ci_NoWood_ValueError) (.cons T.cn_NoTurning T.cc_NoTurning (kitAny_of1 T.ci_NoTurning_ValueError) .nil))) T.kn_ValueError)))))))
    (dss_one (ds_ret (de_df df_bl)))
    dss_nil)
    (dss_cons (ds_if (dt_dw (dw_or (dt_val (dv_df (df_isE (l := [("NoText", false), ("NoWood", true), ("NoTurning", false)]) (dv_df (df_var 2)) rfl T.z_isinstance rfl T.cg_NoWood (.cons T.cn_NoText T.cc_NoText (kitAny_of1 T.ci_NoText_NoWood) (.cons T.cn_NoWood T.cc_NoWood (kitAny_of1 T.ci_NoWood_NoWood) (.cons T.cn_NoTurning T.cc_NoTurning (kitAny_of1 T.ci_NoTurning_NoWood) .nil))) T.kn_NoWood))) (dw_or (dt_val (dv_df (df_isE (l := [("NoText", false), ("NoWood", false), ("NoTurning", true)]) (dv_df (df_var 2)) rfl T.z_isinstance rfl T.cg_NoTurning (.cons T.cn_NoText T.cc_NoText (kitAny_of1 T.ci_NoText_NoTurning) (.cons T.cn_NoWood T.cc_NoWood (kitAny_of1 T.ci_NoWood_NoTurning) (.cons T.cn_NoTurning T.cc_NoTurning (kitAny_of1 T.ci_NoTurning_NoTurning) .nil))) T.kn_NoTurning))) (dw_or1 (dt_val (dv_df (df_isE (l := [("NoText", false), ("NoWood", false), ("NoTurning", false)]) (dv_df (df_var 2)) rfl T.z_isinstance rfl T.cg_NoTree (.cons T.cn_NoText T.cc_NoText (kitAny_of1 T.ci_NoText_NoTree) (.cons T.cn_NoWood T.cc_NoWood (kitAny_of1 T.ci_NoWood_NoTree) (.cons T.cn_NoTurning T.cc_NoTurning (kitAny_of1 T.ci_NoTurning_NoTree) .nil))) T.kn_NoTree)))))))
    (dss_one (ds_ret (de_df df_bl)))
    dss_nil)
    (dss_cons (ds_if (dt_dw (dw_or (dt_val (dv_df (df_isE (l := [("NoText", false), ("NoWood", false), ("NoTurning", false)]) (dv_df (df_var 2)) rfl T.z_isinstance rfl T.cg_TooGreat (.cons T.cn_NoText T.cc_NoText (kitAny_of1 T.ci_NoText_TooGreat) (.cons T.cn_NoWood T.cc_NoWood (kitAny_of1 T.ci_NoWood_TooGreat) (.cons T.cn_NoTurning T.cc_NoTurning (kitAny_of1 T.ci_NoTurning_TooGreat) .nil))) T.kn_TooGreat))) (dw_or (dt_val (dv_df (df_isE (l := [("NoText", false), ("NoWood", false), ("NoTurning", false)]) (dv_df (df_var 2)) rfl T.z_isinstance rfl T.cg_OtherWood (.cons T.cn_NoText T.cc_NoText (kitAny_of1 T.ci_NoText_OtherWood) (.cons T.cn_NoWood T.cc_NoWood (kitAny_of1 T.ci_NoWood_OtherWood) (.cons T.cn_NoTurning T.cc_NoTurning (kitAny_of1 T.ci_NoTurning_OtherWood) .nil))) T.kn_OtherWood))) (dw_or1 (dt_val (dv_df (df_isE (l := [("NoText", false), ("NoWood", false), ("NoTurning", false)]) (dv_df (df_var 2)) rfl T.z_isinstance rfl T.cg_Strays (.cons T.cn_NoText T.cc_NoText (kitAny_of1 T.ci_NoText_Strays) (.cons T.cn_NoWood T.cc_NoWood (kitAny_of1 T.ci_NoWood_Strays) (.cons T.cn_NoTurning T.cc_NoTurning (kitAny_of1 T.ci_NoTurning_Strays) .nil))) T.kn_Strays)))))))
    (dss_one (ds_ret (de_df df_bl)))
    dss_nil)
    (dss_one (ds_ret (de_df (df_and (dv_df (df_not (dv_df (df_isE (l := [("NoText", false), ("NoWood", false), ("NoTurning", false)]) (dv_df (df_var 2)) rfl T.z_isinstance rfl T.cg_NoRow (.cons T.cn_NoText T.cc_NoText (kitAny_of1 T.ci_NoText_NoRow) (.cons T.cn_NoWood T.cc_NoWood (kitAny_of1 T.ci_NoWood_NoRow) (.cons T.cn_NoTurning T.cc_NoTurning (kitAny_of1 T.ci_NoTurning_NoRow) .nil))) T.kn_NoRow)))) (df_one (df_not (dv_df (df_isE (l := [("NoText", false), ("NoWood", false), ("NoTurning", false)]) (dv_df (df_var 2)) rfl T.z_isinstance rfl T.cg_NoName (.cons T.cn_NoText T.cc_NoText (kitAny_of1 T.ci_NoText_NoName) (.cons T.cn_NoWood T.cc_NoWood (kitAny_of1 T.ci_NoWood_NoName) (.cons T.cn_NoTurning T.cc_NoTurning (kitAny_of1 T.ci_NoTurning_NoName) .nil))) T.kn_NoName)))))))))))))
theorem ok__law_read (T : Txt K mg f fd cl) (G : Fns P w K mg base f fd n) : FnOk P w K mg base (L2.CX P w) (n + 1) (f 35) (fd 35) ["_law_thing"] (spM ⟨K, w⟩ mg 1 (mir (n + 1) 35)) :=
  mk_fn (l := 0) (fb := b__law_read (mir n)) T.F__law_read sc__law_read rfl (fun _ => rfl) fun cdv A outer s H E hr =>
    (dss_one (ds_ret (de_call G.g_read_turning (takes_of rfl rfl rfl rfl) hr rfl T.M_read_turning T.F_read_turning.kp T.B_read_turning (da_cons (df_de (de_lst (da_cons (df_tup (da_cons df_str (da_cons (df_de (de_lst (da_cons (df_tup (da_cons df_str (da_cons (df_tup da_nil) da_nil))) da_nil))) da_nil))) da_nil))) (da_cons (df_var 0) da_nil)) (aCons_len (aCons_len (fun _ _ h => aNil_len h))))))
theorem ok_law (T : Txt K mg f fd cl) (G : Fns P w K mg base f fd n) : FnOk P w K mg base (L2.CX P w) (n + 1) (f 36) (fd 36) ["_law_script"] (spM ⟨K, w⟩ mg 1 (mir (n + 1) 36)) :=
  mk_fn (l := 5) (fb := b_law (mir n)) T.F_law sc_law rfl (fun _ => rfl) fun cdv A outer s H E hr =>
    (dss_cons (ds_setLcF 1 (own := [("_law_cell", 2)]) (ix := [2]) rfl sc_law.nd (di_seq (df_de (de_slice (dl_df (df_var 0)) (do_some (dv_df df_int)) (do_some (dv_df df_int))))) (blkOk_by (N := N_law) (sc := defScope s_law) (by decide +kernel)) (fun _ _ _ _ _ => (dg_name 2 sc_law.nd)) (fun _ _ _ _ _ => dts_nil) (fun _ _ _ _ _ => (de_call G.g__law_word_by takes0 hr rfl T.M__law_word_by T.F__law_word_by.kp T.B__law_word_by (da_cons (df_var 2) da_nil) (aCons_len (fun _ _ h => aNil_len h)))))
    (dss_cons (ds_set 3 sc_law.nd (de_df (df_mod (dv_de (de_call G.g__law_cell_at (takes_of rfl rfl rfl rfl) hr rfl T.M__law_cell_at T.F__law_cell_at.kp T.B__law_cell_at (da_cons (df_var 0) (da_cons df_int da_nil)) (aCons_len (aCons_len (fun _ _ h => aNil_len h))))) (dv_de (de_add (dl_de (de_len rfl T.z_len (dal_cons (dl_df (df_var 1)) dal_nil))) (dl_df df_int))))))
    (dss_cons (ds_set 4 sc_law.nd (de_df (df_join (dv_df df_str) (dl_de (de_add (dl_de (de_add (dl_de (de_slice (dl_df (df_var 1)) do_none (do_some (dv_df (df_var 3))))) (dl_de (de_lst (da_cons (df_de (de_call G.g__law_bad_by (takes_of rfl rfl rfl rfl) hr rfl T.M__law_bad_by T.F__law_bad_by.kp T.B__law_bad_by (da_cons (df_de (de_call G.g__law_cell_at (takes_of rfl rfl rfl rfl) hr rfl T.M__law_cell_at T.F__law_cell_at.kp T.B__law_cell_at (da_cons (df_var 0) (da_cons df_int da_nil)) (aCons_len (aCons_len (fun _ _ h => aNil_len h))))) da_nil) (aCons_len (fun _ _ h => aNil_len h)))) da_nil))))) (dl_de (de_slice (dl_df (df_var 1)) (do_some (dv_df (df_var 3))) do_none)))))))
    (dss_cons (ds_if (dt_eq (room_eq hr) (dv_df (df_mod (dv_de (de_call G.g__law_cell_at (takes_of rfl rfl rfl rfl) hr rfl T.M__law_cell_at T.F__law_cell_at.kp T.B__law_cell_at (da_cons (df_var 0) (da_cons df_int da_nil)) (aCons_len (aCons_len (fun _ _ h => aNil_len h))))) (dv_df df_int))) (dv_df df_int))
    (dss_cons (ds_set 5 sc_law.nd (de_df (df_mod (dv_de (de_call G.g__law_cell_at (takes_of rfl rfl rfl rfl) hr rfl T.M__law_cell_at T.F__law_cell_at.kp T.B__law_cell_at (da_cons (df_var 0) (da_cons df_int da_nil)) (aCons_len (aCons_len (fun _ _ h => aNil_len h))))) (dv_df (df_pow (dv_df df_int) (dv_df df_int))))))
    (dss_one (ds_set 4 sc_law.nd (de_df (df_ix (dl_de (de_lst (da_cons df_non (da_cons (df_var 5) (da_cons df_bl (da_cons (df_var 1) (da_cons (df_tup (da_cons df_str da_nil)) (da_cons (df_de de_disp1) da_nil)))))))) (dv_df (df_mod (dv_df (df_div (dv_df (df_var 5)) (dv_df df_int))) (dv_df df_int))))))))
    dss_nil)
    (dss_cons (ds_if (dt_dw (dw_or (dt_not (dt_val (dv_de (de_call G.g__law_refused (takes_of rfl rfl rfl rfl) hr rfl T.M__law_refused T.F__law_refused.kp T.B__law_refused (da_cons (df_fn rfl T.M_words T.N_words) (da_cons (df_var 4) da_nil)) (aCons_len (aCons_len (fun _ _ h => aNil_len h))))))) (dw_or1 (dt_not (dt_val (dv_de (de_call G.g__law_refused (takes_of rfl rfl rfl rfl) hr rfl T.M__law_refused T.F__law_refused.kp T.B__law_refused (da_cons (df_fn rfl T.M_read_tree T.N_read_tree) (da_cons (df_var 4) da_nil)) (aCons_len (aCons_len (fun _ _ h => aNil_len h))))))))))
    (dss_one (ds_ret (de_df df_bl)))
    dss_nil)
    (dss_cons (ds_if (dt_dw (dw_or (dt_not (dt_val (dv_de (de_call G.g__law_refused (takes_of rfl rfl rfl rfl) hr rfl T.M__law_refused T.F__law_refused.kp T.B__law_refused (da_cons (df_fn rfl T.M_read_wood T.N_read_wood) (da_cons (df_var 4) da_nil)) (aCons_len (aCons_len (fun _ _ h => aNil_len h))))))) (dw_or1 (dt_not (dt_val (dv_de (de_call G.g__law_refused (takes_of rfl rfl rfl rfl) hr rfl T.M__law_refused T.F__law_refused.kp T.B__law_refused (da_cons (df_fn rfl T.M__law_read T.N__law_read) (da_cons (df_var 4) da_nil)) (aCons_len (aCons_len (fun _ _ h => aNil_len h))))))))))
    (dss_one (ds_ret (de_df df_bl)))
    dss_nil)
    (dss_one (ds_ret (de_df (df_eq (room_eq hr) (dv_de (de_call G.g_words (takes_of rfl rfl rfl rfl) hr rfl T.M_words T.F_words.kp T.B_words (da_cons (df_join (dv_df df_str) (dl_df (df_var 1))) da_nil) (aCons_len (fun _ _ h => aNil_len h)))) (dv_df (df_var 1))))))))))))
theorem fn_none {f : Addr} {fd : FuncData} {ps : List Str} {k i : Nat} : FnOk P w K mg base (L2.CX P w) 0 f fd ps (spM ⟨K, w⟩ mg k (mir 0 i)) := by
  have no : ∀ vs H Q E, ¬ spM ⟨K, w⟩ mg k (mir 0 i) vs H Q E := fun vs H Q E ⟨F, ds, _, _, _, h⟩ => h
  exact ⟨fun vs H Q E h => absurd h (no vs H Q E), fun A outer s H args us vs Q E _ _ _ _ h => absurd h (no vs H Q E)⟩
theorem all_fns (T : Txt K mg f fd cl) : ∀ n, Fns P w K mg base f fd n
  | 0 => ⟨fn_none, fn_none, fn_none, fn_none, fn_none, fn_none, fn_none, fn_none, fn_none, fn_none, fn_none, fn_none, fn_none, fn_none, fn_none, fn_none, fn_none, fn_none, fn_none, fn_none, fn_none, fn_none, fn_none, fn_none, fn_none, fn_none, fn_none, fn_none, fn_none, fn_none, fn_none, fn_none, fn_none, fn_none, fn_none, fn_none, fn_none⟩
  | n + 1 => by
    have G := all_fns T n
    exact ⟨ok_run_end T G, ok_word_end T G, ok_words T G, ok_is_name T G, ok_is_number T G, ok_parted T G, ok_size T G, ok_tree_at T G, ok_read_tree T G, ok_term_size T G, ok_calls_of T G, ok_keeps_mark T G, ok_rows_of T G, ok_wood_again T G, ok_row_by T G, ok_kind_by T G, ok_look_over T G, ok_read_wood T G, ok_calls_fit T G, ok_is_sound T G, ok_mark_at T G, ok_call_at T G, ok_term_at T G, ok_term_by T G, ok_rule_by T G, ok_numbered T G, ok_table_by T G, ok_modes_by T G, ok_read_turning T G, ok__law_cell_at T G, ok__law_word_by T G, ok__law_figures T G, ok__law_letters T G, ok__law_bad_by T G, ok__law_refused T G, ok__law_read T G, ok_law T G⟩
end
def pick {α : Type} (z : α) : List α → Nat → α
  | [], _ => z
  | x :: _, 0 => x
  | _ :: xs, n + 1 => pick z xs n
theorem all_mk (L : Nat) {l : PySem.W.OpenLaw} {w : World} {K : PySem.W.Frag} {h : Heap} {mg : Str → Option Value} {fa : Addr} (X : K.In h) (G : h.Ns PySem.mainGlobals mg) (hfa : mg "law" = some (.ref fa))
    {od0 an0 : Option Addr} {sl0 : Array (Option Value)} {oc0 kV0 dc0 pm0 cd0 ct0 : Value} {f0 : Addr}
    (a0 : PySem.W.nsIn K PySem.mainGlobals "run_end" = some (some (.ref f0))) (l0 : K.lookup f0 = some ⟨oc0, od0, .func (PySem.W.fnOf "run_end" "run_end" (defArgs s_run_end) (defBody s_run_end) (defScope s_run_end) .none kV0 dc0 pm0 an0 cd0 ct0), sl0⟩) (c0 : PySem.W.codeIn K cd0 "run_end" = true) (k0 : PySem.W.keepIn K (.ref f0) = true)
    {od1 an1 : Option Addr} {sl1 : Array (Option Value)} {oc1 kV1 dc1 pm1 cd1 ct1 : Value} {f1 : Addr}
    (a1 : PySem.W.nsIn K PySem.mainGlobals "word_end" = some (some (.ref f1))) (l1 : K.lookup f1 = some ⟨oc1, od1, .func (PySem.W.fnOf "word_end" "word_end" (defArgs s_word_end) (defBody s_word_end) (defScope s_word_end) .none kV1 dc1 pm1 an1 cd1 ct1), sl1⟩) (c1 : PySem.W.codeIn K cd1 "word_end" = true) (k1 : PySem.W.keepIn K (.ref f1) = true)
    {od2 an2 : Option Addr} {sl2 : Array (Option Value)} {oc2 kV2 dc2 pm2 cd2 ct2 : Value} {f2 : Addr}
    (a2 : PySem.W.nsIn K PySem.mainGlobals "words" = some (some (.ref f2))) (l2 : K.lookup f2 = some ⟨oc2, od2, .func (PySem.W.fnOf "words" "words" (defArgs s_words) (defBody s_words) (defScope s_words) .none kV2 dc2 pm2 an2 cd2 ct2), sl2⟩) (c2 : PySem.W.codeIn K cd2 "words" = true) (k2 : PySem.W.keepIn K (.ref f2) = true)
    {od3 an3 : Option Addr} {sl3 : Array (Option Value)} {oc3 kV3 dc3 pm3 cd3 ct3 : Value} {f3 : Addr}
    (a3 : PySem.W.nsIn K PySem.mainGlobals "is_name" = some (some (.ref f3))) (l3 : K.lookup f3 = some ⟨oc3, od3, .func (PySem.W.fnOf "is_name" "is_name" (defArgs s_is_name) (defBody s_is_name) (defScope s_is_name) .none kV3 dc3 pm3 an3 cd3 ct3), sl3⟩) (c3 : PySem.W.codeIn K cd3 "is_name" = true) (k3 : PySem.W.keepIn K (.ref f3) = true)
    {od4 an4 : Option Addr} {sl4 : Array (Option Value)} {oc4 kV4 dc4 pm4 cd4 ct4 : Value} {f4 : Addr}
    (a4 : PySem.W.nsIn K PySem.mainGlobals "is_number" = some (some (.ref f4))) (l4 : K.lookup f4 = some ⟨oc4, od4, .func (PySem.W.fnOf "is_number" "is_number" (defArgs s_is_number) (defBody s_is_number) (defScope s_is_number) .none kV4 dc4 pm4 an4 cd4 ct4), sl4⟩) (c4 : PySem.W.codeIn K cd4 "is_number" = true) (k4 : PySem.W.keepIn K (.ref f4) = true)
    {od5 an5 : Option Addr} {sl5 : Array (Option Value)} {oc5 kV5 dc5 pm5 cd5 ct5 : Value} {f5 : Addr}
    (a5 : PySem.W.nsIn K PySem.mainGlobals "parted" = some (some (.ref f5))) (l5 : K.lookup f5 = some ⟨oc5, od5, .func (PySem.W.fnOf "parted" "parted" (defArgs s_parted) (defBody s_parted) (defScope s_parted) .none kV5 dc5 pm5 an5 cd5 ct5), sl5⟩) (c5 : PySem.W.codeIn K cd5 "parted" = true) (k5 : PySem.W.keepIn K (.ref f5) = true)
    {od6 an6 : Option Addr} {sl6 : Array (Option Value)} {oc6 kV6 dc6 pm6 cd6 ct6 : Value} {f6 : Addr}
    (a6 : PySem.W.nsIn K PySem.mainGlobals "size" = some (some (.ref f6))) (l6 : K.lookup f6 = some ⟨oc6, od6, .func (PySem.W.fnOf "size" "size" (defArgs s_size) (defBody s_size) (defScope s_size) .none kV6 dc6 pm6 an6 cd6 ct6), sl6⟩) (c6 : PySem.W.codeIn K cd6 "size" = true) (k6 : PySem.W.keepIn K (.ref f6) = true)
    {od7 an7 : Option Addr} {sl7 : Array (Option Value)} {oc7 kV7 dc7 pm7 cd7 ct7 : Value} {f7 : Addr}
    (a7 : PySem.W.nsIn K PySem.mainGlobals "tree_at" = some (some (.ref f7))) (l7 : K.lookup f7 = some ⟨oc7, od7, .func (PySem.W.fnOf "tree_at" "tree_at" (defArgs s_tree_at) (defBody s_tree_at) (defScope s_tree_at) .none kV7 dc7 pm7 an7 cd7 ct7), sl7⟩) (c7 : PySem.W.codeIn K cd7 "tree_at" = true) (k7 : PySem.W.keepIn K (.ref f7) = true)
    {od8 an8 : Option Addr} {sl8 : Array (Option Value)} {oc8 kV8 dc8 pm8 cd8 ct8 : Value} {f8 : Addr}
    (a8 : PySem.W.nsIn K PySem.mainGlobals "read_tree" = some (some (.ref f8))) (l8 : K.lookup f8 = some ⟨oc8, od8, .func (PySem.W.fnOf "read_tree" "read_tree" (defArgs s_read_tree) (defBody s_read_tree) (defScope s_read_tree) .none kV8 dc8 pm8 an8 cd8 ct8), sl8⟩) (c8 : PySem.W.codeIn K cd8 "read_tree" = true) (k8 : PySem.W.keepIn K (.ref f8) = true)
    {od9 an9 : Option Addr} {sl9 : Array (Option Value)} {oc9 kV9 dc9 pm9 cd9 ct9 : Value} {f9 : Addr}
    (a9 : PySem.W.nsIn K PySem.mainGlobals "term_size" = some (some (.ref f9))) (l9 : K.lookup f9 = some ⟨oc9, od9, .func (PySem.W.fnOf "term_size" "term_size" (defArgs s_term_size) (defBody s_term_size) (defScope s_term_size) .none kV9 dc9 pm9 an9 cd9 ct9), sl9⟩) (c9 : PySem.W.codeIn K cd9 "term_size" = true) (k9 : PySem.W.keepIn K (.ref f9) = true)
    {od10 an10 : Option Addr} {sl10 : Array (Option Value)} {oc10 kV10 dc10 pm10 cd10 ct10 : Value} {f10 : Addr}
    (a10 : PySem.W.nsIn K PySem.mainGlobals "calls_of" = some (some (.ref f10))) (l10 : K.lookup f10 = some ⟨oc10, od10, .func (PySem.W.fnOf "calls_of" "calls_of" (defArgs s_calls_of) (defBody s_calls_of) (defScope s_calls_of) .none kV10 dc10 pm10 an10 cd10 ct10), sl10⟩) (c10 : PySem.W.codeIn K cd10 "calls_of" = true) (k10 : PySem.W.keepIn K (.ref f10) = true)
    {od11 an11 : Option Addr} {sl11 : Array (Option Value)} {oc11 kV11 dc11 pm11 cd11 ct11 : Value} {f11 : Addr}
    (a11 : PySem.W.nsIn K PySem.mainGlobals "keeps_mark" = some (some (.ref f11))) (l11 : K.lookup f11 = some ⟨oc11, od11, .func (PySem.W.fnOf "keeps_mark" "keeps_mark" (defArgs s_keeps_mark) (defBody s_keeps_mark) (defScope s_keeps_mark) .none kV11 dc11 pm11 an11 cd11 ct11), sl11⟩) (c11 : PySem.W.codeIn K cd11 "keeps_mark" = true) (k11 : PySem.W.keepIn K (.ref f11) = true)
    {od12 an12 : Option Addr} {sl12 : Array (Option Value)} {oc12 kV12 dc12 pm12 cd12 ct12 : Value} {f12 : Addr}
    (a12 : PySem.W.nsIn K PySem.mainGlobals "rows_of" = some (some (.ref f12))) (l12 : K.lookup f12 = some ⟨oc12, od12, .func (PySem.W.fnOf "rows_of" "rows_of" (defArgs s_rows_of) (defBody s_rows_of) (defScope s_rows_of) .none kV12 dc12 pm12 an12 cd12 ct12), sl12⟩) (c12 : PySem.W.codeIn K cd12 "rows_of" = true) (k12 : PySem.W.keepIn K (.ref f12) = true)
    {od13 an13 : Option Addr} {sl13 : Array (Option Value)} {oc13 kV13 dc13 pm13 cd13 ct13 : Value} {f13 : Addr}
    (a13 : PySem.W.nsIn K PySem.mainGlobals "wood_again" = some (some (.ref f13))) (l13 : K.lookup f13 = some ⟨oc13, od13, .func (PySem.W.fnOf "wood_again" "wood_again" (defArgs s_wood_again) (defBody s_wood_again) (defScope s_wood_again) .none kV13 dc13 pm13 an13 cd13 ct13), sl13⟩) (c13 : PySem.W.codeIn K cd13 "wood_again" = true) (k13 : PySem.W.keepIn K (.ref f13) = true)
    {od14 an14 : Option Addr} {sl14 : Array (Option Value)} {oc14 kV14 dc14 pm14 cd14 ct14 : Value} {f14 : Addr}
    (a14 : PySem.W.nsIn K PySem.mainGlobals "row_by" = some (some (.ref f14))) (l14 : K.lookup f14 = some ⟨oc14, od14, .func (PySem.W.fnOf "row_by" "row_by" (defArgs s_row_by) (defBody s_row_by) (defScope s_row_by) .none kV14 dc14 pm14 an14 cd14 ct14), sl14⟩) (c14 : PySem.W.codeIn K cd14 "row_by" = true) (k14 : PySem.W.keepIn K (.ref f14) = true)
    {od15 an15 : Option Addr} {sl15 : Array (Option Value)} {oc15 kV15 dc15 pm15 cd15 ct15 : Value} {f15 : Addr}
    (a15 : PySem.W.nsIn K PySem.mainGlobals "kind_by" = some (some (.ref f15))) (l15 : K.lookup f15 = some ⟨oc15, od15, .func (PySem.W.fnOf "kind_by" "kind_by" (defArgs s_kind_by) (defBody s_kind_by) (defScope s_kind_by) .none kV15 dc15 pm15 an15 cd15 ct15), sl15⟩) (c15 : PySem.W.codeIn K cd15 "kind_by" = true) (k15 : PySem.W.keepIn K (.ref f15) = true)
    {od16 an16 : Option Addr} {sl16 : Array (Option Value)} {oc16 kV16 dc16 pm16 cd16 ct16 : Value} {f16 : Addr}
    (a16 : PySem.W.nsIn K PySem.mainGlobals "look_over" = some (some (.ref f16))) (l16 : K.lookup f16 = some ⟨oc16, od16, .func (PySem.W.fnOf "look_over" "look_over" (defArgs s_look_over) (defBody s_look_over) (defScope s_look_over) .none kV16 dc16 pm16 an16 cd16 ct16), sl16⟩) (c16 : PySem.W.codeIn K cd16 "look_over" = true) (k16 : PySem.W.keepIn K (.ref f16) = true)
    {od17 an17 : Option Addr} {sl17 : Array (Option Value)} {oc17 kV17 dc17 pm17 cd17 ct17 : Value} {f17 : Addr}
    (a17 : PySem.W.nsIn K PySem.mainGlobals "read_wood" = some (some (.ref f17))) (l17 : K.lookup f17 = some ⟨oc17, od17, .func (PySem.W.fnOf "read_wood" "read_wood" (defArgs s_read_wood) (defBody s_read_wood) (defScope s_read_wood) .none kV17 dc17 pm17 an17 cd17 ct17), sl17⟩) (c17 : PySem.W.codeIn K cd17 "read_wood" = true) (k17 : PySem.W.keepIn K (.ref f17) = true)
    {od18 an18 : Option Addr} {sl18 : Array (Option Value)} {oc18 kV18 dc18 pm18 cd18 ct18 : Value} {f18 : Addr}
    (a18 : PySem.W.nsIn K PySem.mainGlobals "calls_fit" = some (some (.ref f18))) (l18 : K.lookup f18 = some ⟨oc18, od18, .func (PySem.W.fnOf "calls_fit" "calls_fit" (defArgs s_calls_fit) (defBody s_calls_fit) (defScope s_calls_fit) .none kV18 dc18 pm18 an18 cd18 ct18), sl18⟩) (c18 : PySem.W.codeIn K cd18 "calls_fit" = true) (k18 : PySem.W.keepIn K (.ref f18) = true)
    {od19 an19 : Option Addr} {sl19 : Array (Option Value)} {oc19 kV19 dc19 pm19 cd19 ct19 : Value} {f19 : Addr}
    (a19 : PySem.W.nsIn K PySem.mainGlobals "is_sound" = some (some (.ref f19))) (l19 : K.lookup f19 = some ⟨oc19, od19, .func (PySem.W.fnOf "is_sound" "is_sound" (defArgs s_is_sound) (defBody s_is_sound) (defScope s_is_sound) .none kV19 dc19 pm19 an19 cd19 ct19), sl19⟩) (c19 : PySem.W.codeIn K cd19 "is_sound" = true) (k19 : PySem.W.keepIn K (.ref f19) = true)
    {od20 an20 : Option Addr} {sl20 : Array (Option Value)} {oc20 kV20 dc20 pm20 cd20 ct20 : Value} {f20 : Addr}
    (a20 : PySem.W.nsIn K PySem.mainGlobals "mark_at" = some (some (.ref f20))) (l20 : K.lookup f20 = some ⟨oc20, od20, .func (PySem.W.fnOf "mark_at" "mark_at" (defArgs s_mark_at) (defBody s_mark_at) (defScope s_mark_at) .none kV20 dc20 pm20 an20 cd20 ct20), sl20⟩) (c20 : PySem.W.codeIn K cd20 "mark_at" = true) (k20 : PySem.W.keepIn K (.ref f20) = true)
    {od21 an21 : Option Addr} {sl21 : Array (Option Value)} {oc21 kV21 dc21 pm21 cd21 ct21 : Value} {f21 : Addr}
    (a21 : PySem.W.nsIn K PySem.mainGlobals "call_at" = some (some (.ref f21))) (l21 : K.lookup f21 = some ⟨oc21, od21, .func (PySem.W.fnOf "call_at" "call_at" (defArgs s_call_at) (defBody s_call_at) (defScope s_call_at) .none kV21 dc21 pm21 an21 cd21 ct21), sl21⟩) (c21 : PySem.W.codeIn K cd21 "call_at" = true) (k21 : PySem.W.keepIn K (.ref f21) = true)
    {od22 an22 : Option Addr} {sl22 : Array (Option Value)} {oc22 kV22 dc22 pm22 cd22 ct22 : Value} {f22 : Addr}
    (a22 : PySem.W.nsIn K PySem.mainGlobals "term_at" = some (some (.ref f22))) (l22 : K.lookup f22 = some ⟨oc22, od22, .func (PySem.W.fnOf "term_at" "term_at" (defArgs s_term_at) (defBody s_term_at) (defScope s_term_at) .none kV22 dc22 pm22 an22 cd22 ct22), sl22⟩) (c22 : PySem.W.codeIn K cd22 "term_at" = true) (k22 : PySem.W.keepIn K (.ref f22) = true)
    {od23 an23 : Option Addr} {sl23 : Array (Option Value)} {oc23 kV23 dc23 pm23 cd23 ct23 : Value} {f23 : Addr}
    (a23 : PySem.W.nsIn K PySem.mainGlobals "term_by" = some (some (.ref f23))) (l23 : K.lookup f23 = some ⟨oc23, od23, .func (PySem.W.fnOf "term_by" "term_by" (defArgs s_term_by) (defBody s_term_by) (defScope s_term_by) .none kV23 dc23 pm23 an23 cd23 ct23), sl23⟩) (c23 : PySem.W.codeIn K cd23 "term_by" = true) (k23 : PySem.W.keepIn K (.ref f23) = true)
    {od24 an24 : Option Addr} {sl24 : Array (Option Value)} {oc24 kV24 dc24 pm24 cd24 ct24 : Value} {f24 : Addr}
    (a24 : PySem.W.nsIn K PySem.mainGlobals "rule_by" = some (some (.ref f24))) (l24 : K.lookup f24 = some ⟨oc24, od24, .func (PySem.W.fnOf "rule_by" "rule_by" (defArgs s_rule_by) (defBody s_rule_by) (defScope s_rule_by) .none kV24 dc24 pm24 an24 cd24 ct24), sl24⟩) (c24 : PySem.W.codeIn K cd24 "rule_by" = true) (k24 : PySem.W.keepIn K (.ref f24) = true)
    {od25 an25 : Option Addr} {sl25 : Array (Option Value)} {oc25 kV25 dc25 pm25 cd25 ct25 : Value} {f25 : Addr}
    (a25 : PySem.W.nsIn K PySem.mainGlobals "numbered" = some (some (.ref f25))) (l25 : K.lookup f25 = some ⟨oc25, od25, .func (PySem.W.fnOf "numbered" "numbered" (defArgs s_numbered) (defBody s_numbered) (defScope s_numbered) .none kV25 dc25 pm25 an25 cd25 ct25), sl25⟩) (c25 : PySem.W.codeIn K cd25 "numbered" = true) (k25 : PySem.W.keepIn K (.ref f25) = true)
    {od26 an26 : Option Addr} {sl26 : Array (Option Value)} {oc26 kV26 dc26 pm26 cd26 ct26 : Value} {f26 : Addr}
    (a26 : PySem.W.nsIn K PySem.mainGlobals "table_by" = some (some (.ref f26))) (l26 : K.lookup f26 = some ⟨oc26, od26, .func (PySem.W.fnOf "table_by" "table_by" (defArgs s_table_by) (defBody s_table_by) (defScope s_table_by) .none kV26 dc26 pm26 an26 cd26 ct26), sl26⟩) (c26 : PySem.W.codeIn K cd26 "table_by" = true) (k26 : PySem.W.keepIn K (.ref f26) = true)
    {od27 an27 : Option Addr} {sl27 : Array (Option Value)} {oc27 kV27 dc27 pm27 cd27 ct27 : Value} {f27 : Addr}
    (a27 : PySem.W.nsIn K PySem.mainGlobals "modes_by" = some (some (.ref f27))) (l27 : K.lookup f27 = some ⟨oc27, od27, .func (PySem.W.fnOf "modes_by" "modes_by" (defArgs s_modes_by) (defBody s_modes_by) (defScope s_modes_by) .none kV27 dc27 pm27 an27 cd27 ct27), sl27⟩) (c27 : PySem.W.codeIn K cd27 "modes_by" = true) (k27 : PySem.W.keepIn K (.ref f27) = true)
    {od28 an28 : Option Addr} {sl28 : Array (Option Value)} {oc28 kV28 dc28 pm28 cd28 ct28 : Value} {f28 : Addr}
    (a28 : PySem.W.nsIn K PySem.mainGlobals "read_turning" = some (some (.ref f28))) (l28 : K.lookup f28 = some ⟨oc28, od28, .func (PySem.W.fnOf "read_turning" "read_turning" (defArgs s_read_turning) (defBody s_read_turning) (defScope s_read_turning) .none kV28 dc28 pm28 an28 cd28 ct28), sl28⟩) (c28 : PySem.W.codeIn K cd28 "read_turning" = true) (k28 : PySem.W.keepIn K (.ref f28) = true)
    {od29 an29 : Option Addr} {sl29 : Array (Option Value)} {oc29 kV29 dc29 pm29 cd29 ct29 : Value} {f29 : Addr}
    (a29 : PySem.W.nsIn K PySem.mainGlobals "_law_cell_at" = some (some (.ref f29))) (l29 : K.lookup f29 = some ⟨oc29, od29, .func (PySem.W.fnOf "_law_cell_at" "_law_cell_at" (defArgs s__law_cell_at) (defBody s__law_cell_at) (defScope s__law_cell_at) .none kV29 dc29 pm29 an29 cd29 ct29), sl29⟩) (c29 : PySem.W.codeIn K cd29 "_law_cell_at" = true) (k29 : PySem.W.keepIn K (.ref f29) = true)
    {od30 an30 : Option Addr} {sl30 : Array (Option Value)} {oc30 kV30 dc30 pm30 cd30 ct30 : Value} {f30 : Addr}
    (a30 : PySem.W.nsIn K PySem.mainGlobals "_law_word_by" = some (some (.ref f30))) (l30 : K.lookup f30 = some ⟨oc30, od30, .func (PySem.W.fnOf "_law_word_by" "_law_word_by" (defArgs s__law_word_by) (defBody s__law_word_by) (defScope s__law_word_by) .none kV30 dc30 pm30 an30 cd30 ct30), sl30⟩) (c30 : PySem.W.codeIn K cd30 "_law_word_by" = true) (k30 : PySem.W.keepIn K (.ref f30) = true)
    {od31 an31 : Option Addr} {sl31 : Array (Option Value)} {oc31 kV31 dc31 pm31 cd31 ct31 : Value} {f31 : Addr}
    (a31 : PySem.W.nsIn K PySem.mainGlobals "_law_figures" = some (some (.ref f31))) (l31 : K.lookup f31 = some ⟨oc31, od31, .func (PySem.W.fnOf "_law_figures" "_law_figures" (defArgs s__law_figures) (defBody s__law_figures) (defScope s__law_figures) .none kV31 dc31 pm31 an31 cd31 ct31), sl31⟩) (c31 : PySem.W.codeIn K cd31 "_law_figures" = true) (k31 : PySem.W.keepIn K (.ref f31) = true)
    {od32 an32 : Option Addr} {sl32 : Array (Option Value)} {oc32 kV32 dc32 pm32 cd32 ct32 : Value} {f32 : Addr}
    (a32 : PySem.W.nsIn K PySem.mainGlobals "_law_letters" = some (some (.ref f32))) (l32 : K.lookup f32 = some ⟨oc32, od32, .func (PySem.W.fnOf "_law_letters" "_law_letters" (defArgs s__law_letters) (defBody s__law_letters) (defScope s__law_letters) .none kV32 dc32 pm32 an32 cd32 ct32), sl32⟩) (c32 : PySem.W.codeIn K cd32 "_law_letters" = true) (k32 : PySem.W.keepIn K (.ref f32) = true)
    {od33 an33 : Option Addr} {sl33 : Array (Option Value)} {oc33 kV33 dc33 pm33 cd33 ct33 : Value} {f33 : Addr}
    (a33 : PySem.W.nsIn K PySem.mainGlobals "_law_bad_by" = some (some (.ref f33))) (l33 : K.lookup f33 = some ⟨oc33, od33, .func (PySem.W.fnOf "_law_bad_by" "_law_bad_by" (defArgs s__law_bad_by) (defBody s__law_bad_by) (defScope s__law_bad_by) .none kV33 dc33 pm33 an33 cd33 ct33), sl33⟩) (c33 : PySem.W.codeIn K cd33 "_law_bad_by" = true) (k33 : PySem.W.keepIn K (.ref f33) = true)
    {od34 an34 : Option Addr} {sl34 : Array (Option Value)} {oc34 kV34 dc34 pm34 cd34 ct34 : Value} {f34 : Addr}
    (a34 : PySem.W.nsIn K PySem.mainGlobals "_law_refused" = some (some (.ref f34))) (l34 : K.lookup f34 = some ⟨oc34, od34, .func (PySem.W.fnOf "_law_refused" "_law_refused" (defArgs s__law_refused) (defBody s__law_refused) (defScope s__law_refused) .none kV34 dc34 pm34 an34 cd34 ct34), sl34⟩) (c34 : PySem.W.codeIn K cd34 "_law_refused" = true) (k34 : PySem.W.keepIn K (.ref f34) = true)
    {od35 an35 : Option Addr} {sl35 : Array (Option Value)} {oc35 kV35 dc35 pm35 cd35 ct35 : Value} {f35 : Addr}
    (a35 : PySem.W.nsIn K PySem.mainGlobals "_law_read" = some (some (.ref f35))) (l35 : K.lookup f35 = some ⟨oc35, od35, .func (PySem.W.fnOf "_law_read" "_law_read" (defArgs s__law_read) (defBody s__law_read) (defScope s__law_read) .none kV35 dc35 pm35 an35 cd35 ct35), sl35⟩) (c35 : PySem.W.codeIn K cd35 "_law_read" = true) (k35 : PySem.W.keepIn K (.ref f35) = true)
    {od36 an36 : Option Addr} {sl36 : Array (Option Value)} {oc36 kV36 dc36 pm36 cd36 ct36 : Value} {f36 : Addr}
    (a36 : PySem.W.nsIn K PySem.mainGlobals "law" = some (some (.ref f36))) (l36 : K.lookup f36 = some ⟨oc36, od36, .func (PySem.W.fnOf "law" "law" (defArgs s_law) (defBody s_law) (defScope s_law) .none kV36 dc36 pm36 an36 cd36 ct36), sl36⟩) (c36 : PySem.W.codeIn K cd36 "law" = true) (k36 : PySem.W.keepIn K (.ref f36) = true)
    (z_ValueError : PySem.W.nsIn K PySem.mainGlobals "ValueError" = some none)
    (z_any : PySem.W.nsIn K PySem.mainGlobals "any" = some none)
    (z_int : PySem.W.nsIn K PySem.mainGlobals "int" = some none)
    (z_isinstance : PySem.W.nsIn K PySem.mainGlobals "isinstance" = some none)
    (z_len : PySem.W.nsIn K PySem.mainGlobals "len" = some none)
    (z_list : PySem.W.nsIn K PySem.mainGlobals "list" = some none)
    (z_range : PySem.W.nsIn K PySem.mainGlobals "range" = some none)
    (z_set : PySem.W.nsIn K PySem.mainGlobals "set" = some none)
    (z_sorted : PySem.W.nsIn K PySem.mainGlobals "sorted" = some none)
    (z_str : PySem.W.nsIn K PySem.mainGlobals "str" = some none)
    (z_sum : PySem.W.nsIn K PySem.mainGlobals "sum" = some none)
    (z_tuple : PySem.W.nsIn K PySem.mainGlobals "tuple" = some none)
    (z_zip : PySem.W.nsIn K PySem.mainGlobals "zip" = some none)
    {C_NoText : Addr} (e_NoText : PySem.W.nsIn K PySem.mainGlobals "NoText" = some (some (.ref C_NoText)))
    {C_NoWood : Addr} (e_NoWood : PySem.W.nsIn K PySem.mainGlobals "NoWood" = some (some (.ref C_NoWood)))
    {C_NoTurning : Addr} (e_NoTurning : PySem.W.nsIn K PySem.mainGlobals "NoTurning" = some (some (.ref C_NoTurning)))
    {C_NoName : Addr} (e_NoName : PySem.W.nsIn K PySem.mainGlobals "NoName" = some (some (.ref C_NoName)))
    {C_NoRow : Addr} (e_NoRow : PySem.W.nsIn K PySem.mainGlobals "NoRow" = some (some (.ref C_NoRow)))
    {C_Strays : Addr} (e_Strays : PySem.W.nsIn K PySem.mainGlobals "Strays" = some (some (.ref C_Strays)))
    {C_OtherWood : Addr} (e_OtherWood : PySem.W.nsIn K PySem.mainGlobals "OtherWood" = some (some (.ref C_OtherWood)))
    {C_TooGreat : Addr} (e_TooGreat : PySem.W.nsIn K PySem.mainGlobals "TooGreat" = some (some (.ref C_TooGreat)))
    {C_NoTree : Addr} (e_NoTree : PySem.W.nsIn K PySem.mainGlobals "NoTree" = some (some (.ref C_NoTree)))
    {C_TurnError : Addr} (e_TurnError : PySem.W.nsIn K PySem.mainGlobals "TurnError" = some (some (.ref C_TurnError)))
    (xb_NoText : PySem.W.subIn K (.ref C_NoText) (.type "BaseException") = some true)
    (xt_NoText : PySem.W.typeIn K (.ref C_NoText) = some (.type "type"))
    (xd_NoText : PySem.W.hasDictIn K C_NoText = true)
    (xs_NoText : PySem.W.subIn K (.ref C_NoText) (.ref C_NoText) = some true)
    (xb_NoWood : PySem.W.subIn K (.ref C_NoWood) (.type "BaseException") = some true)
    (xt_NoWood : PySem.W.typeIn K (.ref C_NoWood) = some (.type "type"))
    (xd_NoWood : PySem.W.hasDictIn K C_NoWood = true)
    (xs_NoWood : PySem.W.subIn K (.ref C_NoWood) (.ref C_NoWood) = some true)
    (xb_NoTurning : PySem.W.subIn K (.ref C_NoTurning) (.type "BaseException") = some true)
    (xt_NoTurning : PySem.W.typeIn K (.ref C_NoTurning) = some (.type "type"))
    (xd_NoTurning : PySem.W.hasDictIn K C_NoTurning = true)
    (xs_NoTurning : PySem.W.subIn K (.ref C_NoTurning) (.ref C_NoTurning) = some true)
    (xb_NoName : PySem.W.subIn K (.ref C_NoName) (.type "BaseException") = some true)
    (xt_NoName : PySem.W.typeIn K (.ref C_NoName) = some (.type "type"))
    (xd_NoName : PySem.W.hasDictIn K C_NoName = true)
    (xs_NoName : PySem.W.subIn K (.ref C_NoName) (.ref C_NoName) = some true)
    (xb_NoRow : PySem.W.subIn K (.ref C_NoRow) (.type "BaseException") = some true)
    (xt_NoRow : PySem.W.typeIn K (.ref C_NoRow) = some (.type "type"))
    (xd_NoRow : PySem.W.hasDictIn K C_NoRow = true)
    (xs_NoRow : PySem.W.subIn K (.ref C_NoRow) (.ref C_NoRow) = some true)
    (xb_Strays : PySem.W.subIn K (.ref C_Strays) (.type "BaseException") = some true)
    (xt_Strays : PySem.W.typeIn K (.ref C_Strays) = some (.type "type"))
    (xd_Strays : PySem.W.hasDictIn K C_Strays = true)
    (xs_Strays : PySem.W.subIn K (.ref C_Strays) (.ref C_Strays) = some true)
    (xb_OtherWood : PySem.W.subIn K (.ref C_OtherWood) (.type "BaseException") = some true)
    (xt_OtherWood : PySem.W.typeIn K (.ref C_OtherWood) = some (.type "type"))
    (xd_OtherWood : PySem.W.hasDictIn K C_OtherWood = true)
    (xs_OtherWood : PySem.W.subIn K (.ref C_OtherWood) (.ref C_OtherWood) = some true)
    (xb_TooGreat : PySem.W.subIn K (.ref C_TooGreat) (.type "BaseException") = some true)
    (xt_TooGreat : PySem.W.typeIn K (.ref C_TooGreat) = some (.type "type"))
    (xd_TooGreat : PySem.W.hasDictIn K C_TooGreat = true)
    (xs_TooGreat : PySem.W.subIn K (.ref C_TooGreat) (.ref C_TooGreat) = some true)
    (xb_NoTree : PySem.W.subIn K (.ref C_NoTree) (.type "BaseException") = some true)
    (xt_NoTree : PySem.W.typeIn K (.ref C_NoTree) = some (.type "type"))
    (xd_NoTree : PySem.W.hasDictIn K C_NoTree = true)
    (xs_NoTree : PySem.W.subIn K (.ref C_NoTree) (.ref C_NoTree) = some true)
    (xb_TurnError : PySem.W.subIn K (.ref C_TurnError) (.type "BaseException") = some true)
    (xt_TurnError : PySem.W.typeIn K (.ref C_TurnError) = some (.type "type"))
    (xd_TurnError : PySem.W.hasDictIn K C_TurnError = true)
    (xs_TurnError : PySem.W.subIn K (.ref C_TurnError) (.ref C_TurnError) = some true)
    (xe_NoText : PySem.W.excIn K C_NoText [.type "ValueError", .type "Exception", .type "BaseException", .type "object"] "ValueError.__new__" = true)
    (xk_NoText : PySem.W.keepIn K (.ref C_NoText) = true)
    (y0_NoText : PySem.W.findIn K (.ref C_NoText) "__getattribute__" = some (some (.builtin "BaseException.__getattribute__")))
    (y1_NoText : PySem.W.findIn K (.ref C_NoText) "__getattr__" = some none)
    (y2_NoText : PySem.W.findIn K (.ref C_NoText) "__class__" = some (some (.builtin "object.__class__")))
    (y3_NoText : PySem.W.specialIn K (.builtin "object.__class__") "__get__" = some (some (.builtin "getset_descriptor.__get__")))
    (y4_NoText : PySem.W.takesIn K (.builtin "object.__class__") = some true)
    (y5_NoText : PySem.W.mroIn K C_NoText (.type "object") = some true)
    (xe_NoWood : PySem.W.excIn K C_NoWood [.type "ValueError", .type "Exception", .type "BaseException", .type "object"] "ValueError.__new__" = true)
    (xk_NoWood : PySem.W.keepIn K (.ref C_NoWood) = true)
    (y0_NoWood : PySem.W.findIn K (.ref C_NoWood) "__getattribute__" = some (some (.builtin "BaseException.__getattribute__")))
    (y1_NoWood : PySem.W.findIn K (.ref C_NoWood) "__getattr__" = some none)
    (y2_NoWood : PySem.W.findIn K (.ref C_NoWood) "__class__" = some (some (.builtin "object.__class__")))
    (y3_NoWood : PySem.W.specialIn K (.builtin "object.__class__") "__get__" = some (some (.builtin "getset_descriptor.__get__")))
    (y4_NoWood : PySem.W.takesIn K (.builtin "object.__class__") = some true)
    (y5_NoWood : PySem.W.mroIn K C_NoWood (.type "object") = some true)
    (xe_NoTurning : PySem.W.excIn K C_NoTurning [.type "ValueError", .type "Exception", .type "BaseException", .type "object"] "ValueError.__new__" = true)
    (xk_NoTurning : PySem.W.keepIn K (.ref C_NoTurning) = true)
    (y0_NoTurning : PySem.W.findIn K (.ref C_NoTurning) "__getattribute__" = some (some (.builtin "BaseException.__getattribute__")))
    (y1_NoTurning : PySem.W.findIn K (.ref C_NoTurning) "__getattr__" = some none)
    (y2_NoTurning : PySem.W.findIn K (.ref C_NoTurning) "__class__" = some (some (.builtin "object.__class__")))
    (y3_NoTurning : PySem.W.specialIn K (.builtin "object.__class__") "__get__" = some (some (.builtin "getset_descriptor.__get__")))
    (y4_NoTurning : PySem.W.takesIn K (.builtin "object.__class__") = some true)
    (y5_NoTurning : PySem.W.mroIn K C_NoTurning (.type "object") = some true)
    (hci_NoText_NoName : PySem.W.subIn K (.ref C_NoText) (.ref C_NoName) = some false)
    (hci_NoWood_NoName : PySem.W.subIn K (.ref C_NoWood) (.ref C_NoName) = some false)
    (hci_NoTurning_NoName : PySem.W.subIn K (.ref C_NoTurning) (.ref C_NoName) = some false)
    (hci_NoText_NoRow : PySem.W.subIn K (.ref C_NoText) (.ref C_NoRow) = some false)
    (hci_NoWood_NoRow : PySem.W.subIn K (.ref C_NoWood) (.ref C_NoRow) = some false)
    (hci_NoTurning_NoRow : PySem.W.subIn K (.ref C_NoTurning) (.ref C_NoRow) = some false)
    (hci_NoText_Strays : PySem.W.subIn K (.ref C_NoText) (.ref C_Strays) = some false)
    (hci_NoWood_Strays : PySem.W.subIn K (.ref C_NoWood) (.ref C_Strays) = some false)
    (hci_NoTurning_Strays : PySem.W.subIn K (.ref C_NoTurning) (.ref C_Strays) = some false)
    (hci_NoText_OtherWood : PySem.W.subIn K (.ref C_NoText) (.ref C_OtherWood) = some false)
    (hci_NoWood_OtherWood : PySem.W.subIn K (.ref C_NoWood) (.ref C_OtherWood) = some false)
    (hci_NoTurning_OtherWood : PySem.W.subIn K (.ref C_NoTurning) (.ref C_OtherWood) = some false)
    (hci_NoText_TooGreat : PySem.W.subIn K (.ref C_NoText) (.ref C_TooGreat) = some false)
    (hci_NoWood_TooGreat : PySem.W.subIn K (.ref C_NoWood) (.ref C_TooGreat) = some false)
    (hci_NoTurning_TooGreat : PySem.W.subIn K (.ref C_NoTurning) (.ref C_TooGreat) = some false)
    (hci_NoText_NoTree : PySem.W.subIn K (.ref C_NoText) (.ref C_NoTree) = some false)
    (hci_NoWood_NoTree : PySem.W.subIn K (.ref C_NoWood) (.ref C_NoTree) = some false)
    (hci_NoTurning_NoTree : PySem.W.subIn K (.ref C_NoTurning) (.ref C_NoTree) = some false)
    (hci_NoText_NoTurning : PySem.W.subIn K (.ref C_NoText) (.ref C_NoTurning) = some false)
    (hci_NoWood_NoTurning : PySem.W.subIn K (.ref C_NoWood) (.ref C_NoTurning) = some false)
    (hci_NoTurning_NoTurning : PySem.W.subIn K (.ref C_NoTurning) (.ref C_NoTurning) = some true)
    (hci_NoText_NoWood : PySem.W.subIn K (.ref C_NoText) (.ref C_NoWood) = some false)
    (hci_NoWood_NoWood : PySem.W.subIn K (.ref C_NoWood) (.ref C_NoWood) = some true)
    (hci_NoTurning_NoWood : PySem.W.subIn K (.ref C_NoTurning) (.ref C_NoWood) = some false)
    (hci_NoText_ValueError : PySem.W.subIn K (.ref C_NoText) (.type "ValueError") = some true)
    (hci_NoWood_ValueError : PySem.W.subIn K (.ref C_NoWood) (.type "ValueError") = some true)
    (hci_NoTurning_ValueError : PySem.W.subIn K (.ref C_NoTurning) (.type "ValueError") = some true)
    (hci_NoText_NoText : PySem.W.subIn K (.ref C_NoText) (.ref C_NoText) = some true)
    (hci_NoWood_NoText : PySem.W.subIn K (.ref C_NoWood) (.ref C_NoText) = some false)
    (hci_NoTurning_NoText : PySem.W.subIn K (.ref C_NoTurning) (.ref C_NoText) = some false)
    (hcm_NoTurning_TurnError : PySem.W.subIn K (.ref C_NoTurning) (.ref C_TurnError) = some true)
    (hcm_NoWood_TurnError : PySem.W.subIn K (.ref C_NoWood) (.ref C_TurnError) = some true)
    (hcm_NoText_TurnError : PySem.W.subIn K (.ref C_NoText) (.ref C_TurnError) = some true)
    (hkn_NoName : PySem.W.subIn K (.type "NoneType") (.ref C_NoName) = some false)
    (hkn_NoRow : PySem.W.subIn K (.type "NoneType") (.ref C_NoRow) = some false)
    (hkn_Strays : PySem.W.subIn K (.type "NoneType") (.ref C_Strays) = some false)
    (hkn_OtherWood : PySem.W.subIn K (.type "NoneType") (.ref C_OtherWood) = some false)
    (hkn_TooGreat : PySem.W.subIn K (.type "NoneType") (.ref C_TooGreat) = some false)
    (hkn_NoTree : PySem.W.subIn K (.type "NoneType") (.ref C_NoTree) = some false)
    (hkn_NoTurning : PySem.W.subIn K (.type "NoneType") (.ref C_NoTurning) = some false)
    (hkn_NoWood : PySem.W.subIn K (.type "NoneType") (.ref C_NoWood) = some false)
    (hkn_NoText : PySem.W.subIn K (.type "NoneType") (.ref C_NoText) = some false)
    {u_FIGURES : Value} (g_FIGURES : PySem.W.nsIn K PySem.mainGlobals "FIGURES" = some (some u_FIGURES)) (r_FIGURES : RelV (.str "0123456789") u_FIGURES)
    {u_LETTERS : Value} (g_LETTERS : PySem.W.nsIn K PySem.mainGlobals "LETTERS" = some (some u_LETTERS)) (r_LETTERS : RelV (.str "abcdefghijklmnopqrstuvwxyz") u_LETTERS)
    {u_SIGNS : Value} (g_SIGNS : PySem.W.nsIn K PySem.mainGlobals "SIGNS" = some (some u_SIGNS)) (r_SIGNS : RelV (.str "();:=|*") u_SIGNS) :
    ∃ fd : FuncData, (∀ (s : Shared) (v : Value), BindsTo s fd ⟨[v], []⟩ [("_law_script", v)]) ∧ ∀ base : Heap, K.In base → base.Ns PySem.mainGlobals mg → FnOk l.prog w K mg base (L2.CX l.prog w) L fa fd ["_law_script"] (spM ⟨K, w⟩ mg 1 (mir L 36)) := by
  have e := hfa.symm.trans (PySem.W.mg_of X G a36)
  cases e
  have F0 := fun_mk (st := s_run_end) l0 c0 k0
  have F1 := fun_mk (st := s_word_end) l1 c1 k1
  have F2 := fun_mk (st := s_words) l2 c2 k2
  have F3 := fun_mk (st := s_is_name) l3 c3 k3
  have F4 := fun_mk (st := s_is_number) l4 c4 k4
  have F5 := fun_mk (st := s_parted) l5 c5 k5
  have F6 := fun_mk (st := s_size) l6 c6 k6
  have F7 := fun_mk (st := s_tree_at) l7 c7 k7
  have F8 := fun_mk (st := s_read_tree) l8 c8 k8
  have F9 := fun_mk (st := s_term_size) l9 c9 k9
  have F10 := fun_mk (st := s_calls_of) l10 c10 k10
  have F11 := fun_mk (st := s_keeps_mark) l11 c11 k11
  have F12 := fun_mk (st := s_rows_of) l12 c12 k12
  have F13 := fun_mk (st := s_wood_again) l13 c13 k13
  have F14 := fun_mk (st := s_row_by) l14 c14 k14
  have F15 := fun_mk (st := s_kind_by) l15 c15 k15
  have F16 := fun_mk (st := s_look_over) l16 c16 k16
  have F17 := fun_mk (st := s_read_wood) l17 c17 k17
  have F18 := fun_mk (st := s_calls_fit) l18 c18 k18
  have F19 := fun_mk (st := s_is_sound) l19 c19 k19
  have F20 := fun_mk (st := s_mark_at) l20 c20 k20
  have F21 := fun_mk (st := s_call_at) l21 c21 k21
  have F22 := fun_mk (st := s_term_at) l22 c22 k22
  have F23 := fun_mk (st := s_term_by) l23 c23 k23
  have F24 := fun_mk (st := s_rule_by) l24 c24 k24
  have F25 := fun_mk (st := s_numbered) l25 c25 k25
  have F26 := fun_mk (st := s_table_by) l26 c26 k26
  have F27 := fun_mk (st := s_modes_by) l27 c27 k27
  have F28 := fun_mk (st := s_read_turning) l28 c28 k28
  have F29 := fun_mk (st := s__law_cell_at) l29 c29 k29
  have F30 := fun_mk (st := s__law_word_by) l30 c30 k30
  have F31 := fun_mk (st := s__law_figures) l31 c31 k31
  have F32 := fun_mk (st := s__law_letters) l32 c32 k32
  have F33 := fun_mk (st := s__law_bad_by) l33 c33 k33
  have F34 := fun_mk (st := s__law_refused) l34 c34 k34
  have F35 := fun_mk (st := s__law_read) l35 c35 k35
  have F36 := fun_mk (st := s_law) l36 c36 k36
  have T : Txt K mg (pick 0 [f0, f1, f2, f3, f4, f5, f6, f7, f8, f9, f10, f11, f12, f13, f14, f15, f16, f17, f18, f19, f20, f21, f22, f23, f24, f25, f26, f27, f28, f29, f30, f31, f32, f33, f34, f35, fa]) (pick (PySem.W.fnOf "law" "law" (defArgs s_law) (defBody s_law) (defScope s_law) .none kV36 dc36 pm36 an36 cd36 ct36) [PySem.W.fnOf "run_end" "run_end" (defArgs s_run_end) (defBody s_run_end) (defScope s_run_end) .none kV0 dc0 pm0 an0 cd0 ct0, PySem.W.fnOf "word_end" "word_end" (defArgs s_word_end) (defBody s_word_end) (defScope s_word_end) .none kV1 dc1 pm1 an1 cd1 ct1, PySem.W.fnOf "words" "words" (defArgs s_words) (defBody s_words) (defScope s_words) .none kV2 dc2 pm2 an2 cd2 ct2, PySem.W.fnOf "is_name" "is_name" (defArgs s_is_name) (defBody s_is_name) (defScope s_is_name) .none kV3 dc3 pm3 an3 cd3 ct3, PySem.W.fnOf "is_number" "is_number" (defArgs s_is_number) (defBody s_is_number) (defScope s_is_number) .none kV4 dc4 pm4 an4 cd4 ct4, PySem.W.fnOf "parted" "parted" (defArgs s_parted) (defBody s_parted) (defScope s_parted) .none kV5 dc5 pm5 an5 cd5 ct5, PySem.W.fnOf "size" "size" (defArgs s_size) (defBody s_size) (defScope s_size) .none kV6 dc6 pm6 an6 cd6 ct6, PySem.W.fnOf "tree_at" "tree_at" (defArgs s_tree_at) (defBody s_tree_at) (defScope s_tree_at) .none kV7 dc7 pm7 an7 cd7 ct7, PySem.W.fnOf "read_tree" "read_tree" (defArgs s_read_tree) (defBody s_read_tree) (defScope s_read_tree) .none kV8 dc8 pm8 an8 cd8 ct8, PySem.W.fnOf "term_size" "term_size" (defArgs s_term_size) (defBody s_term_size) (defScope s_term_size) .none kV9 dc9 pm9 an9 cd9 ct9, PySem.W.fnOf "calls_of" "calls_of" (defArgs s_calls_of) (defBody s_calls_of) (defScope s_calls_of) .none kV10 dc10 pm10 an10 cd10 ct10, PySem.W.fnOf "keeps_mark" "keeps_mark" (defArgs s_keeps_mark) (defBody s_keeps_mark) (defScope s_keeps_mark) .none kV11 dc11 pm11 an11 cd11 ct11, PySem.W.fnOf "rows_of" "rows_of" (defArgs s_rows_of) (defBody s_rows_of) (defScope s_rows_of) .none kV12 dc12 pm12 an12 cd12 ct12, PySem.W.fnOf "wood_again" "wood_again" (defArgs s_wood_again) (defBody s_wood_again) (defScope s_wood_again) .none kV13 dc13 pm13 an13 cd13 ct13, PySem.W.fnOf "row_by" "row_by" (defArgs s_row_by) (defBody s_row_by) (defScope s_row_by) .none kV14 dc14 pm14 an14 cd14 ct14, PySem.W.fnOf "kind_by" "kind_by" (defArgs s_kind_by) (defBody s_kind_by) (defScope s_kind_by) .none kV15 dc15 pm15 an15 cd15 ct15, PySem.W.fnOf "look_over" "look_over" (defArgs s_look_over) (defBody s_look_over) (defScope s_look_over) .none kV16 dc16 pm16 an16 cd16 ct16, PySem.W.fnOf "read_wood" "read_wood" (defArgs s_read_wood) (defBody s_read_wood) (defScope s_read_wood) .none kV17 dc17 pm17 an17 cd17 ct17, PySem.W.fnOf "calls_fit" "calls_fit" (defArgs s_calls_fit) (defBody s_calls_fit) (defScope s_calls_fit) .none kV18 dc18 pm18 an18 cd18 ct18, PySem.W.fnOf "is_sound" "is_sound" (defArgs s_is_sound) (defBody s_is_sound) (defScope s_is_sound) .none kV19 dc19 pm19 an19 cd19 ct19, PySem.W.fnOf "mark_at" "mark_at" (defArgs s_mark_at) (defBody s_mark_at) (defScope s_mark_at) .none kV20 dc20 pm20 an20 cd20 ct20, PySem.W.fnOf "call_at" "call_at" (defArgs s_call_at) (defBody s_call_at) (defScope s_call_at) .none kV21 dc21 pm21 an21 cd21 ct21, PySem.W.fnOf "term_at" "term_at" (defArgs s_term_at) (defBody s_term_at) (defScope s_term_at) .none kV22 dc22 pm22 an22 cd22 ct22, PySem.W.fnOf "term_by" "term_by" (defArgs s_term_by) (defBody s_term_by) (defScope s_term_by) .none kV23 dc23 pm23 an23 cd23 ct23, PySem.W.fnOf "rule_by" "rule_by" (defArgs s_rule_by) (defBody s_rule_by) (defScope s_rule_by) .none kV24 dc24 pm24 an24 cd24 ct24, PySem.W.fnOf "numbered" "numbered" (defArgs s_numbered) (defBody s_numbered) (defScope s_numbered) .none kV25 dc25 pm25 an25 cd25 ct25, PySem.W.fnOf "table_by" "table_by" (defArgs s_table_by) (defBody s_table_by) (defScope s_table_by) .none kV26 dc26 pm26 an26 cd26 ct26, PySem.W.fnOf "modes_by" "modes_by" (defArgs s_modes_by) (defBody s_modes_by) (defScope s_modes_by) .none kV27 dc27 pm27 an27 cd27 ct27, PySem.W.fnOf "read_turning" "read_turning" (defArgs s_read_turning) (defBody s_read_turning) (defScope s_read_turning) .none kV28 dc28 pm28 an28 cd28 ct28, PySem.W.fnOf "_law_cell_at" "_law_cell_at" (defArgs s__law_cell_at) (defBody s__law_cell_at) (defScope s__law_cell_at) .none kV29 dc29 pm29 an29 cd29 ct29, PySem.W.fnOf "_law_word_by" "_law_word_by" (defArgs s__law_word_by) (defBody s__law_word_by) (defScope s__law_word_by) .none kV30 dc30 pm30 an30 cd30 ct30, PySem.W.fnOf "_law_figures" "_law_figures" (defArgs s__law_figures) (defBody s__law_figures) (defScope s__law_figures) .none kV31 dc31 pm31 an31 cd31 ct31, PySem.W.fnOf "_law_letters" "_law_letters" (defArgs s__law_letters) (defBody s__law_letters) (defScope s__law_letters) .none kV32 dc32 pm32 an32 cd32 ct32, PySem.W.fnOf "_law_bad_by" "_law_bad_by" (defArgs s__law_bad_by) (defBody s__law_bad_by) (defScope s__law_bad_by) .none kV33 dc33 pm33 an33 cd33 ct33, PySem.W.fnOf "_law_refused" "_law_refused" (defArgs s__law_refused) (defBody s__law_refused) (defScope s__law_refused) .none kV34 dc34 pm34 an34 cd34 ct34, PySem.W.fnOf "_law_read" "_law_read" (defArgs s__law_read) (defBody s__law_read) (defScope s__law_read) .none kV35 dc35 pm35 an35 cd35 ct35, PySem.W.fnOf "law" "law" (defArgs s_law) (defBody s_law) (defScope s_law) .none kV36 dc36 pm36 an36 cd36 ct36]) (pick 0 [C_NoText, C_NoWood, C_NoTurning, C_NoName, C_NoRow, C_Strays, C_OtherWood, C_TooGreat, C_NoTree, C_TurnError]) := {
    F_run_end := F0,
    B_run_end := F0.binds (ps := ["text", "start", "signs"]) fun _ _ _ _ _ _ us hl => match us, hl with | [_, _, _], _ => rfl,
    M_run_end := PySem.W.mg_of X G a0,
    F_word_end := F1,
    B_word_end := F1.binds (ps := ["text", "start"]) fun _ _ _ _ _ _ us hl => match us, hl with | [_, _], _ => rfl,
    M_word_end := PySem.W.mg_of X G a1,
    F_words := F2,
    B_words := F2.binds (ps := ["text"]) fun _ _ _ _ _ _ us hl => match us, hl with | [_], _ => rfl,
    M_words := PySem.W.mg_of X G a2,
    N_words := a2,
    F_is_name := F3,
    B_is_name := F3.binds (ps := ["word"]) fun _ _ _ _ _ _ us hl => match us, hl with | [_], _ => rfl,
    M_is_name := PySem.W.mg_of X G a3,
    F_is_number := F4,
    B_is_number := F4.binds (ps := ["word"]) fun _ _ _ _ _ _ us hl => match us, hl with | [_], _ => rfl,
    M_is_number := PySem.W.mg_of X G a4,
    F_parted := F5,
    B_parted := F5.binds (ps := ["row", "sign"]) fun _ _ _ _ _ _ us hl => match us, hl with | [_, _], _ => rfl,
    M_parted := PySem.W.mg_of X G a5,
    F_size := F6,
    B_size := F6.binds (ps := ["tree"]) fun _ _ _ _ _ _ us hl => match us, hl with | [_], _ => rfl,
    M_size := PySem.W.mg_of X G a6,
    F_tree_at := F7,
    B_tree_at := F7.binds (ps := ["row", "here", "level"]) fun _ _ _ _ _ _ us hl => match us, hl with | [_, _, _], _ => rfl,
    M_tree_at := PySem.W.mg_of X G a7,
    F_read_tree := F8,
    B_read_tree := F8.binds (ps := ["text"]) fun _ _ _ _ _ _ us hl => match us, hl with | [_], _ => rfl,
    M_read_tree := PySem.W.mg_of X G a8,
    N_read_tree := a8,
    F_term_size := F9,
    B_term_size := F9.binds (ps := ["term"]) fun _ _ _ _ _ _ us hl => match us, hl with | [_], _ => rfl,
    M_term_size := PySem.W.mg_of X G a9,
    F_calls_of := F10,
    B_calls_of := F10.binds (ps := ["term"]) fun _ _ _ _ _ _ us hl => match us, hl with | [_], _ => rfl,
    M_calls_of := PySem.W.mg_of X G a10,
    F_keeps_mark := F11,
    B_keeps_mark := F11.binds (ps := ["term"]) fun _ _ _ _ _ _ us hl => match us, hl with | [_], _ => rfl,
    M_keeps_mark := PySem.W.mg_of X G a11,
    F_rows_of := F12,
    B_rows_of := F12.binds (ps := ["wood", "kind"]) fun _ _ _ _ _ _ us hl => match us, hl with | [_, _], _ => rfl,
    M_rows_of := PySem.W.mg_of X G a12,
    F_wood_again := F13,
    B_wood_again := F13.binds (ps := ["wood"]) fun _ _ _ _ _ _ us hl => match us, hl with | [_], _ => rfl,
    M_wood_again := PySem.W.mg_of X G a13,
    F_row_by := F14,
    B_row_by := F14.binds (ps := ["part"]) fun _ _ _ _ _ _ us hl => match us, hl with | [_], _ => rfl,
    M_row_by := PySem.W.mg_of X G a14,
    F_kind_by := F15,
    B_kind_by := F15.binds (ps := ["part"]) fun _ _ _ _ _ _ us hl => match us, hl with | [_], _ => rfl,
    M_kind_by := PySem.W.mg_of X G a15,
    F_look_over := F16,
    B_look_over := F16.binds (ps := ["wood"]) fun _ _ _ _ _ _ us hl => match us, hl with | [_], _ => rfl,
    M_look_over := PySem.W.mg_of X G a16,
    F_read_wood := F17,
    B_read_wood := F17.binds (ps := ["text"]) fun _ _ _ _ _ _ us hl => match us, hl with | [_], _ => rfl,
    M_read_wood := PySem.W.mg_of X G a17,
    N_read_wood := a17,
    F_calls_fit := F18,
    B_calls_fit := F18.binds (ps := ["term", "branches", "modes"]) fun _ _ _ _ _ _ us hl => match us, hl with | [_, _, _], _ => rfl,
    M_calls_fit := PySem.W.mg_of X G a18,
    F_is_sound := F19,
    B_is_sound := F19.binds (ps := ["wood", "start", "modes"]) fun _ _ _ _ _ _ us hl => match us, hl with | [_, _, _], _ => rfl,
    M_is_sound := PySem.W.mg_of X G a19,
    F_mark_at := F20,
    B_mark_at := F20.binds (ps := ["row", "here"]) fun _ _ _ _ _ _ us hl => match us, hl with | [_, _], _ => rfl,
    M_mark_at := PySem.W.mg_of X G a20,
    F_call_at := F21,
    B_call_at := F21.binds (ps := ["row", "here"]) fun _ _ _ _ _ _ us hl => match us, hl with | [_, _], _ => rfl,
    M_call_at := PySem.W.mg_of X G a21,
    F_term_at := F22,
    B_term_at := F22.binds (ps := ["row", "here", "depth"]) fun _ _ _ _ _ _ us hl => match us, hl with | [_, _, _], _ => rfl,
    M_term_at := PySem.W.mg_of X G a22,
    F_term_by := F23,
    B_term_by := F23.binds (ps := ["row"]) fun _ _ _ _ _ _ us hl => match us, hl with | [_], _ => rfl,
    M_term_by := PySem.W.mg_of X G a23,
    F_rule_by := F24,
    B_rule_by := F24.binds (ps := ["part"]) fun _ _ _ _ _ _ us hl => match us, hl with | [_], _ => rfl,
    M_rule_by := PySem.W.mg_of X G a24,
    F_numbered := F25,
    B_numbered := F25.binds (ps := ["term", "names"]) fun _ _ _ _ _ _ us hl => match us, hl with | [_, _], _ => rfl,
    M_numbered := PySem.W.mg_of X G a25,
    F_table_by := F26,
    B_table_by := F26.binds (ps := ["wood", "rules"]) fun _ _ _ _ _ _ us hl => match us, hl with | [_, _], _ => rfl,
    M_table_by := PySem.W.mg_of X G a26,
    F_modes_by := F27,
    B_modes_by := F27.binds (ps := ["wood", "table"]) fun _ _ _ _ _ _ us hl => match us, hl with | [_, _], _ => rfl,
    M_modes_by := PySem.W.mg_of X G a27,
    F_read_turning := F28,
    B_read_turning := F28.binds (ps := ["wood", "text"]) fun _ _ _ _ _ _ us hl => match us, hl with | [_, _], _ => rfl,
    M_read_turning := PySem.W.mg_of X G a28,
    F__law_cell_at := F29,
    B__law_cell_at := F29.binds (ps := ["_law_script", "_law_k"]) fun _ _ _ _ _ _ us hl => match us, hl with | [_, _], _ => rfl,
    M__law_cell_at := PySem.W.mg_of X G a29,
    F__law_word_by := F30,
    B__law_word_by := F30.binds (ps := ["_law_cell"]) fun _ _ _ _ _ _ us hl => match us, hl with | [_], _ => rfl,
    M__law_word_by := PySem.W.mg_of X G a30,
    F__law_figures := F31,
    B__law_figures := F31.binds (ps := ["_law_number", "_law_lots"]) fun _ _ _ _ _ _ us hl => match us, hl with | [_, _], _ => rfl,
    M__law_figures := PySem.W.mg_of X G a31,
    F__law_letters := F32,
    B__law_letters := F32.binds (ps := ["_law_number", "_law_lots"]) fun _ _ _ _ _ _ us hl => match us, hl with | [_, _], _ => rfl,
    M__law_letters := PySem.W.mg_of X G a32,
    F__law_bad_by := F33,
    B__law_bad_by := F33.binds (ps := ["_law_cell"]) fun _ _ _ _ _ _ us hl => match us, hl with | [_], _ => rfl,
    M__law_bad_by := PySem.W.mg_of X G a33,
    F__law_refused := F34,
    B__law_refused := F34.binds (ps := ["_law_ask", "_law_thing"]) fun _ _ _ _ _ _ us hl => match us, hl with | [_, _], _ => rfl,
    M__law_refused := PySem.W.mg_of X G a34,
    F__law_read := F35,
    B__law_read := F35.binds (ps := ["_law_thing"]) fun _ _ _ _ _ _ us hl => match us, hl with | [_], _ => rfl,
    M__law_read := PySem.W.mg_of X G a35,
    N__law_read := a35,
    F_law := F36,
    B_law := F36.binds (ps := ["_law_script"]) fun _ _ _ _ _ _ us hl => match us, hl with | [_], _ => rfl,
    M_law := PySem.W.mg_of X G a36,
    z_ValueError := PySem.W.mg_none_of X G z_ValueError,
    z_any := PySem.W.mg_none_of X G z_any,
    z_int := PySem.W.mg_none_of X G z_int,
    z_isinstance := PySem.W.mg_none_of X G z_isinstance,
    z_len := PySem.W.mg_none_of X G z_len,
    z_list := PySem.W.mg_none_of X G z_list,
    z_range := PySem.W.mg_none_of X G z_range,
    z_set := PySem.W.mg_none_of X G z_set,
    z_sorted := PySem.W.mg_none_of X G z_sorted,
    z_str := PySem.W.mg_none_of X G z_str,
    z_sum := PySem.W.mg_none_of X G z_sum,
    z_tuple := PySem.W.mg_none_of X G z_tuple,
    z_zip := PySem.W.mg_none_of X G z_zip,
    k_FIGURES := ⟨u_FIGURES, PySem.W.mg_of X G g_FIGURES, r_FIGURES⟩,
    k_LETTERS := ⟨u_LETTERS, PySem.W.mg_of X G g_LETTERS, r_LETTERS⟩,
    k_SIGNS := ⟨u_SIGNS, PySem.W.mg_of X G g_SIGNS, r_SIGNS⟩,
    cn_NoText := e_NoText,
    cg_NoText := PySem.W.mg_of X G e_NoText,
    cx_NoText := ⟨PySem.W.mg_of X G e_NoText, xe_NoText, xk_NoText, xb_NoText, xt_NoText⟩,
    cc_NoText := ⟨y0_NoText, y1_NoText, xb_NoText, xd_NoText, y2_NoText, y3_NoText, y4_NoText, y5_NoText⟩,
    cn_NoWood := e_NoWood,
    cg_NoWood := PySem.W.mg_of X G e_NoWood,
    cx_NoWood := ⟨PySem.W.mg_of X G e_NoWood, xe_NoWood, xk_NoWood, xb_NoWood, xt_NoWood⟩,
    cc_NoWood := ⟨y0_NoWood, y1_NoWood, xb_NoWood, xd_NoWood, y2_NoWood, y3_NoWood, y4_NoWood, y5_NoWood⟩,
    cn_NoTurning := e_NoTurning,
    cg_NoTurning := PySem.W.mg_of X G e_NoTurning,
    cx_NoTurning := ⟨PySem.W.mg_of X G e_NoTurning, xe_NoTurning, xk_NoTurning, xb_NoTurning, xt_NoTurning⟩,
    cc_NoTurning := ⟨y0_NoTurning, y1_NoTurning, xb_NoTurning, xd_NoTurning, y2_NoTurning, y3_NoTurning, y4_NoTurning, y5_NoTurning⟩,
    cg_NoName := PySem.W.mg_of X G e_NoName,
    cg_NoRow := PySem.W.mg_of X G e_NoRow,
    cg_Strays := PySem.W.mg_of X G e_Strays,
    cg_OtherWood := PySem.W.mg_of X G e_OtherWood,
    cg_TooGreat := PySem.W.mg_of X G e_TooGreat,
    cg_NoTree := PySem.W.mg_of X G e_NoTree,
    cg_TurnError := PySem.W.mg_of X G e_TurnError,
    ci_NoText_NoName := kit_ref xd_NoName xt_NoName hci_NoText_NoName xs_NoText,
    ci_NoWood_NoName := kit_ref xd_NoName xt_NoName hci_NoWood_NoName xs_NoWood,
    ci_NoTurning_NoName := kit_ref xd_NoName xt_NoName hci_NoTurning_NoName xs_NoTurning,
    ci_NoText_NoRow := kit_ref xd_NoRow xt_NoRow hci_NoText_NoRow xs_NoText,
    ci_NoWood_NoRow := kit_ref xd_NoRow xt_NoRow hci_NoWood_NoRow xs_NoWood,
    ci_NoTurning_NoRow := kit_ref xd_NoRow xt_NoRow hci_NoTurning_NoRow xs_NoTurning,
    ci_NoText_Strays := kit_ref xd_Strays xt_Strays hci_NoText_Strays xs_NoText,
    ci_NoWood_Strays := kit_ref xd_Strays xt_Strays hci_NoWood_Strays xs_NoWood,
    ci_NoTurning_Strays := kit_ref xd_Strays xt_Strays hci_NoTurning_Strays xs_NoTurning,
    ci_NoText_OtherWood := kit_ref xd_OtherWood xt_OtherWood hci_NoText_OtherWood xs_NoText,
    ci_NoWood_OtherWood := kit_ref xd_OtherWood xt_OtherWood hci_NoWood_OtherWood xs_NoWood,
    ci_NoTurning_OtherWood := kit_ref xd_OtherWood xt_OtherWood hci_NoTurning_OtherWood xs_NoTurning,
    ci_NoText_TooGreat := kit_ref xd_TooGreat xt_TooGreat hci_NoText_TooGreat xs_NoText,
    ci_NoWood_TooGreat := kit_ref xd_TooGreat xt_TooGreat hci_NoWood_TooGreat xs_NoWood,
    ci_NoTurning_TooGreat := kit_ref xd_TooGreat xt_TooGreat hci_NoTurning_TooGreat xs_NoTurning,
    ci_NoText_NoTree := kit_ref xd_NoTree xt_NoTree hci_NoText_NoTree xs_NoText,
    ci_NoWood_NoTree := kit_ref xd_NoTree xt_NoTree hci_NoWood_NoTree xs_NoWood,
    ci_NoTurning_NoTree := kit_ref xd_NoTree xt_NoTree hci_NoTurning_NoTree xs_NoTurning,
    ci_NoText_NoTurning := kit_ref xd_NoTurning xt_NoTurning hci_NoText_NoTurning xs_NoText,
    ci_NoWood_NoTurning := kit_ref xd_NoTurning xt_NoTurning hci_NoWood_NoTurning xs_NoWood,
    ci_NoTurning_NoTurning := kit_ref xd_NoTurning xt_NoTurning hci_NoTurning_NoTurning xs_NoTurning,
    ci_NoText_NoWood := kit_ref xd_NoWood xt_NoWood hci_NoText_NoWood xs_NoText,
    ci_NoWood_NoWood := kit_ref xd_NoWood xt_NoWood hci_NoWood_NoWood xs_NoWood,
    ci_NoTurning_NoWood := kit_ref xd_NoWood xt_NoWood hci_NoTurning_NoWood xs_NoTurning,
    ci_NoText_ValueError := kit_type (by decide +kernel) hci_NoText_ValueError,
    ci_NoWood_ValueError := kit_type (by decide +kernel) hci_NoWood_ValueError,
    ci_NoTurning_ValueError := kit_type (by decide +kernel) hci_NoTurning_ValueError,
    ci_NoText_NoText := kit_ref xd_NoText xt_NoText hci_NoText_NoText xs_NoText,
    ci_NoWood_NoText := kit_ref xd_NoText xt_NoText hci_NoWood_NoText xs_NoWood,
    ci_NoTurning_NoText := kit_ref xd_NoText xt_NoText hci_NoTurning_NoText xs_NoTurning,
    cm_NoTurning_TurnError := PySem.W.exm_ref xb_TurnError xd_TurnError xt_TurnError hcm_NoTurning_TurnError,
    cm_NoWood_TurnError := PySem.W.exm_ref xb_TurnError xd_TurnError xt_TurnError hcm_NoWood_TurnError,
    cm_NoText_TurnError := PySem.W.exm_ref xb_TurnError xd_TurnError xt_TurnError hcm_NoText_TurnError,
    kn_NoName := kit_refN xd_NoName xt_NoName hkn_NoName,
    kn_NoRow := kit_refN xd_NoRow xt_NoRow hkn_NoRow,
    kn_Strays := kit_refN xd_Strays xt_Strays hkn_Strays,
    kn_OtherWood := kit_refN xd_OtherWood xt_OtherWood hkn_OtherWood,
    kn_TooGreat := kit_refN xd_TooGreat xt_TooGreat hkn_TooGreat,
    kn_NoTree := kit_refN xd_NoTree xt_NoTree hkn_NoTree,
    kn_NoTurning := kit_refN xd_NoTurning xt_NoTurning hkn_NoTurning,
    kn_NoWood := kit_refN xd_NoWood xt_NoWood hkn_NoWood,
    kn_ValueError := kit_ty (by decide +kernel),
    kn_NoText := kit_refN xd_NoText xt_NoText hkn_NoText }
  refine ⟨PySem.W.fnOf "law" "law" (defArgs s_law) (defBody s_law) (defScope s_law) .none kV36 dc36 pm36 an36 cd36 ct36, fun s v => .of_eq rfl, fun base _ _ => ?_⟩
  exact (all_fns (P := l.prog) (w := w) (base := base) T L).g_law
end G
set_option Elab.async false
set_option linter.all false
set_option maxRecDepth 100000
set_option maxHeartbeats 4000000
namespace G
open PySem PySem.Spec L2 Mir
theorem take_head {α : Type} {xs ys : List α} : (xs ++ ys)[xs.length]? = ys.head? := by
  rw [List.getElem?_append_right (Nat.le_refl _)]
  simp [List.head?_eq_getElem?]
/-- run_end goes on while the signs are of the wanted ones -/
theorem run_loop (z : Str) (l : List Nat) (hl : l.length ≤ 1000000) (s : Int) : ∀ (a pre rest : List Nat) (n : Nat), l = pre ++ a ++ rest → (∀ c ∈ a, inS c z = true) → (∀ c, rest.head? = some c → inS c z = false) → a.length < n →
    whileN (tAndE (eB (eBin gLt (eVar 3) (eM (eCa gLen (aCons (eVar 0) aNil)) viewD)) asB) (eB (eBin gIn (eBin gIx (eVar 0) (eVar 3)) (eVar 2)) asB)) (sAug gAddA 3 (eC (.int 1))) n
      [some (.d (.str (tx l))), some (.d (.int s)), some (.d (.str z)), some (.d (.int (pre.length : Nat)))] = .nx [some (.d (.str (tx l))), some (.d (.int s)), some (.d (.str z)), some (.d (.int ((pre.length + a.length : Nat) : Int)))]
  | a, pre, rest, 0, _, _, _, h => by omega
  | [], pre, rest, n + 1, e, ha, hr, h => by
    have gl := gLen_tx l (by omega)
    unfold whileN
    cases rest with
    | nil =>
      have : l.length = pre.length := by rw [e]; simp
      simp [gl, this]
    | cons c rest =>
      have hc : l[pre.length]? = some c := by rw [e, List.append_nil, take_head]; rfl
      have hlt : pre.length < l.length := (List.getElem?_eq_some_iff.mp hc).1
      have ix := gIx_tx hc (by omega)
      have no := hr c rfl
      simp [gl, hlt, ix, gIn_tx, no]
  | c :: a, pre, rest, n + 1, e, ha, hr, h => by
    have gl := gLen_tx l (by omega)
    have hc : l[pre.length]? = some c := by rw [e, List.append_assoc, take_head]; rfl
    have hlt : pre.length < l.length := (List.getElem?_eq_some_iff.mp hc).1
    have ix := gIx_tx hc (by omega)
    have yes := ha c List.mem_cons_self
    have ih := run_loop z l hl s a (pre ++ [c]) rest n (by rw [e]; simp) (fun d hd => ha d (List.mem_cons_of_mem _ hd)) hr (by simp at h; omega)
    have e1 : (pre ++ [c]).length + a.length = pre.length + (c :: a).length := by simp; omega
    rw [e1] at ih
    have e2 : ((pre ++ [c]).length : Int) = (pre.length : Int) + 1 := by simp
    rw [e2] at ih
    unfold whileN
    simp [gl, hlt, ix, gIn_tx, yes] at ih ⊢
    exact ih
theorem run_end_ok (n : Nat) (z : Str) (l pre a rest : List Nat) (e : l = pre ++ a ++ rest) (hl : l.length ≤ 900000) (ha : ∀ c ∈ a, inS c z = true) (hr : ∀ c, rest.head? = some c → inS c z = false) :
    mir (n + 1) 0 [.str (tx l), .int (pre.length : Nat), .str z] = .ok (.d (.int ((pre.length + a.length : Nat) : Int))) := by
  rw [mir_run_end, run_run_end]
  have := run_loop z l (by omega) (pre.length : Nat) a pre rest 1000000 e ha hr (by have := congrArg List.length e; simp at this; omega)
  generalize (1000000 : Nat) = big at *
  simp [this]
/-- a word -/
def Wd (w : List Nat) : Prop := (∃ c, c ∈ sigs ∧ w = [c]) ∨ (w ≠ [] ∧ (∀ c ∈ w, isL c = true) ∧ w.length ≤ 8) ∨ (∃ c r, w = c :: r ∧ (∀ x ∈ w, isF x = true) ∧ w.length ≤ 60 ∧ (c = 48 → r = [])) ∨
  ∃ c r, w = 45 :: c :: r ∧ (∀ x ∈ c :: r, isF x = true) ∧ (c :: r).length ≤ 60 ∧ c ≠ 48
/-- what may follow it -/
def Fol (w rest : List Nat) : Prop := ∀ p x c, w = p ++ [x] → rest.head? = some c → (isL x = true → isL c = false) ∧ (isF x = true → isF c = false)
theorem wd_ne {w : List Nat} (h : Wd w) : w ≠ [] := by
  rcases h with ⟨c, _, rfl⟩ | ⟨h, _⟩ | ⟨c, r, rfl, _⟩ | ⟨c, r, rfl, _⟩ <;> simp_all
theorem isL_sig {c : Nat} (h : isL c = true) : c ∉ sigs ∧ isF c = false ∧ c ≠ 45 ∧ c ≠ 32 := by
  unfold isL at h
  simp only [Bool.and_eq_true, decide_eq_true_eq] at h
  refine ⟨fun z => ?_, ?_, by omega, by omega⟩
  · simp [sigs] at z; omega
  · unfold isF
    have : ¬ c ≤ 57 := by omega
    simp [this]
theorem isF_sig {c : Nat} (h : isF c = true) : c ∉ sigs ∧ isL c = false ∧ c ≠ 45 ∧ c ≠ 32 := by
  unfold isF at h
  simp only [Bool.and_eq_true, decide_eq_true_eq] at h
  refine ⟨fun z => ?_, ?_, by omega, by omega⟩
  · simp [sigs] at z; omega
  · unfold isL
    have : ¬ 97 ≤ c := by omega
    simp [this]
theorem gInt_bool (b : Bool) : gInt [.bool b] = some (.d (.int (if b then 1 else 0))) := rfl
theorem word_end_ok (n : Nat) (l pre w rest : List Nat) (hL : l = pre ++ w ++ rest) (hw : Wd w) (hf : Fol w rest) (hl : l.length ≤ 900000) :
    mir (n + 2) 1 [.str (tx l), .int (pre.length : Nat)] = .ok (.d (.int ((pre.length + w.length : Nat) : Int))) := by
  have hne := wd_ne hw
  obtain ⟨c0, w0, hw0⟩ : ∃ c0 w0, w = c0 :: w0 := by
    cases w with
    | nil => exact absurd rfl hne
    | cons c r => exact ⟨c, r, rfl⟩
  have hc : l[pre.length]? = some c0 := by rw [hL, List.append_assoc, take_head, hw0]; rfl
  have ix := gIx_tx hc (by omega)
  rw [mir_word_end, run_word_end]
  obtain ⟨p, x, hx⟩ : ∃ p x, w = p ++ [x] := by
    rcases List.eq_nil_or_concat w with e | ⟨p, x, e⟩
    · exact absurd e hne
    · exact ⟨p, x, by rw [e, List.concat_eq_append]⟩
  have xin : x ∈ w := by rw [hx]; simp
  have noL : isL c0 = false → mir (n + 1) 0 [.str (tx l), .int (pre.length : Nat), .str abc] = .ok (.d (.int ((pre.length : Nat) : Int))) := fun h => by
    have := run_end_ok n abc l pre [] (w ++ rest) (by rw [hL]; simp) hl (fun c h => by cases h) (fun c hc => by
      rw [hw0] at hc
      cases hc
      rw [inS_abc, h])
    simpa using this
  rcases hw with ⟨c, hs, rfl⟩ | ⟨_, hall, h8⟩ | ⟨c, r, rfl, hall, h60, h0⟩ | ⟨c, r, rfl, hall, h60, h0⟩
  · cases hw0
    have : inS c0 (Str.ofString "();:=|*") = true := by rw [inS_sigs]; exact decide_eq_true hs
    simp [ix, gIn_tx, this]
  · have hL0 := hall c0 (by rw [hw0]; exact List.mem_cons_self)
    have re := run_end_ok n abc l pre w rest hL hl (fun c hc => by rw [inS_abc]; exact hall c hc) (fun c hc => by
      rw [inS_abc, (hf p x c hx hc).1 (hall x xin)])
    have ns : inS c0 (Str.ofString "();:=|*") = false := by rw [inS_sigs]; exact decide_eq_false (isL_sig hL0).1
    have w1 : 0 < w.length := List.length_pos_iff.mpr hne
    have a1 : (pre.length : Int) < (pre.length : Int) + (w.length : Int) := by omega
    have a2 : ¬ (8 : Int) < (pre.length : Int) + (w.length : Int) - (pre.length : Int) := by omega
    simp only [Int.natCast_add] at re ⊢
    simp [ix, gIn_tx, ns, re, w1, a1, a2]
  · have hF0 := hall c List.mem_cons_self
    obtain ⟨q1, _⟩ := List.cons.inj hw0
    subst q1
    have re := run_end_ok n figs l pre (c :: r) rest hL hl (fun c hc => by rw [inS_figs]; exact hall c hc) (fun y hy => by
      rw [inS_figs, (hf p x y hx hy).2 (hall x xin)])
    have ns : inS c (Str.ofString "();:=|*") = false := by rw [inS_sigs]; exact decide_eq_false (isF_sig hF0).1
    have rl := noL (isF_sig hF0).2.1
    have nm : ¬ c = 45 := (isF_sig hF0).2.2.1
    obtain ⟨W, hW⟩ : ∃ W, W = (c :: r).length := ⟨_, rfl⟩
    have hW1 : 1 ≤ W := by rw [hW]; simp
    have h48 : c = 48 → W = 1 := fun h => by rw [hW, h0 h]; rfl
    rw [← hW] at re h60 ⊢
    have a1 : ¬ (60 : Int) < (pre.length : Int) + (W : Int) - (pre.length : Int) := by omega
    have a2 : ¬ (pre.length : Int) + (W : Int) = (pre.length : Int) := by omega
    simp only [Int.natCast_add] at re ⊢
    by_cases h : c = 48
    · have := h48 h
      subst this
      subst h
      have a3 : ¬ (1 : Int) < (pre.length : Int) + 1 - (pre.length : Int) := by omega
      simp only [Int.natCast_one] at re a1 a2 ⊢
      simp [ix, gIn_tx, ns, rl, minus_is, nought_is, gEq_tx, nm, gInt_bool, re, a1, a2, a3]
    · simp [ix, gIn_tx, ns, rl, minus_is, nought_is, gEq_tx, nm, gInt_bool, re, a1, a2, h]
  · obtain ⟨q1, _⟩ := List.cons.inj hw0
    subst q1
    have hF0 := hall c List.mem_cons_self
    have hc1 : l[pre.length + 1]? = some c := by
      rw [hL]
      have : (pre ++ [45]).length = pre.length + 1 := by simp
      rw [← this, show pre ++ 45 :: c :: r ++ rest = (pre ++ [45]) ++ (c :: r ++ rest) by simp, take_head]
      rfl
    have ix1 := gIx_tx hc1 (by omega)
    have xr : ∃ p', c :: r = p' ++ [x] := by
      cases p with
      | nil => simp at hx
      | cons q p =>
        rw [List.cons_append] at hx
        exact ⟨p, (List.cons.inj hx).2⟩
    obtain ⟨p', hx'⟩ := xr
    have xin' : x ∈ c :: r := by rw [hx']; simp
    have re := run_end_ok n figs l (pre ++ [45]) (c :: r) rest (by rw [hL]; simp) hl (fun c hc => by rw [inS_figs]; exact hall c hc) (fun y hy => by
      rw [inS_figs, (hf p x y hx hy).2 (hall x xin')])
    have ns : inS 45 (Str.ofString "();:=|*") = false := by rw [inS_sigs]; decide
    have rl := noL (by decide)
    obtain ⟨W, hW⟩ : ∃ W, W = (c :: r).length := ⟨_, rfl⟩
    have hW1 : 1 ≤ W := by rw [hW]; simp
    have hW2 : (45 :: c :: r).length = W + 1 := by rw [hW]; rfl
    rw [← hW] at re h60
    rw [hW2]
    have e2 : ((pre ++ [45]).length : Int) = (pre.length : Int) + 1 := by simp
    have e3 : (((pre ++ [45]).length + W : Nat) : Int) = (pre.length : Int) + 1 + (W : Int) := by simp
    rw [e2, e3] at re
    have a1 : ¬ (60 : Int) < (pre.length : Int) + 1 + (W : Int) - ((pre.length : Int) + 1) := by omega
    have a2 : ¬ (pre.length : Int) + 1 + (W : Int) = (pre.length : Int) + 1 := by omega
    have e4 : ((pre.length + (W + 1) : Nat) : Int) = (pre.length : Int) + 1 + (W : Int) := by omega
    have ix1' : gIx (.str (tx l)) (.int ((pre.length : Int) + 1)) = some (.str (tx [c])) := ix1
    rw [e4]
    simp [ix, gIn_tx, ns, rl, minus_is, nought_is, gEq_tx, gInt_bool, re, a1, a2, ix1', h0]
def build : List (Nat × List Nat) → Nat → List Nat
  | [], t => List.replicate t 32
  | (b, w) :: r, t => List.replicate b 32 ++ (w ++ build r t)
def Good : List (Nat × List Nat) → Nat → Prop
  | [], _ => True
  | (_, w) :: r, t => Wd w ∧ Fol w (build r t) ∧ Good r t
abbrev wc : Ev → R Bool := (eB (eBin gLt (eVar 2) (eM (eCa gLen (aCons (eVar 0) aNil)) viewD)) asB)
abbrev wb (m : Nat → List PyData → R Ow) : Ev → SR := (sSeq (sIf (eB (eBin gEq (eBin gIx (eVar 0) (eVar 2)) (eC (.str " "))) asB)
    (sSeq (sAug gAddA 2 (eC (.int 1)))
    sCont)
    sSkip)
    (sSeq (sSet 3 (eM (eM (eB (aCons (eVar 0) (aCons (eVar 2) aNil)) (m 1)) viewD) Ow.d))
    (sSeq (sApp 1 (eSl (eVar 0) (eB (eVar 2) asI) (eB (eVar 3) asI)))
    (sSet 2 (eM (eVar 3) Ow.d)))))
theorem w_end (m : Nat → List PyData → R Ow) (l : List Nat) (hl : l.length ≤ 900000) (fs : List Ow) (x : Option Ow) (n : Nat) :
    whileN wc (wb m) (n + 1) [some (.d (.str (tx l))), some (.l fs), some (.d (.int (l.length : Nat))), x] = .nx [some (.d (.str (tx l))), some (.l fs), some (.d (.int (l.length : Nat))), x] := by
  have gl := gLen_tx l (by omega)
  unfold whileN
  simp [gl]
theorem w_blank (m : Nat → List PyData → R Ow) (l : List Nat) (hl : l.length ≤ 900000) (fs : List Ow) (x : Option Ow) (n h : Nat) (hc : l[h]? = some 32) :
    whileN wc (wb m) (n + 1) [some (.d (.str (tx l))), some (.l fs), some (.d (.int (h : Nat))), x] = whileN wc (wb m) n [some (.d (.str (tx l))), some (.l fs), some (.d (.int ((h + 1 : Nat) : Int))), x] := by
  have gl := gLen_tx l (by omega)
  have hlt : h < l.length := (List.getElem?_eq_some_iff.mp hc).1
  have ix := gIx_tx hc (by omega)
  have c1 : wc [some (.d (.str (tx l))), some (.l fs), some (.d (.int (h : Nat))), x] = .ok true := by simp [gl, hlt]
  have c2 : wb m [some (.d (.str (tx l))), some (.l fs), some (.d (.int (h : Nat))), x] = .ct [some (.d (.str (tx l))), some (.l fs), some (.d (.int ((h + 1 : Nat) : Int))), x] := by
    simp [ix, sp_is, gEq_tx, sCont]
  rw [whileN, c1, R.st_ok, if_pos rfl, c2]
theorem w_word (n0 : Nat) (l pre w rest : List Nat) (e : l = pre ++ w ++ rest) (hw : Wd w) (hf : Fol w rest) (hl : l.length ≤ 900000) (fs : List Ow) (hfs : fs.length < 16777216) (x : Option Ow) (n : Nat) :
    whileN wc (wb (mir (n0 + 2))) (n + 1) [some (.d (.str (tx l))), some (.l fs), some (.d (.int (pre.length : Nat))), x] =
    whileN wc (wb (mir (n0 + 2))) n [some (.d (.str (tx l))), some (.l (fs ++ [.d (.str (tx w))])), some (.d (.int ((pre.length + w.length : Nat) : Int))), some (.d (.int ((pre.length + w.length : Nat) : Int)))] := by
  have gl := gLen_tx l (by omega)
  have hne := wd_ne hw
  obtain ⟨c0, w0, hw0⟩ : ∃ c0 w0, w = c0 :: w0 := by
    cases w with
    | nil => exact absurd rfl hne
    | cons c r => exact ⟨c, r, rfl⟩
  have hc : l[pre.length]? = some c0 := by rw [e, List.append_assoc, take_head, hw0]; rfl
  have hlt : pre.length < l.length := (List.getElem?_eq_some_iff.mp hc).1
  have ix := gIx_tx hc (by omega)
  have n32 : ¬ c0 = 32 := by
    have hin : c0 ∈ w := by rw [hw0]; exact List.mem_cons_self
    rcases hw with ⟨c, hs, rfl⟩ | ⟨_, hall, _⟩ | ⟨c, r, rfl, hall, _⟩ | ⟨c, r, rfl, hall, _⟩
    · have : c0 = c := (List.cons.inj hw0).1.symm
      subst this
      intro z; subst z
      simp [sigs] at hs
    · exact (isL_sig (hall c0 hin)).2.2.2
    · exact (isF_sig (hall c0 hin)).2.2.2
    · have : c0 = 45 := (List.cons.inj hw0).1.symm
      omega
  have we := word_end_ok n0 l pre w rest e hw hf hl
  have hlen : pre.length + w.length ≤ l.length := by rw [e]; simp
  have sl := gSl_tx (l := l) hlen (Nat.le_add_right _ _) (by omega)
  have cut : (l.drop pre.length).take (pre.length + w.length - pre.length) = w := by
    subst e
    simp
  rw [cut] at sl
  have c1 : wc [some (.d (.str (tx l))), some (.l fs), some (.d (.int (pre.length : Nat))), x] = .ok true := by simp [gl, hlt]
  obtain ⟨E, hE⟩ : ∃ E : Nat, E = pre.length + w.length := ⟨_, rfl⟩
  rw [← hE] at we sl ⊢
  have c2 : wb (mir (n0 + 2)) [some (.d (.str (tx l))), some (.l fs), some (.d (.int (pre.length : Nat))), x] = .nx [some (.d (.str (tx l))), some (.l (fs ++ [.d (.str (tx w))])), some (.d (.int (E : Int))), some (.d (.int (E : Int)))] := by
    simp [ix, sp_is, gEq_tx, n32, we, sl, sizeLine_eq, hfs]
  rw [whileN, c1, R.st_ok, if_pos rfl, c2]
theorem w_blanks (m : Nat → List PyData → R Ow) (l : List Nat) (hl : l.length ≤ 900000) (fs : List Ow) (x : Option Ow) : ∀ (b n : Nat) (pre rest : List Nat), l = pre ++ (List.replicate b 32 ++ rest) →
    whileN wc (wb m) (n + b) [some (.d (.str (tx l))), some (.l fs), some (.d (.int (pre.length : Nat))), x] = whileN wc (wb m) n [some (.d (.str (tx l))), some (.l fs), some (.d (.int ((pre.length + b : Nat) : Int))), x]
  | 0, n, pre, rest, e => rfl
  | b + 1, n, pre, rest, e => by
    have hc : l[pre.length]? = some 32 := by rw [e, take_head, List.replicate_succ]; rfl
    rw [← Nat.add_assoc, w_blank m l hl fs x (n + b) pre.length hc]
    have ih := w_blanks m l hl fs x b n (pre ++ [32]) rest (by rw [e, List.replicate_succ]; simp)
    have e1 : (pre ++ [32]).length = pre.length + 1 := by simp
    rw [e1, Nat.add_assoc, Nat.add_comm 1 b] at ih
    exact ih
theorem w_all (n0 : Nat) (l : List Nat) (hl : l.length ≤ 900000) (t : Nat) : ∀ (segs : List (Nat × List Nat)) (pre : List Nat) (fs : List Ow) (x : Option Ow) (n : Nat), l = pre ++ build segs t → Good segs t → fs.length + segs.length ≤ 900000 → (build segs t).length < n →
    ∃ y, whileN wc (wb (mir (n0 + 2))) n [some (.d (.str (tx l))), some (.l fs), some (.d (.int (pre.length : Nat))), x] = .nx [some (.d (.str (tx l))), some (.l (fs ++ segs.map fun s => .d (.str (tx s.2)))), some (.d (.int (l.length : Nat))), y]
  | [], pre, fs, x, n, e, _, _, hn => by
    have hb : (build [] t).length = t := by simp [build]
    obtain ⟨k, rfl⟩ : ∃ k, n = k + 1 + t := ⟨n - 1 - t, by omega⟩
    have e' : l = pre ++ (List.replicate t 32 ++ []) := by rw [e]; simp [build]
    rw [w_blanks (mir (n0 + 2)) l hl fs x t (k + 1) pre [] e']
    have el : pre.length + t = l.length := by rw [e']; simp
    rw [el, w_end _ l hl]
    exact ⟨x, by simp⟩
  | (b, w) :: segs, pre, fs, x, n, e, hg, hfs, hn => by
    obtain ⟨g1, g2, g3⟩ := hg
    have w1 : 0 < w.length := List.length_pos_iff.mpr (wd_ne g1)
    have hb : (build ((b, w) :: segs) t).length = b + (w.length + (build segs t).length) := by simp [build]
    obtain ⟨k, rfl⟩ : ∃ k, n = k + 1 + b := ⟨n - 1 - b, by omega⟩
    have e' : l = pre ++ (List.replicate b 32 ++ (w ++ build segs t)) := e
    rw [w_blanks (mir (n0 + 2)) l hl fs x b (k + 1) pre _ e']
    have e2 : l = (pre ++ List.replicate b 32) ++ w ++ build segs t := by rw [e']; simp
    have e3 : (pre ++ List.replicate b 32).length = pre.length + b := by simp
    rw [← e3, w_word n0 l _ w _ e2 g1 g2 hl fs (by simp at hfs; omega)]
    obtain ⟨y, ih⟩ := w_all n0 l hl t segs ((pre ++ List.replicate b 32) ++ w) (fs ++ [.d (.str (tx w))]) (some (.d (.int (((pre ++ List.replicate b 32).length + w.length : Nat) : Int)))) k e2 g3 (by simp at hfs ⊢; omega) (by omega)
    have e4 : ((pre ++ List.replicate b 32) ++ w).length = (pre ++ List.replicate b 32).length + w.length := List.length_append
    rw [e4] at ih
    exact ⟨y, by rw [ih]; simp⟩
theorem words_ok (n0 : Nat) (segs : List (Nat × List Nat)) (t : Nat) (hg : Good segs t) (hs : segs.length ≤ 1000) (hl : (build segs t).length ≤ 900000) :
    mir (n0 + 3) 2 [.str (tx (build segs t))] = .ok (.l (segs.map fun s => .d (.str (tx s.2)))) := by
  rw [mir_words, run_words]
  obtain ⟨l, hL⟩ : ∃ l, l = build segs t := ⟨_, rfl⟩
  rw [← hL] at hl ⊢
  obtain ⟨y, h⟩ := w_all n0 l hl t segs [] [] none 1000000 hL hg (by simp; omega) (by rw [← hL]; omega)
  have isi : gIsiW "str" (.str (tx l)) = .ok (.bool true) := rfl
  simp only [List.length_nil, List.nil_append] at h
  have h' : whileN wc (wb (mir (n0 + 2))) 1000000 [some (.d (.str (tx l))), some (.l []), some (.d (.int 0)), none] = .nx [some (.d (.str (tx l))), some (.l (segs.map fun s => .d (.str (tx s.2)))), some (.d (.int (l.length : Nat))), y] := h
  generalize (1000000 : Nat) = big at *
  unfold wc wb at h'
  simp [isi, sizeLine_eq, sRetV, h']
end G
set_option Elab.async false
set_option linter.all false
set_option maxRecDepth 100000
set_option maxHeartbeats 4000000
namespace G
open PySem PySem.Spec L2 Mir
theorem build_one (g : Nat) (w : List Nat) (r : List (Nat × List Nat)) (t : Nat) : build ((g, w) :: r) t = List.replicate g 32 ++ (w ++ build r t) := rfl
def notL (l : List Nat) : Prop := ∀ c, l.head? = some c → isL c = false
def calmT (l : List Nat) : Prop := ∀ c, l.head? = some c → isL c = false ∧ isF c = false
theorem calmT.nl {l : List Nat} (h : calmT l) : notL l := fun c hc => (h c hc).1
theorem fol_calmT {w l : List Nat} (h : calmT l) : Fol w l := fun p x c _ hc => ⟨fun _ => (h c hc).1, fun _ => (h c hc).2⟩
theorem wd_numT {n : Nat} (h : n < 10 ^ 60) : Wd (TL.numL n) := by
  refine .inr (.inr (.inl ?_))
  have hl := TL.numL_len (n := n) (k := 60) (by decide) h
  have hf := numL_isF n
  by_cases z : n = 0
  · subst z
    rw [numL_zero] at hf hl ⊢
    exact ⟨48, [], rfl, hf, hl, fun _ => rfl⟩
  · obtain ⟨c, r, e, ne⟩ := numL_head n (by omega)
    exact ⟨c, r, e, hf, hl, fun z => absurd z ne⟩
theorem wd_ikT {k : Int} (h : k.natAbs < 10 ^ 60) : Wd (ik k) := by
  cases k with
  | ofNat n => exact wd_numT h
  | negSucc n =>
    have h : n + 1 < 10 ^ 60 := h
    refine .inr (.inr (.inr ?_))
    have hl := TL.numL_len (n := n + 1) (k := 60) (by decide) h
    have hf := numL_isF (n + 1)
    obtain ⟨c, r, e, ne⟩ := numL_head (n + 1) (by omega)
    rw [e] at hf hl
    exact ⟨c, r, by show 45 :: TL.numL (n + 1) = _; rw [e], hf, hl, ne⟩
end G
set_option Elab.async false
set_option linter.all false
set_option maxRecDepth 100000
set_option maxHeartbeats 4000000
namespace G
open PySem PySem.Spec L2 Mir
/-- what no word begins: a sign that no word has; a - without a figure; too many letters; too many figures; a 0 ahead -/
inductive BadW : List Nat → List Nat → Prop
  | sign (c : Nat) (rest : List Nat) : c ∉ sigs → isL c = false → isF c = false → c ≠ 45 → c ≠ 32 → BadW [c] rest
  | minus (r rest : List Nat) : (∀ c, (r ++ rest).head? = some c → isF c = false) → BadW (45 :: r) rest
  | long (w rest : List Nat) : (∀ c ∈ w, isL c = true) → 8 < w.length → (∀ c, rest.head? = some c → isL c = false) → BadW w rest
  | figs (s F rest : List Nat) : s = [] ∨ s = [45] → F ≠ [] → (∀ c ∈ F, isF c = true) → (∀ c, rest.head? = some c → isF c = false) → 60 < F.length ∨ (F.head? = some 48 ∧ (1 < F.length ∨ s = [45])) → BadW (s ++ F) rest
theorem bad_head {B rest : List Nat} (h : BadW B rest) : ∃ c r, B = c :: r ∧ c ≠ 32 := by
  cases h with
  | sign c rest h1 h2 h3 h4 h5 => exact ⟨c, [], rfl, h5⟩
  | minus r rest h => exact ⟨45, r, rfl, by decide⟩
  | long w rest h1 h2 h3 =>
    cases B with
    | nil => simp at h2
    | cons c r => exact ⟨c, r, rfl, (isL_sig (h1 c List.mem_cons_self)).2.2.2⟩
  | figs s F rest hs hF hall hr hb =>
    rcases hs with rfl | rfl
    · cases F with
      | nil => exact absurd rfl hF
      | cons c r => exact ⟨c, r, rfl, (isF_sig (hall c List.mem_cons_self)).2.2.2⟩
    · exact ⟨45, F, rfl, by decide⟩
theorem word_end_bad (n : Nat) (l pre B rest : List Nat) (hL : l = pre ++ B ++ rest) (hb : BadW B rest) (hl : l.length ≤ 900000) : mir (n + 2) 1 [.str (tx l), .int (pre.length : Nat)] = .ex "NoText" := by
  obtain ⟨c0, w0, hw0, _⟩ := bad_head hb
  have hc : l[pre.length]? = some c0 := by rw [hL, List.append_assoc, take_head, hw0]; rfl
  have ix := gIx_tx hc (by omega)
  rw [mir_word_end, run_word_end]
  have noL : isL c0 = false → mir (n + 1) 0 [.str (tx l), .int (pre.length : Nat), .str abc] = .ok (.d (.int ((pre.length : Nat) : Int))) := fun h => by
    have := run_end_ok n abc l pre [] (B ++ rest) (by rw [hL]; simp) hl (fun c h => by cases h) (fun c hc => by
      rw [hw0] at hc
      cases hc
      rw [inS_abc, h])
    simpa using this
  cases hb with
  | sign c rest h1 h2 h3 h4 h5 =>
    have q1 : c = c0 := (List.cons.inj hw0).1
    subst q1
    have ns : inS c (Str.ofString "();:=|*") = false := by rw [inS_sigs]; exact decide_eq_false h1
    have rl := noL h2
    have rf := run_end_ok n figs l pre [] ([c] ++ rest) (by rw [hL]; simp) hl (fun c h => by cases h) (fun y hy => by
      have : c = y := by simpa using hy
      rw [← this, inS_figs, h3])
    have rf : mir (n + 1) 0 [.str (tx l), .int (pre.length : Nat), .str figs] = .ok (.d (.int ((pre.length : Nat) : Int))) := by simpa using rf
    simp [ix, gIn_tx, ns, rl, minus_is, gEq_tx, h4, gInt_bool, rf]
  | minus r rest h =>
    have q1 : 45 = c0 := (List.cons.inj hw0).1
    subst q1
    have ns : inS 45 (Str.ofString "();:=|*") = false := by rw [inS_sigs]; decide
    have rl := noL (by decide)
    have rf := run_end_ok n figs l (pre ++ [45]) [] (r ++ rest) (by rw [hL]; simp) hl (fun c h => by cases h) (fun y hy => by rw [inS_figs]; exact h y hy)
    have e2 : ((pre ++ [45]).length : Int) = (pre.length : Int) + 1 := by simp
    have e3 : (((pre ++ [45]).length + ([] : List Nat).length : Nat) : Int) = (pre.length : Int) + 1 := by simp
    rw [e2, e3] at rf
    simp [ix, gIn_tx, ns, rl, minus_is, gEq_tx, gInt_bool, rf]
  | long w rest h1 h2 h3 =>
    have hL0 := h1 c0 (by rw [hw0]; exact List.mem_cons_self)
    have re := run_end_ok n abc l pre B rest hL hl (fun c hc => by rw [inS_abc]; exact h1 c hc) (fun c hc => by rw [inS_abc]; exact h3 c hc)
    have ns : inS c0 (Str.ofString "();:=|*") = false := by rw [inS_sigs]; exact decide_eq_false (isL_sig hL0).1
    have a1 : (pre.length : Int) < (pre.length : Int) + (B.length : Int) := by omega
    have a2 : (8 : Int) < (pre.length : Int) + (B.length : Int) - (pre.length : Int) := by omega
    have w1 : 0 < B.length := by omega
    simp only [Int.natCast_add] at re
    simp [ix, gIn_tx, ns, re, w1, a1, a2]
  | figs s F rest hs hF hall hr hb =>
    obtain ⟨f0, F', hF0⟩ : ∃ f0 F', F = f0 :: F' := by
      cases F with
      | nil => exact absurd rfl hF
      | cons c r => exact ⟨c, r, rfl⟩
    have hFf := hall f0 (by rw [hF0]; exact List.mem_cons_self)
    obtain ⟨Wn, hW⟩ : ∃ W, W = F.length := ⟨_, rfl⟩
    have hW1 : 1 ≤ Wn := by rw [hW, hF0]; simp
    rw [← hW] at hb
    have h48 : F.head? = some f0 := by rw [hF0]; rfl
    rw [h48] at hb
    rcases hs with rfl | rfl
    · have q1 : f0 = c0 := by rw [hF0] at hw0; exact (List.cons.inj hw0).1
      subst q1
      have re := run_end_ok n figs l pre F rest (by rw [hL]; simp) hl (fun c hc => by rw [inS_figs]; exact hall c hc) (fun y hy => by rw [inS_figs]; exact hr y hy)
      have ns : inS f0 (Str.ofString "();:=|*") = false := by rw [inS_sigs]; exact decide_eq_false (isF_sig hFf).1
      have rl := noL (isF_sig hFf).2.1
      have nm : ¬ f0 = 45 := (isF_sig hFf).2.2.1
      rw [← hW] at re
      have a2 : ¬ (pre.length : Int) + (Wn : Int) = (pre.length : Int) := by omega
      simp only [Int.natCast_add] at re
      by_cases g : 60 < Wn
      · have a1 : (60 : Int) < (pre.length : Int) + (Wn : Int) - (pre.length : Int) := by omega
        simp [ix, gIn_tx, ns, rl, minus_is, nought_is, gEq_tx, nm, gInt_bool, re, a1, a2]
      · have hb : some f0 = some 48 ∧ (1 < Wn ∨ ([] : List Nat) = [45]) := by
          rcases hb with h | h
          · exact absurd h g
          · exact h
        have f48 : f0 = 48 := Option.some.inj hb.1
        have w2 : 1 < Wn := by
          rcases hb.2 with h | h
          · exact h
          · cases h
        have a1 : ¬ (60 : Int) < (pre.length : Int) + (Wn : Int) - (pre.length : Int) := by omega
        have a3 : (1 : Int) < (pre.length : Int) + (Wn : Int) - (pre.length : Int) := by omega
        subst f48
        simp [ix, gIn_tx, ns, rl, minus_is, nought_is, gEq_tx, gInt_bool, re, a1, a2, a3]
    · have q1 : 45 = c0 := (List.cons.inj hw0).1
      subst q1
      have hc1 : l[pre.length + 1]? = some f0 := by
        rw [hL, hF0]
        have : (pre ++ [45]).length = pre.length + 1 := by simp
        rw [← this, show pre ++ ([45] ++ f0 :: F') ++ rest = (pre ++ [45]) ++ (f0 :: F' ++ rest) by simp, take_head]
        rfl
      have ix1 := gIx_tx hc1 (by omega)
      have ix1' : gIx (.str (tx l)) (.int ((pre.length : Int) + 1)) = some (.str (tx [f0])) := ix1
      have re := run_end_ok n figs l (pre ++ [45]) F rest (by rw [hL]; simp) hl (fun c hc => by rw [inS_figs]; exact hall c hc) (fun y hy => by rw [inS_figs]; exact hr y hy)
      have ns : inS 45 (Str.ofString "();:=|*") = false := by rw [inS_sigs]; decide
      have rl := noL (by decide)
      rw [← hW] at re
      have e2 : ((pre ++ [45]).length : Int) = (pre.length : Int) + 1 := by simp
      have e3 : (((pre ++ [45]).length + Wn : Nat) : Int) = (pre.length : Int) + 1 + (Wn : Int) := by simp
      rw [e2, e3] at re
      have a2 : ¬ (pre.length : Int) + 1 + (Wn : Int) = (pre.length : Int) + 1 := by omega
      by_cases g : 60 < Wn
      · have a1 : (60 : Int) < (pre.length : Int) + 1 + (Wn : Int) - ((pre.length : Int) + 1) := by omega
        simp [ix, gIn_tx, ns, rl, minus_is, nought_is, gEq_tx, gInt_bool, re, a1, a2]
      · have f48 : f0 = 48 := by
          rcases hb with h | h
          · exact absurd h g
          · exact Option.some.inj h.1
        have a1 : ¬ (60 : Int) < (pre.length : Int) + 1 + (Wn : Int) - ((pre.length : Int) + 1) := by omega
        have a3 : (pre.length : Int) < (pre.length : Int) + 1 := by omega
        subst f48
        by_cases w2 : (1 : Int) < (pre.length : Int) + 1 + (Wn : Int) - ((pre.length : Int) + 1)
        · simp [ix, gIn_tx, ns, rl, minus_is, nought_is, gEq_tx, gInt_bool, re, a1, a2, ix1', w2]
        · simp [ix, gIn_tx, ns, rl, minus_is, nought_is, gEq_tx, gInt_bool, re, a1, a2, ix1', w2, a3]
def GoodT : List (Nat × List Nat) → List Nat → Prop
  | [], _ => True
  | (_, w) :: r, tail => Wd w ∧ Fol w (build r 0 ++ tail) ∧ GoodT r tail
theorem w_pre (n0 : Nat) (l tail : List Nat) (hl : l.length ≤ 900000) : ∀ (segs : List (Nat × List Nat)) (pre : List Nat) (fs : List Ow) (x : Option Ow) (m : Nat), l = pre ++ (build segs 0 ++ tail) → GoodT segs tail → fs.length + segs.length ≤ 900000 →
    ∃ m' y, m ≤ m' ∧ whileN wc (wb (mir (n0 + 2))) (m + (build segs 0).length) [some (.d (.str (tx l))), some (.l fs), some (.d (.int (pre.length : Nat))), x] = whileN wc (wb (mir (n0 + 2))) m' [some (.d (.str (tx l))), some (.l (fs ++ segs.map fun s => .d (.str (tx s.2)))), some (.d (.int ((pre ++ build segs 0).length : Nat))), y]
  | [], pre, fs, x, m, e, _, _ => ⟨m, x, Nat.le_refl _, by simp [build]⟩
  | (b, w) :: segs, pre, fs, x, m, e, hg, hfs => by
    obtain ⟨g1, g2, g3⟩ := hg
    have w1 : 0 < w.length := List.length_pos_iff.mpr (wd_ne g1)
    have hb : (build ((b, w) :: segs) 0).length = b + (w.length + (build segs 0).length) := by simp [build]
    have e' : l = pre ++ (List.replicate b 32 ++ (w ++ (build segs 0 ++ tail))) := by rw [e]; simp [build]
    have f1 : m + (build ((b, w) :: segs) 0).length = ((m + (w.length - 1)) + (build segs 0).length) + 1 + b := by omega
    rw [f1, w_blanks (mir (n0 + 2)) l hl fs x b _ pre _ e']
    have e2 : l = (pre ++ List.replicate b 32) ++ w ++ (build segs 0 ++ tail) := by rw [e']; simp
    have e3 : (pre ++ List.replicate b 32).length = pre.length + b := by simp
    rw [← e3, w_word n0 l _ w _ e2 g1 g2 hl fs (by simp at hfs; omega)]
    obtain ⟨m', y, hm, ih⟩ := w_pre n0 l tail hl segs ((pre ++ List.replicate b 32) ++ w) (fs ++ [.d (.str (tx w))]) (some (.d (.int (((pre ++ List.replicate b 32).length + w.length : Nat) : Int)))) (m + (w.length - 1)) e2 g3 (by simp at hfs ⊢; omega)
    have e4 : ((pre ++ List.replicate b 32) ++ w).length = (pre ++ List.replicate b 32).length + w.length := List.length_append
    rw [e4] at ih
    refine ⟨m', y, by omega, ?_⟩
    rw [ih]
    have e5 : ((pre ++ List.replicate b 32) ++ w ++ build segs 0).length = (pre ++ build ((b, w) :: segs) 0).length := by simp [build]
    rw [e5]
    simp
theorem words_bad (n0 : Nat) {segs : List (Nat × List Nat)} {g : Nat} {B rest : List Nat} (hg : GoodT segs (List.replicate g 32 ++ (B ++ rest))) (hb : BadW B rest) (hs : segs.length ≤ 1000) (hl : (build segs 0 ++ (List.replicate g 32 ++ (B ++ rest))).length ≤ 900000) :
    mir (n0 + 3) 2 [.str (tx (build segs 0 ++ (List.replicate g 32 ++ (B ++ rest))))] = .ex "NoText" := by
  rw [mir_words, run_words]
  obtain ⟨l, hL⟩ : ∃ l, l = build segs 0 ++ (List.replicate g 32 ++ (B ++ rest)) := ⟨_, rfl⟩
  rw [← hL] at hl ⊢
  have bl : (build segs 0).length + g ≤ 900000 := by
    rw [hL, List.length_append, List.length_append, List.length_replicate] at hl
    omega
  obtain ⟨m', y, hm, h⟩ := w_pre n0 l _ hl segs [] [] none (1000000 - (build segs 0).length) hL hg (by simp; omega)
  rw [show 1000000 - (build segs 0).length + (build segs 0).length = 1000000 by omega] at h
  simp only [List.nil_append] at h
  obtain ⟨k, rfl⟩ : ∃ k, m' = k + 1 + g := ⟨m' - 1 - g, by omega⟩
  rw [w_blanks (mir (n0 + 2)) l hl _ y g (k + 1) (build segs 0) (B ++ rest) hL] at h
  obtain ⟨c0, w0, hw0, n32⟩ := bad_head hb
  obtain ⟨pre, hpre⟩ : ∃ pre, pre = build segs 0 ++ List.replicate g 32 := ⟨_, rfl⟩
  have pl : (build segs 0).length + g = pre.length := by rw [hpre]; simp
  have e2 : l = pre ++ B ++ rest := by rw [hL, hpre]; simp
  rw [pl] at h
  have we := word_end_bad n0 l pre B rest e2 hb hl
  have hc : l[pre.length]? = some c0 := by rw [e2, List.append_assoc, take_head, hw0]; rfl
  have hlt : pre.length < l.length := (List.getElem?_eq_some_iff.mp hc).1
  have gl := gLen_tx l (by omega)
  have ix := gIx_tx hc (by omega)
  generalize hfs : (segs.map fun s => Ow.d (.str (tx s.2))) = fs at h
  have c1 : wc [some (.d (.str (tx l))), some (.l fs), some (.d (.int (pre.length : Nat))), y] = .ok true := by simp [gl, hlt]
  have c2 : wb (mir (n0 + 2)) [some (.d (.str (tx l))), some (.l fs), some (.d (.int (pre.length : Nat))), y] = .ex "NoText" [some (.d (.str (tx l))), some (.l fs), some (.d (.int (pre.length : Nat))), y] := by
    simp [ix, sp_is, gEq_tx, n32, we]
  have h2 : whileN wc (wb (mir (n0 + 2))) (k + 1) [some (.d (.str (tx l))), some (.l fs), some (.d (.int (pre.length : Nat))), y] = .ex "NoText" [some (.d (.str (tx l))), some (.l fs), some (.d (.int (pre.length : Nat))), y] := by
    rw [whileN, c1, R.st_ok, if_pos rfl, c2]
  rw [h2] at h
  have isi : gIsiW "str" (.str (tx l)) = .ok (.bool true) := rfl
  simp only [List.length_nil] at h
  have h' : whileN wc (wb (mir (n0 + 2))) 1000000 [some (.d (.str (tx l))), some (.l []), some (.d (.int 0)), none] = .ex "NoText" [some (.d (.str (tx l))), some (.l fs), some (.d (.int (pre.length : Nat))), y] := h
  generalize (1000000 : Nat) = big at *
  unfold wc wb at h'
  simp [isi, sizeLine_eq, sRetV, h']
theorem words_no (n : Nat) {d : PyData} (h : gIsiW "str" d = .ok (.bool false)) : mir (n + 1) 2 [d] = .ex "NoText" := by
  rw [mir_words, run_words]
  simp [h]
end G
set_option Elab.async false
set_option linter.all false
set_option maxRecDepth 100000
set_option maxHeartbeats 4000000
namespace G
open PySem PySem.Spec L2 Mir
theorem cell_ok (n : Nat) (ns : List Int) (k : Nat) : mir (n + 1) 29 [scD ns, .int (k : Nat)] = .ok (.d (.int (scCell ns k))) := by
  rw [mir__law_cell_at, run__law_cell_at]
  exact cell_fin ns k
theorem nat_of {i m : Int} (h0 : 0 ≤ i) (h : i < m) : ∃ k : Nat, i = (k : Int) ∧ (k : Int) < m := ⟨i.toNat, by omega, by omega⟩
theorem wordBy_ok (n : Nat) (c : Int) : ∃ w : List Nat, mir (n + 1) 30 [.int c] = .ok (.d (.str (tx w))) ∧ Wd w ∧ w.length ≤ 61 := by
  rw [mir__law_word_by, run__law_word_by]
  have p64 : gPow (.int 10) (.int 64) = some (.int (10 ^ 64)) := gPow10 64 (by decide)
  have p60 : gPow (.int 10) (.int 60) = some (.int (10 ^ 60)) := gPow10 60 (by decide)
  have p30 : gPow (.int 10) (.int 30) = some (.int (10 ^ 30)) := gPow10 30 (by decide)
  have m64 : gMod (.int c) (.int (10 ^ 64)) = some (.int (c % 10 ^ 64)) := gMod_int (by decide)
  obtain ⟨P64, hP64⟩ : ∃ E : Int, E = 10 ^ 64 := ⟨_, rfl⟩
  rw [← hP64] at p64 m64
  obtain ⟨z, hz⟩ : ∃ z, z = c % P64 := ⟨_, rfl⟩
  rw [← hz] at m64
  have m3 : gMod (.int z) (.int 3) = some (.int (z % 3)) := gMod_int (by decide)
  have d3 : gDiv (.int z) (.int 3) = some (.int (z / 3)) := gDiv_small (by decide) (by decide)
  have m26 : gMod (.int (z / 3)) (.int 26) = some (.int (z / 3 % 26)) := gMod_int (by decide)
  have m7 : gMod (.int (z / 3)) (.int 7) = some (.int (z / 3 % 7)) := gMod_int (by decide)
  have m60 : gMod (.int (z / 3)) (.int (10 ^ 60)) = some (.int (z / 3 % 10 ^ 60)) := gMod_int (by decide)
  have b1 := Int.emod_nonneg (z / 3) (b := 10 ^ 60) (by decide)
  have b2 := Int.emod_lt_of_pos (z / 3) (b := 10 ^ 60) (by decide)
  obtain ⟨P60, hP60⟩ : ∃ E : Int, E = 10 ^ 60 := ⟨_, rfl⟩
  obtain ⟨P30, hP30⟩ : ∃ E : Int, E = 10 ^ 30 := ⟨_, rfl⟩
  have ab : (z / 3 % P60 - P30).natAbs < 10 ^ 60 := by rw [hP60, hP30]; omega
  rw [← hP60] at m60 p60
  rw [← hP30] at p30
  clear hP60 hP30 hz hP64
  have he : envOf 1 [(.int c : PyData)] = [some (.d (.int c)), none] := rfl
  rw [he]
  rcases (by omega : z % 3 = 0 ∨ z % 3 = 1 ∨ z % 3 = 2) with e | e | e
  · obtain ⟨k, hk, k26⟩ := nat_of (Int.emod_nonneg (z / 3) (b := 26) (by decide)) (Int.emod_lt_of_pos (z / 3) (b := 26) (by decide))
    rw [hk] at m26
    have ix : gIx (.str (Str.ofString "abcdefghijklmnopqrstuvwxyz")) (.int (k : Nat)) = some (.str (tx [97 + k])) := by
      have : (Str.ofString "abcdefghijklmnopqrstuvwxyz") = tx ((List.range 26).map fun k => 97 + k) := by
        rw [tx_of (Str.ofString "abcdefghijklmnopqrstuvwxyz")]
        congr 1
      rw [this]
      exact gIx_tx (by rw [List.getElem?_map, List.getElem?_range (by omega)]; rfl) (by decide)
    refine ⟨[97 + k], fin_step (env1 := [some (.d (.int c)), some (.d (.int z))]) (by simp [m64, p64]) ?_, .inr (.inl ⟨by simp, fun x hx => ?_, by simp⟩), by simp⟩
    · simp [m3, e, d3, m26, ix]
    · rw [List.mem_singleton.mp hx]
      have a : 97 ≤ 97 + k := by omega
      have b : 97 + k ≤ 122 := by omega
      unfold isL
      simp [a, b]
  · have st := gStr_ik (k := z / 3 % P60 - P30) (Nat.lt_trans ab pow60)
    refine ⟨ik (z / 3 % P60 - P30), fin_step (env1 := [some (.d (.int c)), some (.d (.int z))]) (by simp [m64, p64]) ?_, wd_ikT ab, ik_len ab⟩
    simp [m3, e, d3, m60, p60, p30, st]
  · obtain ⟨k, hk, k7⟩ := nat_of (Int.emod_nonneg (z / 3) (b := 7) (by decide)) (Int.emod_lt_of_pos (z / 3) (b := 7) (by decide))
    rw [hk] at m7
    have k7 : k < 7 := by omega
    obtain ⟨s, hs⟩ : ∃ s, sigs[k]? = some s := ⟨_, List.getElem?_eq_getElem (by exact k7)⟩
    have ix : gIx (.str (Str.ofString "();:=|*")) (.int (k : Nat)) = some (.str (tx [s])) := by
      have : (Str.ofString "();:=|*") = tx sigs := by
        rw [tx_of (Str.ofString "();:=|*")]
        congr 1
      rw [this]
      exact gIx_tx hs (by decide)
    refine ⟨[s], fin_step (env1 := [some (.d (.int c)), some (.d (.int z))]) (by simp [m64, p64]) ?_, .inl ⟨s, List.mem_of_getElem? hs, rfl⟩, by simp⟩
    simp [m3, e, d3, m7, ix]
/-- a run of signs drawn -/
theorem run_fin {z : Str} {zl : List Nat} {a : Int} (hz : z = tx zl) (hl : 0 < zl.length) (hl2 : zl.length ≤ 100) (m0 : ∀ i : Int, gMul (.int i) (.int a) = some (.int (i * a))) (N : Int) (lots : Nat) (h : lots ≤ 200) :
    ∃ w : List Nat, w.length = lots ∧ (∀ c ∈ w, c ∈ zl) ∧ finR ((sSeq (sSet 2 (eM (eC (.str "")) Ow.d))
    (sSeq (sFor (eB (aCons (eVar 1) aNil) rg1) (gtName 3)
    (sSeq (sSet 0 (eM (eM (eBinO gAdd (eBin gMod (eBin gMul (eVar 0) (eC (.int a))) (eC (.int 2147483647))) (eC (.int 1))) viewD) Ow.d))
    (sSet 2 (eM (eM (eBinO gAdd (eVar 2) (eBin gIx (eC (.str z)) (eBin gMod (eVar 0) (eC (.int (zl.length : Nat)))))) viewD) Ow.d))))
    (sRet (eM (eVar 2) Ow.d)))) (envOf 2 [.int N, .int (lots : Nat)])) = .ok (.d (.str (tx w))) := by
  have he : envOf 2 [(.int N : PyData), .int (lots : Nat)] = [some (.d (.int N)), some (.d (.int (lots : Nat))), none, none] := rfl
  rw [he]
  obtain ⟨env', lp, M, w, y3, wl, wc', rfl⟩ := forL_map (g := gtName 3) (f := (sSeq (sSet 0 (eM (eM (eBinO gAdd (eBin gMod (eBin gMul (eVar 0) (eC (.int a))) (eC (.int 2147483647))) (eC (.int 1))) viewD) Ow.d))
    (sSet 2 (eM (eM (eBinO gAdd (eVar 2) (eBin gIx (eC (.str z)) (eBin gMod (eVar 0) (eC (.int (zl.length : Nat)))))) viewD) Ow.d)))) (fun k : Nat => PyData.int (k : Nat)) (List.range lots)
    (fun i env => ∃ (M : Int) (w : List Nat) (y3 : Option Ow), w.length = i ∧ (∀ c ∈ w, c ∈ zl) ∧ env = [some (.d (.int M)), some (.d (.int (lots : Nat))), some (.d (.str (tx w))), y3]) (fun i k env hk hI => by
      obtain ⟨M, w, y3, wl, wc', rfl⟩ := hI
      have hi := (List.getElem?_eq_some_iff.mp hk).1
      rw [List.length_range] at hi
      rw [List.getElem?_range hi] at hk
      have hk : i = k := Option.some.inj hk
      subst hk
      have m1 := m0 M
      have m2 : gMod (.int (M * a)) (.int 2147483647) = some (.int (M * a % 2147483647)) := gMod_int (by decide)
      obtain ⟨M', hM'⟩ : ∃ i : Int, i = M * a % 2147483647 + 1 := ⟨_, rfl⟩
      have m3 : gMod (.int M') (.int (zl.length : Nat)) = some (.int (M' % (zl.length : Nat))) := gMod_int (by omega)
      obtain ⟨j, hj, jl⟩ := nat_of (Int.emod_nonneg M' (b := (zl.length : Int)) (by omega)) (Int.emod_lt_of_pos M' (b := (zl.length : Int)) (by omega))
      rw [hj] at m3
      obtain ⟨c, hc⟩ : ∃ c, zl[j]? = some c := ⟨_, List.getElem?_eq_getElem (by omega)⟩
      have ix : gIx (.str z) (.int (j : Nat)) = some (.str (tx [c])) := by rw [hz]; exact gIx_tx hc (by omega)
      have ad : gAdd (.str (tx w)) (.str (tx [c])) = some (.d (.str (tx (w ++ [c])))) := gAdd_tx (by simp; omega)
      refine ⟨_, rfl, [some (.d (.int M')), some (.d (.int (lots : Nat))), some (.d (.str (tx (w ++ [c])))), some (.d (.int (i : Nat)))], .inl ?_, M', w ++ [c], _, by rw [List.length_append, wl]; rfl, fun x hx => ?_, rfl⟩
      · refine seq_nx (env1 := [some (.d (.int M')), some (.d (.int (lots : Nat))), some (.d (.str (tx w))), some (.d (.int (i : Nat)))]) (by rw [hM']; simp [m1, m2]) ?_
        generalize ((zl.length : Nat) : Int) = ZL at *
        simp [m3, ix, ad]
      · rcases List.mem_append.mp hx with hx | hx
        · exact wc' x hx
        · rw [List.mem_singleton.mp hx]
          exact List.mem_of_getElem? hc) [some (.d (.int N)), some (.d (.int (lots : Nat))), some (.d (.str (tx []))), none] ⟨N, [], none, rfl, fun c h => (by cases h), rfl⟩
  rw [List.length_range] at wl
  refine ⟨w, wl, wc', ?_⟩
  have e0 : ("" : Str) = tx [] := by rw [tx_of ("" : Str)]; congr 1
  refine fin_step (env1 := [some (.d (.int N)), some (.d (.int (lots : Nat))), some (.d (.str (tx []))), none]) (by rw [← e0]; simp) ?_
  refine fin_step (env1 := [some (.d (.int M)), some (.d (.int (lots : Nat))), some (.d (.str (tx w))), y3]) ?_ (by simp)
  have rg := rg1_nat lots (by omega)
  rw [rangeD_map] at rg
  have it : (eB (aCons (eVar 1) aNil) rg1) [some (.d (.int N)), some (.d (.int (lots : Nat))), some (.d (.str (tx []))), none] = .ok ((List.range lots).map fun k : Nat => PyData.int (k : Nat)) := by
    rw [← rg]
    rfl
  unfold sFor
  rw [it, R.st_ok]
  exact lp
theorem figures_ok (n : Nat) (N : Int) (lots : Nat) (h : lots ≤ 200) : ∃ w : List Nat, w.length = lots ∧ (∀ c ∈ w, isF c = true) ∧ mir (n + 1) 31 [.int N, .int (lots : Nat)] = .ok (.d (.str (tx w))) := by
  have e : (Str.ofString "0123456789") = tx [48, 49, 50, 51, 52, 53, 54, 55, 56, 57] := by rw [tx_of (Str.ofString "0123456789")]; congr 1
  obtain ⟨w, a, b, c⟩ := run_fin e (by simp) (by simp) (a := 48271) (fun i => gMul_by (by decide) (by decide)) N lots h
  refine ⟨w, a, fun x hx => ?_, ?_⟩
  · have := b x hx
    have key : ∀ x ∈ [48, 49, 50, 51, 52, 53, 54, 55, 56, 57], isF x = true := by decide
    exact key x this
  · rw [mir__law_figures, run__law_figures]
    exact c
theorem letters_ok (n : Nat) (N : Int) (lots : Nat) (h : lots ≤ 200) : ∃ w : List Nat, w.length = lots ∧ (∀ c ∈ w, isL c = true) ∧ mir (n + 1) 32 [.int N, .int (lots : Nat)] = .ok (.d (.str (tx w))) := by
  have e : (Str.ofString "abcdefghijklmnopqrstuvwxyz") = tx ((List.range 26).map fun k => 97 + k) := by
    rw [tx_of (Str.ofString "abcdefghijklmnopqrstuvwxyz")]
    congr 1
  obtain ⟨w, a, b, c⟩ := run_fin e (by simp) (by simp) (a := 69621) (fun i => gMul_by (by decide) (by decide)) N lots h
  refine ⟨w, a, fun x hx => ?_, ?_⟩
  · obtain ⟨k, hk, rfl⟩ := List.mem_map.mp (b x hx)
    have k26 := List.mem_range.mp hk
    have a : 97 ≤ 97 + k := by omega
    have b : 97 + k ≤ 122 := by omega
    unfold isL
    simp [a, b]
  · rw [mir__law_letters, run__law_letters]
    exact c
end G
set_option Elab.async false
set_option linter.all false
set_option maxRecDepth 100000
set_option maxHeartbeats 4000000
namespace G
open PySem PySem.Spec L2 Mir
def badSigns : List Nat := [33, 34, 35, 36, 38, 39, 43, 44, 46, 47, 60, 62, 63, 64, 65, 66, 67, 68, 69, 70, 71, 72, 73, 74, 75, 76, 77, 78, 79, 80, 81, 82, 83, 84, 85, 86, 87, 88, 89, 90, 91, 92, 93, 94, 95, 96, 123, 125, 126, 10, 9]
/-- at a text's end, or a blank behind it -/
def EndB (rest : List Nat) : Prop := ∀ c, rest.head? = some c → c = 32
theorem EndB.noL {rest : List Nat} (h : EndB rest) : ∀ c, rest.head? = some c → isL c = false := fun c hc => by rw [h c hc]; decide
theorem EndB.noF {rest : List Nat} (h : EndB rest) : ∀ c, rest.head? = some c → isF c = false := fun c hc => by rw [h c hc]; decide
theorem sign_s (n : Int) : ∃ s : List Nat, (s = [] ∨ s = [45]) ∧ gIx (.list [.str "", .str "-"]) (.int (n % 2)) = some (.str (tx s)) := by
  have e0 : ("" : Str) = tx [] := by rw [tx_of ("" : Str)]; congr 1
  have e1 : ("-" : Str) = tx [45] := by rw [tx_of ("-" : Str)]; congr 1
  rw [e0, e1]
  rcases (by omega : n % 2 = 0 ∨ n % 2 = 1) with e | e <;> rw [e]
  · exact ⟨[], .inl rfl, rfl⟩
  · exact ⟨[45], .inr rfl, rfl⟩
theorem badBy_ok (n : Nat) (c : Int) : ∃ B : List Nat, mir (n + 2) 33 [.int c] = .ok (.d (.str (tx B))) ∧ B.length ≤ 200 ∧ ∀ rest, EndB rest → BadW B rest := by
  rw [mir__law_bad_by, run__law_bad_by]
  have p20 : gPow (.int 10) (.int 20) = some (.int (10 ^ 20)) := gPow10 20 (by decide)
  have d6 : gDiv (.int c) (.int 6) = some (.int (c / 6)) := gDiv_small (by decide) (by decide)
  have m20 : gMod (.int (c / 6)) (.int (10 ^ 20)) = some (.int (c / 6 % 10 ^ 20)) := gMod_int (by decide)
  have m6 : gMod (.int c) (.int 6) = some (.int (c % 6)) := gMod_int (by decide)
  obtain ⟨P20, hP20⟩ : ∃ E : Int, E = 10 ^ 20 := ⟨_, rfl⟩
  rw [← hP20] at p20 m20
  obtain ⟨z, hz⟩ : ∃ z, z = c / 6 % P20 := ⟨_, rfl⟩
  rw [← hz] at m20
  have m2 : gMod (.int z) (.int 2) = some (.int (z % 2)) := gMod_int (by decide)
  have z6 : gMod (.int z) (.int 6) = some (.int (z % 6)) := gMod_int (by decide)
  have z2 : gDiv (.int z) (.int 2) = some (.int (z / 2)) := gDiv_small (by decide) (by decide)
  have z32 : gMod (.int (z / 2)) (.int 32) = some (.int (z / 2 % 32)) := gMod_int (by decide)
  have z30 : gMod (.int (z / 2)) (.int 30) = some (.int (z / 2 % 30)) := gMod_int (by decide)
  have z9 : gMod (.int (z / 2)) (.int 9) = some (.int (z / 2 % 9)) := gMod_int (by decide)
  obtain ⟨s, hs, sx⟩ := sign_s z
  clear hz hP20
  have sh2 : ∀ a b : PyData, shD (.l [.d a, .d b]) = .ok (.list [a, b]) := fun _ _ => rfl
  have he : envOf 4 [(.int c : PyData)] = [some (.d (.int c)), none, none, none, none] := rfl
  rw [he]
  have e1 : ("-" : Str) = tx [45] := by rw [tx_of ("-" : Str)]; congr 1
  obtain ⟨way, hway⟩ : ∃ w, w = c % 6 := ⟨_, rfl⟩
  have w6 : 0 ≤ way ∧ way < 6 := by omega
  rw [← hway] at m6
  have st : ∀ {g : Ev → SR} {r : R Ow}, finR (g [some (.d (.int c)), some (.d (.int z)), some (.d (.int way)), some (.d (.str (tx s))), none]) = r →
      finR ((sSeq (sSet 1 (eM (eBin gMod (eBin gDiv (eVar 0) (eC (.int 6))) (eBin gPow (eC (.int 10)) (eC (.int 20)))) Ow.d))
    (sSeq (sSet 2 (eM (eBin gMod (eVar 0) (eC (.int 6))) Ow.d))
    (sSeq (sSet 3 (eM (eBin gIx (eB (eLst (aCons (eC (.str "")) (aCons (eC (.str "-")) aNil))) shD) (eBin gMod (eVar 1) (eC (.int 2)))) Ow.d)) g))) [some (.d (.int c)), none, none, none, none]) = r := fun {g r} h => by
    refine fin_step (env1 := [some (.d (.int c)), some (.d (.int z)), none, none, none]) (by simp [d6, m20, p20]) ?_
    refine fin_step (env1 := [some (.d (.int c)), some (.d (.int z)), some (.d (.int way)), none, none]) (by simp [m6]) ?_
    exact fin_step (env1 := [some (.d (.int c)), some (.d (.int z)), some (.d (.int way)), some (.d (.str (tx s))), none]) (by simp [m2, sh2, sx, sizeLine_eq]) h
  rcases (by omega : way = 0 ∨ way = 1 ∨ way = 2 ∨ way = 3 ∨ way = 4 ∨ way = 5) with e | e | e | e | e | e
  · -- a sign that no word has
    have bs : (Str.ofString "!\"#$&'+,./<>?@ABCDEFGHIJKLMNOPQRSTUVWXYZ[\\]^_`{}~\n\t") = tx badSigns := by
      rw [tx_of (Str.ofString "!\"#$&'+,./<>?@ABCDEFGHIJKLMNOPQRSTUVWXYZ[\\]^_`{}~\n\t")]
      congr 1
    have gl := gLen_tx badSigns (by decide)
    have len : badSigns.length = 51 := rfl
    rw [len] at gl
    have gl : gLen [.str (tx badSigns)] = some (.d (.int 51)) := gl
    have m51 : gMod (.int z) (.int 51) = some (.int (z % 51)) := gMod_int (by decide)
    obtain ⟨j, hj, jl⟩ := nat_of (Int.emod_nonneg z (b := 51) (by decide)) (Int.emod_lt_of_pos z (b := 51) (by decide))
    rw [hj] at m51
    obtain ⟨d, hd⟩ : ∃ d, badSigns[j]? = some d := ⟨_, List.getElem?_eq_getElem (by rw [len]; omega)⟩
    have ix : gIx (.str (tx badSigns)) (.int (j : Nat)) = some (.str (tx [d])) := gIx_tx hd (by decide)
    have key : ∀ d ∈ badSigns, d ∉ sigs ∧ isL d = false ∧ isF d = false ∧ d ≠ 45 ∧ d ≠ 32 := by decide
    obtain ⟨k1, k2, k3, k4, k5⟩ := key d (List.mem_of_getElem? hd)
    refine ⟨[d], st ?_, by simp, fun rest _ => .sign d rest k1 k2 k3 k4 k5⟩
    rw [bs]
    generalize tx badSigns = TB at *
    simp [e, gl, m51, ix]
  · -- a - without a figure
    obtain ⟨r, hr, rl, rx⟩ : ∃ r : List Nat, (∀ c, r.head? = some c → isF c = false) ∧ r.length ≤ 2 ∧ gIx (.list [.str "", .str " 7", .str "a", .str "-7", .str "(", .str ")"]) (.int (z % 6)) = some (.str (tx r)) := by
      have f0 : ("" : Str) = tx [] := by rw [tx_of ("" : Str)]; congr 1
      have f1 : (" 7" : Str) = tx [32, 55] := by rw [tx_of (" 7" : Str)]; congr 1
      have f2 : ("a" : Str) = tx [97] := by rw [tx_of ("a" : Str)]; congr 1
      have f3 : ("-7" : Str) = tx [45, 55] := by rw [tx_of ("-7" : Str)]; congr 1
      have f4 : ("(" : Str) = tx [40] := by rw [tx_of ("(" : Str)]; congr 1
      have f5 : (")" : Str) = tx [41] := by rw [tx_of (")" : Str)]; congr 1
      rw [f0, f1, f2, f3, f4, f5]
      rcases (by omega : z % 6 = 0 ∨ z % 6 = 1 ∨ z % 6 = 2 ∨ z % 6 = 3 ∨ z % 6 = 4 ∨ z % 6 = 5) with q | q | q | q | q | q <;> rw [q]
      · exact ⟨[], fun c h => (by cases h), by decide, rfl⟩
      · exact ⟨[32, 55], fun c h => (by cases h; decide), by decide, rfl⟩
      · exact ⟨[97], fun c h => (by cases h; decide), by decide, rfl⟩
      · exact ⟨[45, 55], fun c h => (by cases h; decide), by decide, rfl⟩
      · exact ⟨[40], fun c h => (by cases h; decide), by decide, rfl⟩
      · exact ⟨[41], fun c h => (by cases h; decide), by decide, rfl⟩
    have ga : gAdd (.str (tx [45])) (.str (tx r)) = some (.d (.str (tx ([45] ++ r)))) := gAdd_tx (by simp; omega)
    refine ⟨45 :: r, st ?_, by simp; omega, fun rest hR => .minus r rest fun c hc => ?_⟩
    · have sh6 : ∀ a b c d e f : PyData, shD (.l [.d a, .d b, .d c, .d d, .d e, .d f]) = .ok (.list [a, b, c, d, e, f]) := fun _ _ _ _ _ _ => rfl
      rw [← e1] at ga
      have ga : gAdd (.str "-") (.str (tx r)) = some (.d (.str (tx (45 :: r)))) := ga
      generalize tx (45 :: r) = TR at *
      simp [e, z6, sh6, rx, ga, sizeLine_eq]
    · cases r with
      | nil => exact hR.noF c hc
      | cons x xs => exact hr c hc
  · -- too many letters
    obtain ⟨j, hj, jl⟩ := nat_of (Int.emod_nonneg (z / 2) (b := 32) (by decide)) (Int.emod_lt_of_pos (z / 2) (b := 32) (by decide))
    rw [hj] at z32
    obtain ⟨w, wl, wL, hw⟩ := letters_ok n z (9 + j) (by omega)
    have en : ((9 + j : Nat) : Int) = 9 + (j : Int) := by omega
    rw [en] at hw
    refine ⟨w, st ?_, by omega, fun rest hR => .long w rest wL (by omega) hR.noL⟩
    simp [e, z2, z32, hw]
  · -- too many figures
    obtain ⟨j, hj, jl⟩ := nat_of (Int.emod_nonneg (z / 2) (b := 30) (by decide)) (Int.emod_lt_of_pos (z / 2) (b := 30) (by decide))
    rw [hj] at z30
    obtain ⟨w, wl, wF, hw⟩ := figures_ok n z (60 + j) (by omega)
    have en : ((60 + j : Nat) : Int) = 60 + (j : Int) := by omega
    rw [en] at hw
    have sl : s.length ≤ 1 := by rcases hs with rfl | rfl <;> simp
    have f7 : ("7" : Str) = tx [55] := by rw [tx_of ("7" : Str)]; congr 1
    have g1 : gAdd (.str (tx s)) (.str (tx [55])) = some (.d (.str (tx (s ++ [55])))) := gAdd_tx (by simp; omega)
    have g2 : gAdd (.str (tx (s ++ [55]))) (.str (tx w)) = some (.d (.str (tx (s ++ [55] ++ w)))) := gAdd_tx (by simp; omega)
    rw [← f7] at g1
    refine ⟨s ++ (55 :: w), st ?_, by simp; omega, fun rest hR => .figs s (55 :: w) rest hs (by simp) (fun c hc => ?_) hR.noF (.inl (by simp; omega))⟩
    · have ee : s ++ (55 :: w) = s ++ [55] ++ w := by simp
      rw [ee]
      generalize tx (s ++ [55] ++ w) = TW at *
      generalize tx (s ++ [55]) = TS at *
      generalize tx s = T0 at *
      simp [e, z2, z30, hw, g1, g2]
    · rcases List.mem_cons.mp hc with rfl | hc
      · decide
      · exact wF c hc
  · -- a 0 ahead
    obtain ⟨j, hj, jl⟩ := nat_of (Int.emod_nonneg (z / 2) (b := 9) (by decide)) (Int.emod_lt_of_pos (z / 2) (b := 9) (by decide))
    rw [hj] at z9
    obtain ⟨w, wl, wF, hw⟩ := figures_ok n z (1 + j) (by omega)
    have en : ((1 + j : Nat) : Int) = 1 + (j : Int) := by omega
    rw [en] at hw
    have sl : s.length ≤ 1 := by rcases hs with rfl | rfl <;> simp
    have f0 : ("0" : Str) = tx [48] := by rw [tx_of ("0" : Str)]; congr 1
    have g1 : gAdd (.str (tx s)) (.str (tx [48])) = some (.d (.str (tx (s ++ [48])))) := gAdd_tx (by simp; omega)
    have g2 : gAdd (.str (tx (s ++ [48]))) (.str (tx w)) = some (.d (.str (tx (s ++ [48] ++ w)))) := gAdd_tx (by simp; omega)
    rw [← f0] at g1
    refine ⟨s ++ (48 :: w), st ?_, by simp; omega, fun rest hR => .figs s (48 :: w) rest hs (by simp) (fun c hc => ?_) hR.noF (.inr ⟨rfl, .inl (by simp; omega)⟩)⟩
    · have ee : s ++ (48 :: w) = s ++ [48] ++ w := by simp
      rw [ee]
      generalize tx (s ++ [48] ++ w) = TW at *
      generalize tx (s ++ [48]) = TS at *
      generalize tx s = T0 at *
      simp [e, z2, z9, hw, g1, g2]
    · rcases List.mem_cons.mp hc with rfl | hc
      · decide
      · exact wF c hc
  · -- -0
    have f0 : ("-0" : Str) = tx [45, 48] := by rw [tx_of ("-0" : Str)]; congr 1
    refine ⟨[45, 48], st ?_, by simp, fun rest hR => .figs [45] [48] rest (.inr rfl) (by simp) (fun c hc => by rw [List.mem_singleton.mp hc]; decide) hR.noF (.inr ⟨rfl, .inr rfl⟩)⟩
    simp [e, f0]
theorem refused_ok (n : Nat) {x : Str} {j : Nat} {d : PyData} (ht : tabF [("words", mir n 2), ("read_tree", mir n 8), ("read_wood", mir n 17), ("_law_read", mir n 35)] x = some (mir n j)) (h : mir n j [d] = .ex "NoText") : mir (n + 1) 34 [fnD x, d] = .ok (.d (.bool true)) := by
  rw [mir__law_refused, run__law_refused]
  have he : envOf 2 [fnD x, d] = [some (.d (fnD x)), some (.d d), none, none] := rfl
  rw [he]
  refine fin_step (env1 := [some (.d (fnD x)), some (.d d), some (.d .none), none]) (by
    generalize fnD x = FD
    simp) ?_
  have cf := eCallF_of (i := 0) (fa := aCons (eVar 1) aNil) (env := [some (.d (fnD x)), some (.d d), some (.d .none), none]) rfl ht
  have cl : eB (aCons (eVar 1) aNil) (mir n j) [some (.d (fnD x)), some (.d d), some (.d .none), none] = .ex "NoText" := by
    generalize fnD x = FD
    simp [h]
  rw [cl] at cf
  have g1 : gIsE [("NoText", true), ("NoWood", false), ("NoTurning", false)] (excD "NoText") = .ok (.bool true) := gIsE_exc rfl
  have g2 : gIsE [("NoText", true), ("NoWood", true), ("NoTurning", true)] (excD "NoText") = .ok (.bool true) := gIsE_exc rfl
  have g3 : gIsE [("NoText", false), ("NoWood", true), ("NoTurning", false)] (excD "NoText") = .ok (.bool false) := gIsE_exc rfl
  have g4 : gIsE [("NoText", false), ("NoWood", false), ("NoTurning", true)] (excD "NoText") = .ok (.bool false) := gIsE_exc rfl
  have g5 : gIsE [("NoText", false), ("NoWood", false), ("NoTurning", false)] (excD "NoText") = .ok (.bool false) := gIsE_exc rfl
  refine fin_step (env1 := [some (.d (fnD x)), some (.d d), some (.d (excD "NoText")), none]) ?_ ?_
  · have b1 : (sDrop (eM (eCallF 0 (aCons (eVar 1) aNil) [("words", mir n 2), ("read_tree", mir n 8), ("read_wood", mir n 17), ("_law_read", mir n 35)]) viewD)) [some (.d (fnD x)), some (.d d), some (.d .none), none] = .ex "NoText" [some (.d (fnD x)), some (.d d), some (.d .none), none] := by
      unfold sDrop eM
      rw [cf]
      rfl
    have lk : lookE [("NoText", true), ("NoWood", true), ("NoTurning", true)] "NoText" = some true := rfl
    generalize fnD x = FD at *
    unfold sTryT
    rw [b1]
    simp [lk, dropT]
  · generalize fnD x = FD
    generalize excD "NoText" = XD at *
    simp [g1, g2, g3, g4, g5]
theorem tree_no (n : Nat) {d : PyData} (h : mir n 2 [d] = .ex "NoText") : mir (n + 1) 8 [d] = .ex "NoText" := by
  rw [mir_read_tree, run_read_tree]
  simp [h]
theorem wood_no (n : Nat) {d : PyData} (h : mir n 2 [d] = .ex "NoText") : mir (n + 1) 17 [d] = .ex "NoText" := by
  rw [mir_read_wood, run_read_wood]
  simp [h, eLc]
theorem turning_no (n : Nat) {w d : PyData} (h : mir n 2 [d] = .ex "NoText") : mir (n + 1) 28 [w, d] = .ex "NoText" := by
  rw [mir_read_turning, run_read_turning]
  simp [h]
theorem read_no (n : Nat) {d : PyData} (h : mir n 2 [d] = .ex "NoText") : mir (n + 2) 35 [d] = .ex "NoText" := by
  rw [mir__law_read, run__law_read]
  have := turning_no n (w := .list [.tuple [.str "a", .list [.tuple [.str "b", .tuple []]]]]) h
  have v1 : ∀ a : PyData, viewD (.l [.d a]) = .list [a] := fun _ => rfl
  simp [this, v1, sizeLine_eq]
end G
set_option Elab.async false
set_option linter.all false
set_option maxRecDepth 100000
set_option maxHeartbeats 4000000
namespace G
open PySem PySem.Spec L2 Mir
def rwL (ws : List (List Nat)) : PyData := .list (ws.map fun w => .str (tx w))
def rwO (ws : List (List Nat)) : Ow := .l (ws.map fun w => .d (.str (tx w)))
theorem rwO_sh (ws : List (List Nat)) : shD (rwO ws) = .ok (rwL ws) := unDs_of (fun w : List Nat => PyData.str (tx w)) ws
theorem rwO_vw (ws : List (List Nat)) : viewD (rwO ws) = rwL ws := viewD_of (fun w : List Nat => PyData.str (tx w)) ws
theorem rwO_of (ws : List (List Nat)) : Ow.l ((ws.map fun w => PyData.str (tx w)).map Ow.d) = rwO ws := by
  unfold rwO
  rw [List.map_map]
  rfl
theorem rwL_len (ws : List (List Nat)) : gLen [rwL ws] = some (.d (.int (ws.length : Nat))) := by
  have : gLen [rwL ws] = some (Ow.d (.int (ws.map fun w => PyData.str (tx w)).length)) := rfl
  rw [this, List.length_map]
theorem rw_add {a b : List (List Nat)} (h : a.length + b.length ≤ 100000) : gAdd (rwL a) (rwL b) = some (rwO (a ++ b)) := by
  unfold rwL
  rw [gAdd_lst (by rw [List.length_map, List.length_map, sizeLine_eq]; omega), ← List.map_append, rwO_of]
theorem rw_to (ws : List (List Nat)) (k : Nat) : gSl (rwL ws) none (some (k : Int)) = some (rwO (ws.take k)) := by
  unfold rwL
  rw [gSl_list, cutL_take, ← List.map_take, rwO_of]
theorem rw_from (ws : List (List Nat)) (k : Nat) : gSl (rwL ws) (some (k : Int)) none = some (rwO (ws.drop k)) := by
  unfold rwL
  rw [gSl_list, cutL_drop, ← List.map_drop, rwO_of]
theorem cutL_mid4 {α : Type} (xs : List α) (a b : Nat) : cutL xs (some (a : Int)) (some (b : Int)) = (xs.take b).drop a := by
  unfold cutL
  rw [HT.sIx_nat, HT.sIx_nat, List.drop_take]
  by_cases c : b ≤ xs.length
  · by_cases c2 : a ≤ xs.length
    · rw [Nat.min_eq_left c, Nat.min_eq_left c2]
    · rw [Nat.min_eq_left c, Nat.min_eq_right (by omega), show b - xs.length = 0 by omega, show b - a = 0 by omega]
      simp
  · by_cases c2 : a ≤ xs.length
    · rw [Nat.min_eq_right (by omega), Nat.min_eq_left c2]
      rw [List.take_of_length_le (by rw [List.length_drop]; omega), List.take_of_length_le (by rw [List.length_drop]; omega)]
    · rw [Nat.min_eq_right (by omega), Nat.min_eq_right (by omega), List.drop_length, List.drop_of_length_le (by omega)]
      simp
theorem row_ok (n : Nat) (a0 a1 a2 a3 a4 a5 : Option Ow) : ∀ cs : List Int, ∃ ws : List (List Nat), ws.length = cs.length ∧ (∀ w ∈ ws, Wd w ∧ w.length ≤ 61) ∧ lcR (gtName 2) cYes (eB (aCons (eVar 2) aNil) (mir (n + 1) 30)) [a0, a1, a2, a3, a4, a5] (cs.map PyData.int) = .ok (ws.map fun w => .d (.str (tx w)))
  | [] => ⟨[], rfl, fun w h => (by cases h), rfl⟩
  | c :: cs => by
    obtain ⟨ws, l, hw, e⟩ := row_ok n a0 a1 a2 a3 a4 a5 cs
    obtain ⟨w, a, b, k⟩ := wordBy_ok n c
    refine ⟨w :: ws, by simp [l], fun x hx => ?_, ?_⟩
    · rcases List.mem_cons.mp hx with rfl | hx
      · exact ⟨b, k⟩
      · exact hw x hx
    · have q1 : gtName 2 (.int c) [a0, a1, a2, a3, a4, a5] = some [a0, a1, some (.d (.int c)), a3, a4, a5] := rfl
      have q3 : (eB (aCons (eVar 2) aNil) (mir (n + 1) 30)) [a0, a1, some (.d (.int c)), a3, a4, a5] = .ok (.d (.str (tx w))) := by simp [a]
      rw [List.map_cons]
      unfold lcR
      rw [q1]
      simp only [cYes, q3, noEx_ok, R.bind_ok, if_true]
      rw [e]
      rfl
def segsOf : List (List Nat) → List (Nat × List Nat)
  | [] => []
  | a :: r => (0, a) :: r.map fun w => (1, w)
theorem build_ones : ∀ ws : List (List Nat), build (ws.map fun w => (1, w)) 0 = (ws.map fun b => [32] ++ b).flatten
  | [] => rfl
  | w :: ws => by rw [List.map_cons, build_one, build_ones ws]; simp
theorem segs_len (ws : List (List Nat)) : (segsOf ws).length = ws.length := by cases ws <;> simp [segsOf]
theorem segs_snd (ws : List (List Nat)) : ((segsOf ws).map fun s => Ow.d (.str (tx s.2))) = ws.map fun w => Ow.d (.str (tx w)) := by
  cases ws with
  | nil => rfl
  | cons a r => rw [segsOf, List.map_cons, List.map_map, List.map_cons]; rfl
theorem glue_segs (ws : List (List Nat)) : glue [32] ws = build (segsOf ws) 0 := by
  cases ws with
  | nil => rfl
  | cons a r => rw [segsOf, build_one, build_ones]; rfl
theorem glue_put (A C : List (List Nat)) (B : List Nat) : glue [32] (A ++ [B] ++ C) = build (segsOf A) 0 ++ (List.replicate (if A = [] then 0 else 1) 32 ++ (B ++ (C.map fun b => [32] ++ b).flatten)) := by
  cases A with
  | nil => rfl
  | cons a r =>
    rw [segsOf, build_one, build_ones, if_neg (by simp)]
    simp [glue]
theorem end_ones (r : List (List Nat)) : EndB ((r.map fun b => [32] ++ b).flatten) := by
  cases r with
  | nil => intro c hc; cases hc
  | cons a r => intro c hc; exact (Option.some.inj hc).symm
theorem end_pre (r : List (List Nat)) {t : List Nat} (h : EndB t) : EndB (build (r.map fun w => (1, w)) 0 ++ t) := by
  cases r with
  | nil => exact h
  | cons a r => intro c hc; exact (Option.some.inj hc).symm
theorem fol_end {w t : List Nat} (h : EndB t) : Fol w t := fol_calmT fun c hc => by rw [h c hc]; decide
theorem good_ones {t : List Nat} (ht : EndB t) : ∀ ws : List (List Nat), (∀ w ∈ ws, Wd w) → GoodT (ws.map fun w => (1, w)) t
  | [], _ => trivial
  | w :: ws, h => ⟨h w List.mem_cons_self, fol_end (end_pre ws ht), good_ones ht ws fun x hx => h x (List.mem_cons_of_mem _ hx)⟩
theorem good_segs {t : List Nat} : ∀ {ws : List (List Nat)}, (ws ≠ [] → EndB t) → (∀ w ∈ ws, Wd w) → GoodT (segsOf ws) t
  | [], _, _ => trivial
  | w :: ws, ht, h => ⟨h w List.mem_cons_self, fol_end (end_pre ws (ht (by simp))), good_ones (ht (by simp)) ws fun x hx => h x (List.mem_cons_of_mem _ hx)⟩
theorem good_of : ∀ {segs : List (Nat × List Nat)}, GoodT segs [] → Good segs 0
  | [], _ => trivial
  | (b, w) :: r, h => ⟨h.1, by have := h.2.1; rwa [List.append_nil] at this, good_of h.2.2⟩
theorem end_nil : EndB [] := fun c hc => by cases hc
theorem good_row {ws : List (List Nat)} (h : ∀ w ∈ ws, Wd w) : Good (segsOf ws) 0 := good_of (good_segs (fun _ => end_nil) h)
theorem wd_ok4 {w : List Nat} (h : Wd w) : PyData.strOk (tx w) = true := by
  refine strOk_tx fun c hc => ?_
  rcases h with ⟨d, hs, rfl⟩ | ⟨_, h, _⟩ | ⟨_, _, rfl, h, _⟩ | ⟨d, r, rfl, h, _⟩
  · rw [List.mem_singleton] at hc
    subst hc
    simp [sigs] at hs
    omega
  · have := h c hc
    simp [isL] at this
    omega
  · have := h c hc
    simp [isF] at this
    omega
  · rcases List.mem_cons.mp hc with h1 | h1
    · omega
    · have := h c h1
      simp [isF] at this
      omega
theorem rwL_nice {ws : List (List Nat)} (h : ∀ w ∈ ws, Wd w) : Nice (rwL ws) := nice_list (n := 0) (fun d hd => by
  obtain ⟨w, hw, rfl⟩ := List.mem_map.mp hd
  refine ⟨?_, by simp [PyData.depth]⟩
  rw [PyData.canLay0]
  exact wd_ok4 (h w hw)) (by decide)
theorem rest_ok (q : Nat) {d : PyData} {ws : List (List Nat)} (a0 a2 a3 a5 : Option Ow) (hd : ∀ k, mir (k + 3) 2 [d] = .ex "NoText") (hw : ∀ w ∈ ws, Wd w ∧ w.length ≤ 61) (hl : ws.length ≤ 12) :
    finR ((sSeq (sIf (tOrE (tNotE (eB (eM (eB (aCons (eC (fnD "words")) (aCons (eVar 4) aNil)) (mir (q + 6) 34)) viewD) asB)) (tNotE (eB (eM (eB (aCons (eC (fnD "read_tree")) (aCons (eVar 4) aNil)) (mir (q + 6) 34)) viewD) asB)))
    (sRet (eM (eC (.bool false)) Ow.d))
    sSkip)
    (sSeq (sIf (tOrE (tNotE (eB (eM (eB (aCons (eC (fnD "read_wood")) (aCons (eVar 4) aNil)) (mir (q + 6) 34)) viewD) asB)) (tNotE (eB (eM (eB (aCons (eC (fnD "_law_read")) (aCons (eVar 4) aNil)) (mir (q + 6) 34)) viewD) asB)))
    (sRet (eM (eC (.bool false)) Ow.d))
    sSkip)
    (sRet (eM (eBin gEq (eM (eB (aCons (eJoin (eC (.str " ")) (eVar 1)) aNil) (mir (q + 6) 2)) viewD) (eVar 1)) Ow.d)))) [a0, some (.d (rwL ws)), a2, a3, some (.d d), a5]) = .ok (.d (.bool true)) := by
  have r1 : mir (q + 6) 34 [fnD "words", d] = .ok (.d (.bool true)) := refused_ok (q + 5) (j := 2) rfl (hd (q + 2))
  have r2 : mir (q + 6) 34 [fnD "read_tree", d] = .ok (.d (.bool true)) := refused_ok (q + 5) (j := 8) rfl (tree_no (q + 4) (hd (q + 1)))
  have r3 : mir (q + 6) 34 [fnD "read_wood", d] = .ok (.d (.bool true)) := refused_ok (q + 5) (j := 17) rfl (wood_no (q + 4) (hd (q + 1)))
  have r4 : mir (q + 6) 34 [fnD "_law_read", d] = .ok (.d (.bool true)) := refused_ok (q + 5) (j := 35) rfl (read_no (q + 3) (hd q))
  have jn := gJoinL [32] (by decide) ws 61 (by omega) (fun w h => (hw w h).2) (by decide)
  have wl : mir (q + 6) 2 [.str (tx (glue [32] ws))] = .ok (rwO ws) := by
    have ll := jn.2
    have : ws.length * (61 + 3) ≤ 12 * 64 := Nat.mul_le_mul_right _ hl
    rw [glue_segs] at ll ⊢
    rw [words_ok (q + 3) (segsOf ws) 0 (good_row fun w h => (hw w h).1) (by rw [segs_len]; omega) (by omega), segs_snd]
    rfl
  have jn := jn.1
  rw [← spW_is] at jn
  have ej := eJoin_eq (f := eC (.str " ")) (g := eVar 1) (env := [a0, some (.d (rwL ws)), a2, a3, some (.d d), a5]) (a := " ") rfl rfl
  have jn : gJoin (.str " ") (rwL ws) = some (.str (tx (glue [32] ws))) := jn
  rw [jn] at ej
  have eq := gEq_self (rwL_nice fun w h => (hw w h).1)
  have vw := rwO_vw ws
  generalize fnD "words" = F1 at *
  generalize fnD "read_tree" = F2 at *
  generalize fnD "read_wood" = F3 at *
  generalize fnD "_law_read" = F4 at *
  generalize rwL ws = RL at *
  generalize rwO ws = RO at *
  generalize tx (glue [32] ws) = TG at *
  simp [r1, r2, r3, r4, ej, wl, vw, eq]
theorem law_true (L : Nat) (hL : 8 ≤ L) (ns : List Int) (h : ns.length ≤ 63) : mir L 36 [.list (ns.map PyData.int)] = .ok (.d (.bool true)) := by
  obtain ⟨q, rfl⟩ : ∃ q, L = q + 7 := ⟨L - 7, by omega⟩
  rw [mir_law, run_law]
  have he : envOf 5 [.list (ns.map PyData.int)] = [some (.d (scD ns)), none, none, none, none, none] := rfl
  rw [he]
  -- the row
  obtain ⟨cs, hcs⟩ : ∃ cs, cs = (ns.take 15).drop 3 := ⟨_, rfl⟩
  have cl : cs.length ≤ 12 := by rw [hcs, List.length_drop, List.length_take]; omega
  have sl : gSl (scD ns) (some 3) (some 15) = some (.l ((cs.map PyData.int).map Ow.d)) := by
    unfold scD
    rw [gSl_list]
    have := cutL_mid4 (ns.map PyData.int) 3 15
    rw [show ((3 : Nat) : Int) = 3 from rfl, show ((15 : Nat) : Int) = 15 from rfl] at this
    rw [this, ← List.map_take, ← List.map_drop, hcs]
  have vw : viewD (.l ((cs.map PyData.int).map Ow.d)) = .list (cs.map PyData.int) := by rw [viewD_l, viewAll_mapd]
  obtain ⟨ws, wl, hw, lc⟩ := row_ok (q + 5) (some (.d (scD ns))) none none none none none cs
  have w12 : ws.length ≤ 12 := by omega
  have row : eLc (eB (eM (eSl (eVar 0) (eB (eC (.int 3)) asI) (eB (eC (.int 15)) asI)) viewD) itD) (gtName 2) cYes (eB (aCons (eVar 2) aNil) (mir (q + 6) 30)) (List.map (·.2) ([("_law_cell", 2)] : List (Str × Nat))) [some (.d (scD ns)), none, none, none, none, none] = .ok (rwO ws) := by
    refine eLc_of (ds := cs.map PyData.int) ?_ (by rw [List.length_map, sizeLine_eq]; omega) lc
    generalize (cs.map PyData.int).map Ow.d = CO at *
    generalize scD ns = SD at *
    simp [eSl, sl, vw, itD]
  refine fin_step (env1 := [some (.d (scD ns)), some (.d (rwL ws)), none, none, none, none]) (by
    have rv := rwO_vw ws
    rw [show (List.map (·.2) ([("_law_cell", 2)] : List (Str × Nat))) = [2] from rfl] at row ⊢
    generalize rwL ws = RL at *
    generalize rwO ws = RO at *
    generalize scD ns = SD at *
    simp [row, rv]) ?_
  -- where
  have c0 := cell_ok (q + 5) ns 0
  have c1 := cell_ok (q + 5) ns 1
  have c2 := cell_ok (q + 5) ns 2
  rw [show ((0 : Nat) : Int) = 0 from rfl] at c0
  rw [show ((1 : Nat) : Int) = 1 from rfl] at c1
  rw [show ((2 : Nat) : Int) = 2 from rfl] at c2
  have gl := rwL_len ws
  have m0 : gMod (.int (scCell ns 0)) (.int ((ws.length : Int) + 1)) = some (.int (scCell ns 0 % ((ws.length : Int) + 1))) := gMod_int (by omega)
  obtain ⟨k, hk, kl⟩ := nat_of (Int.emod_nonneg (scCell ns 0) (b := (ws.length : Int) + 1) (by omega)) (Int.emod_lt_of_pos (scCell ns 0) (b := (ws.length : Int) + 1) (by omega))
  rw [hk] at m0
  refine fin_step (env1 := [some (.d (scD ns)), some (.d (rwL ws)), none, some (.d (.int (k : Nat))), none, none]) (by
    generalize rwL ws = RL at *
    generalize scD ns = SD at *
    simp [c0, gl, m0]) ?_
  -- the text
  obtain ⟨B, bb, bl, bad⟩ := badBy_ok (q + 4) (scCell ns 1)
  obtain ⟨T, hT⟩ : ∃ T, T = glue [32] (ws.take k ++ [B] ++ ws.drop k) := ⟨_, rfl⟩
  have sa := rw_to ws k
  have sb := rw_from ws k
  have ga : gAdd (rwL (ws.take k)) (rwL [B]) = some (rwO (ws.take k ++ [B])) := rw_add (by rw [List.length_take]; simp; omega)
  have gb : gAdd (rwL (ws.take k ++ [B])) (rwL (ws.drop k)) = some (rwO (ws.take k ++ [B] ++ ws.drop k)) := rw_add (by simp; omega)
  have jl : (ws.take k ++ [B] ++ ws.drop k).length ≤ 13 := by simp; omega
  have jn := gJoinL [32] (by decide) (ws.take k ++ [B] ++ ws.drop k) 200 (by omega) (fun w hx => by
    rcases List.mem_append.mp hx with hx | hx
    · rcases List.mem_append.mp hx with hx | hx
      · have := (hw w (List.mem_of_mem_take hx)).2; omega
      · rw [List.mem_singleton.mp hx]; exact bl
    · have := (hw w (List.mem_of_mem_drop hx)).2; omega) (by decide)
  have tl : T.length ≤ 10000 := by
    have a := jn.2
    have b : (ws.take k ++ [B] ++ ws.drop k).length * (200 + 3) ≤ 13 * 203 := Nat.mul_le_mul_right _ jl
    rw [hT]
    omega
  have hd : ∀ j, mir (j + 3) 2 [.str (tx T)] = .ex "NoText" := fun j => by
    rw [hT, glue_put] at *
    refine words_bad j (good_segs (fun ne => ?_) fun w hx => (hw w (List.mem_of_mem_take hx)).1) (bad _ (end_ones _)) (by rw [segs_len, List.length_take]; omega) (by omega)
    rw [if_neg ne]
    intro c hc
    exact (Option.some.inj hc).symm
  have jn : gJoin (.str (tx [32])) (rwL (ws.take k ++ [B] ++ ws.drop k)) = some (.str (tx T)) := by rw [hT]; exact jn.1
  rw [← spW_is] at jn
  have lst : (eLst (aCons (eM (eB (aCons (eM (eB (aCons (eVar 0) (aCons (eC (.int 1)) aNil)) (mir (q + 6) 29)) viewD) aNil) (mir (q + 6) 33)) viewD) aNil)) [some (.d (scD ns)), some (.d (rwL ws)), none, some (.d (.int (k : Nat))), none, none] = .ok (rwO [B]) := by
    show _ = R.ok (Ow.l [.d (.str (tx B))])
    generalize rwL ws = RL at *
    generalize scD ns = SD at *
    simp [c1, bb, sizeLine_eq]
  have jarg : (eB (eBinO gAdd (eB (eBinO gAdd (eB (eSl (eVar 1) oNone (eB (eVar 3) asI)) shD) (eB (eLst (aCons (eM (eB (aCons (eM (eB (aCons (eVar 0) (aCons (eC (.int 1)) aNil)) (mir (q + 6) 29)) viewD) aNil) (mir (q + 6) 33)) viewD) aNil)) shD)) shD) (eB (eSl (eVar 1) (eB (eVar 3) asI) oNone) shD)) shD) [some (.d (scD ns)), some (.d (rwL ws)), none, some (.d (.int (k : Nat))), none, none] = .ok (rwL (ws.take k ++ [B] ++ ws.drop k)) := by
    have l1 := lst
    have s1 := rwO_sh (ws.take k)
    have s2 := rwO_sh [B]
    have s3 := rwO_sh (ws.drop k)
    have s4 := rwO_sh (ws.take k ++ [B])
    have s5 := rwO_sh (ws.take k ++ [B] ++ ws.drop k)
    generalize (eLst (aCons (eM (eB (aCons (eM (eB (aCons (eVar 0) (aCons (eC (.int 1)) aNil)) (mir (q + 6) 29)) viewD) aNil) (mir (q + 6) 33)) viewD) aNil)) = EL at *
    generalize rwO (ws.take k ++ [B] ++ ws.drop k) = O5 at *
    generalize rwL (ws.take k ++ [B] ++ ws.drop k) = L5 at *
    generalize rwO (ws.take k ++ [B]) = O4 at *
    generalize rwL (ws.take k ++ [B]) = L4 at *
    generalize rwO (ws.drop k) = O3 at *
    generalize rwL (ws.drop k) = L3 at *
    generalize rwO [B] = O2 at *
    generalize rwL [B] = L2 at *
    generalize rwO (ws.take k) = O1 at *
    generalize rwL (ws.take k) = L1 at *
    generalize rwL ws = RL at *
    generalize scD ns = SD at *
    simp [eSl, oNone, sa, sb, ga, gb, l1, s1, s2, s3, s4, s5]
  refine fin_step (env1 := [some (.d (scD ns)), some (.d (rwL ws)), none, some (.d (.int (k : Nat))), some (.d (.str (tx T))), none]) (by
    have ej := eJoin_eq (f := eC (.str " ")) (a := " ") rfl jarg
    rw [jn] at ej
    generalize rwL ws = RL at *
    generalize scD ns = SD at *
    generalize tx T = TT at *
    simp [ej]) ?_
  -- what is no text
  obtain ⟨d, a5, hd5, st⟩ : ∃ (d : PyData) (a5 : Option Ow), (∀ j, mir (j + 3) 2 [d] = .ex "NoText") ∧ (sIf (eB (eBin gEq (eBin gMod (eM (eB (aCons (eVar 0) (aCons (eC (.int 2)) aNil)) (mir (q + 6) 29)) viewD) (eC (.int 5))) (eC (.int 1))) asB)
    (sSeq (sSet 5 (eM (eBin gMod (eM (eB (aCons (eVar 0) (aCons (eC (.int 2)) aNil)) (mir (q + 6) 29)) viewD) (eBin gPow (eC (.int 10)) (eC (.int 9)))) Ow.d))
    (sSet 4 (eM (eBin gIx (eB (eLst (aCons (eC .none) (aCons (eVar 5) (aCons (eC (.bool true)) (aCons (eVar 1) (aCons (eTup (aCons (eC (.str "a")) aNil)) (aCons (eM (eDisp1 "a" "b") viewD) aNil))))))) shD) (eBin gMod (eBin gDiv (eVar 5) (eC (.int 5))) (eC (.int 6)))) Ow.d)))
    sSkip) [some (.d (scD ns)), some (.d (rwL ws)), none, some (.d (.int (k : Nat))), some (.d (.str (tx T))), none] = .nx [some (.d (scD ns)), some (.d (rwL ws)), none, some (.d (.int (k : Nat))), some (.d d), a5] := by
    have m5 : gMod (.int (scCell ns 2)) (.int 5) = some (.int (scCell ns 2 % 5)) := gMod_int (by decide)
    by_cases g : scCell ns 2 % 5 = 1
    · have p9 : gPow (.int 10) (.int 9) = some (.int (10 ^ 9)) := gPow10 9 (by decide)
      have m9 : gMod (.int (scCell ns 2)) (.int (10 ^ 9)) = some (.int (scCell ns 2 % 10 ^ 9)) := gMod_int (by decide)
      obtain ⟨P9, hP9⟩ : ∃ E : Int, E = 10 ^ 9 := ⟨_, rfl⟩
      rw [← hP9] at p9 m9
      obtain ⟨z, hz⟩ : ∃ z, z = scCell ns 2 % P9 := ⟨_, rfl⟩
      rw [← hz] at m9
      have d5 : gDiv (.int z) (.int 5) = some (.int (z / 5)) := gDiv_small (by decide) (by decide)
      have m6 : gMod (.int (z / 5)) (.int 6) = some (.int (z / 5 % 6)) := gMod_int (by decide)
      obtain ⟨d, hd, ix⟩ : ∃ d : PyData, gIsiW "str" d = .ok (.bool false) ∧ gIx (.list [.none, .int z, .bool true, rwL ws, .tuple [.str "a"], .dict [(.str "a", .str "b")]]) (.int (z / 5 % 6)) = some d := by
        rcases (by omega : z / 5 % 6 = 0 ∨ z / 5 % 6 = 1 ∨ z / 5 % 6 = 2 ∨ z / 5 % 6 = 3 ∨ z / 5 % 6 = 4 ∨ z / 5 % 6 = 5) with e | e | e | e | e | e <;> rw [e]
        · exact ⟨_, rfl, rfl⟩
        · exact ⟨_, rfl, rfl⟩
        · exact ⟨_, rfl, rfl⟩
        · exact ⟨rwL ws, rfl, rfl⟩
        · exact ⟨_, rfl, rfl⟩
        · exact ⟨_, rfl, rfl⟩
      refine ⟨d, some (.d (.int z)), fun j => words_no (j + 2) hd, ?_⟩
      have sh6 : ∀ a b c d e f : PyData, shD (.l [.d a, .d b, .d c, .d d, .d e, .d f]) = .ok (.list [a, b, c, d, e, f]) := fun _ _ _ _ _ _ => rfl
      generalize rwL ws = RL at *
      generalize scD ns = SD at *
      generalize tx T = TT at *
      simp [c2, m5, g, p9, m9, d5, m6, eDisp1, sh6, ix, sizeLine_eq]
    · refine ⟨.str (tx T), none, hd, ?_⟩
      generalize rwL ws = RL at *
      generalize scD ns = SD at *
      generalize tx T = TT at *
      simp [c2, m5, g]
  refine fin_step st ?_
  exact rest_ok q _ _ _ _ hd5 hw w12
end G
open PySem PySem.W PyProof.Rows
set_option maxRecDepth 100000 in
set_option maxHeartbeats 0 in
theorem PySem.Challenge.cw_turnery_k04_no_words_holds : PySem.Challenge.rw_turnery_k04_no_words.Holds := by
  w_on; o_law; k_head; (case hw => w_witness2)
  k_fill
  refine Mir.law_end (l := PySem.Challenge.rw_turnery_k04_no_words) (m := G.mir 60 36) 60 "_law_script" rfl rfl ⟨rfl, by decide, by decide⟩ (fun w h Y => PySem.W.kIn_of Y) (fun ns h _ => G.law_true 60 (by decide) ns h) ?F
  case F =>
    intro w mg fa h KX Gn hmg
    refine' G.all_mk 60 KX Gn hmg ?a0 ?l0 ?c0 ?k0 ?a1 ?l1 ?c1 ?k1 ?a2 ?l2 ?c2 ?k2 ?a3 ?l3 ?c3 ?k3 ?a4 ?l4 ?c4 ?k4 ?a5 ?l5 ?c5 ?k5 ?a6 ?l6 ?c6 ?k6 ?a7 ?l7 ?c7 ?k7 ?a8 ?l8 ?c8 ?k8 ?a9 ?l9 ?c9 ?k9 ?a10 ?l10 ?c10 ?k10 ?a11 ?l11 ?c11 ?k11 ?a12 ?l12 ?c12 ?k12 ?a13 ?l13 ?c13 ?k13 ?a14 ?l14 ?c14 ?k14 ?a15 ?l15 ?c15 ?k15 ?a16 ?l16 ?c16 ?k16 ?a17 ?l17 ?c17 ?k17 ?a18 ?l18 ?c18 ?k18 ?a19 ?l19 ?c19 ?k19 ?a20 ?l20 ?c20 ?k20 ?a21 ?l21 ?c21 ?k21 ?a22 ?l22 ?c22 ?k22 ?a23 ?l23 ?c23 ?k23 ?a24 ?l24 ?c24 ?k24 ?a25 ?l25 ?c25 ?k25 ?a26 ?l26 ?c26 ?k26 ?a27 ?l27 ?c27 ?k27 ?a28 ?l28 ?c28 ?k28 ?a29 ?l29 ?c29 ?k29 ?a30 ?l30 ?c30 ?k30 ?a31 ?l31 ?c31 ?k31 ?a32 ?l32 ?c32 ?k32 ?a33 ?l33 ?c33 ?k33 ?a34 ?l34 ?c34 ?k34 ?a35 ?l35 ?c35 ?k35 ?a36 ?l36 ?c36 ?k36 ?z_ValueError ?z_any ?z_int ?z_isinstance ?z_len ?z_list ?z_range ?z_set ?z_sorted ?z_str ?z_sum ?z_tuple ?z_zip ?e_NoText ?e_NoWood ?e_NoTurning ?e_NoName ?e_NoRow ?e_Strays ?e_OtherWood ?e_TooGreat ?e_NoTree ?e_TurnError ?xb_NoText ?xt_NoText ?xd_NoText ?xs_NoText ?xb_NoWood ?xt_NoWood ?xd_NoWood ?xs_NoWood ?xb_NoTurning ?xt_NoTurning ?xd_NoTurning ?xs_NoTurning ?xb_NoName ?xt_NoName ?xd_NoName ?xs_NoName ?xb_NoRow ?xt_NoRow ?xd_NoRow ?xs_NoRow ?xb_Strays ?xt_Strays ?xd_Strays ?xs_Strays ?xb_OtherWood ?xt_OtherWood ?xd_OtherWood ?xs_OtherWood ?xb_TooGreat ?xt_TooGreat ?xd_TooGreat ?xs_TooGreat ?xb_NoTree ?xt_NoTree ?xd_NoTree ?xs_NoTree ?xb_TurnError ?xt_TurnError ?xd_TurnError ?xs_TurnError ?xe_NoText ?xk_NoText ?y0_NoText ?y1_NoText ?y2_NoText ?y3_NoText ?y4_NoText ?y5_NoText ?xe_NoWood ?xk_NoWood ?y0_NoWood ?y1_NoWood ?y2_NoWood ?y3_NoWood ?y4_NoWood ?y5_NoWood ?xe_NoTurning ?xk_NoTurning ?y0_NoTurning ?y1_NoTurning ?y2_NoTurning ?y3_NoTurning ?y4_NoTurning ?y5_NoTurning ?hci_NoText_NoName ?hci_NoWood_NoName ?hci_NoTurning_NoName ?hci_NoText_NoRow ?hci_NoWood_NoRow ?hci_NoTurning_NoRow ?hci_NoText_Strays ?hci_NoWood_Strays ?hci_NoTurning_Strays ?hci_NoText_OtherWood ?hci_NoWood_OtherWood ?hci_NoTurning_OtherWood ?hci_NoText_TooGreat ?hci_NoWood_TooGreat ?hci_NoTurning_TooGreat ?hci_NoText_NoTree ?hci_NoWood_NoTree ?hci_NoTurning_NoTree ?hci_NoText_NoTurning ?hci_NoWood_NoTurning ?hci_NoTurning_NoTurning ?hci_NoText_NoWood ?hci_NoWood_NoWood ?hci_NoTurning_NoWood ?hci_NoText_ValueError ?hci_NoWood_ValueError ?hci_NoTurning_ValueError ?hci_NoText_NoText ?hci_NoWood_NoText ?hci_NoTurning_NoText ?hcm_NoTurning_TurnError ?hcm_NoWood_TurnError ?hcm_NoText_TurnError ?hkn_NoName ?hkn_NoRow ?hkn_Strays ?hkn_OtherWood ?hkn_TooGreat ?hkn_NoTree ?hkn_NoTurning ?hkn_NoWood ?hkn_NoText ?g_FIGURES ?r_FIGURES ?g_LETTERS ?r_LETTERS ?g_SIGNS ?r_SIGNS
    (case a0 => k_is)
    (case l0 => k_is)
    (case c0 => k_is)
    (case k0 => k_is)
    (case a1 => k_is)
    (case l1 => k_is)
    (case c1 => k_is)
    (case k1 => k_is)
    (case a2 => k_is)
    (case l2 => k_is)
    (case c2 => k_is)
    (case k2 => k_is)
    (case a3 => k_is)
    (case l3 => k_is)
    (case c3 => k_is)
    (case k3 => k_is)
    (case a4 => k_is)
    (case l4 => k_is)
    (case c4 => k_is)
    (case k4 => k_is)
    (case a5 => k_is)
    (case l5 => k_is)
    (case c5 => k_is)
    (case k5 => k_is)
    (case a6 => k_is)
    (case l6 => k_is)
    (case c6 => k_is)
    (case k6 => k_is)
    (case a7 => k_is)
    (case l7 => k_is)
    (case c7 => k_is)
    (case k7 => k_is)
    (case a8 => k_is)
    (case l8 => k_is)
    (case c8 => k_is)
    (case k8 => k_is)
    (case a9 => k_is)
    (case l9 => k_is)
    (case c9 => k_is)
    (case k9 => k_is)
    (case a10 => k_is)
    (case l10 => k_is)
    (case c10 => k_is)
    (case k10 => k_is)
    (case a11 => k_is)
    (case l11 => k_is)
    (case c11 => k_is)
    (case k11 => k_is)
    (case a12 => k_is)
    (case l12 => k_is)
    (case c12 => k_is)
    (case k12 => k_is)
    (case a13 => k_is)
    (case l13 => k_is)
    (case c13 => k_is)
    (case k13 => k_is)
    (case a14 => k_is)
    (case l14 => k_is)
    (case c14 => k_is)
    (case k14 => k_is)
    (case a15 => k_is)
    (case l15 => k_is)
    (case c15 => k_is)
    (case k15 => k_is)
    (case a16 => k_is)
    (case l16 => k_is)
    (case c16 => k_is)
    (case k16 => k_is)
    (case a17 => k_is)
    (case l17 => k_is)
    (case c17 => k_is)
    (case k17 => k_is)
    (case a18 => k_is)
    (case l18 => k_is)
    (case c18 => k_is)
    (case k18 => k_is)
    (case a19 => k_is)
    (case l19 => k_is)
    (case c19 => k_is)
    (case k19 => k_is)
    (case a20 => k_is)
    (case l20 => k_is)
    (case c20 => k_is)
    (case k20 => k_is)
    (case a21 => k_is)
    (case l21 => k_is)
    (case c21 => k_is)
    (case k21 => k_is)
    (case a22 => k_is)
    (case l22 => k_is)
    (case c22 => k_is)
    (case k22 => k_is)
    (case a23 => k_is)
    (case l23 => k_is)
    (case c23 => k_is)
    (case k23 => k_is)
    (case a24 => k_is)
    (case l24 => k_is)
    (case c24 => k_is)
    (case k24 => k_is)
    (case a25 => k_is)
    (case l25 => k_is)
    (case c25 => k_is)
    (case k25 => k_is)
    (case a26 => k_is)
    (case l26 => k_is)
    (case c26 => k_is)
    (case k26 => k_is)
    (case a27 => k_is)
    (case l27 => k_is)
    (case c27 => k_is)
    (case k27 => k_is)
    (case a28 => k_is)
    (case l28 => k_is)
    (case c28 => k_is)
    (case k28 => k_is)
    (case a29 => k_is)
    (case l29 => k_is)
    (case c29 => k_is)
    (case k29 => k_is)
    (case a30 => k_is)
    (case l30 => k_is)
    (case c30 => k_is)
    (case k30 => k_is)
    (case a31 => k_is)
    (case l31 => k_is)
    (case c31 => k_is)
    (case k31 => k_is)
    (case a32 => k_is)
    (case l32 => k_is)
    (case c32 => k_is)
    (case k32 => k_is)
    (case a33 => k_is)
    (case l33 => k_is)
    (case c33 => k_is)
    (case k33 => k_is)
    (case a34 => k_is)
    (case l34 => k_is)
    (case c34 => k_is)
    (case k34 => k_is)
    (case a35 => k_is)
    (case l35 => k_is)
    (case c35 => k_is)
    (case k35 => k_is)
    (case a36 => k_is)
    (case l36 => k_is)
    (case c36 => k_is)
    (case k36 => k_is)
    (case z_ValueError => k_is)
    (case z_any => k_is)
    (case z_int => k_is)
    (case z_isinstance => k_is)
    (case z_len => k_is)
    (case z_list => k_is)
    (case z_range => k_is)
    (case z_set => k_is)
    (case z_sorted => k_is)
    (case z_str => k_is)
    (case z_sum => k_is)
    (case z_tuple => k_is)
    (case z_zip => k_is)
    (case e_NoText => k_is)
    (case e_NoWood => k_is)
    (case e_NoTurning => k_is)
    (case e_NoName => k_is)
    (case e_NoRow => k_is)
    (case e_Strays => k_is)
    (case e_OtherWood => k_is)
    (case e_TooGreat => k_is)
    (case e_NoTree => k_is)
    (case e_TurnError => k_is)
    (case xb_NoText => k_is)
    (case xt_NoText => k_is)
    (case xd_NoText => k_is)
    (case xs_NoText => k_is)
    (case xb_NoWood => k_is)
    (case xt_NoWood => k_is)
    (case xd_NoWood => k_is)
    (case xs_NoWood => k_is)
    (case xb_NoTurning => k_is)
    (case xt_NoTurning => k_is)
    (case xd_NoTurning => k_is)
    (case xs_NoTurning => k_is)
    (case xb_NoName => k_is)
    (case xt_NoName => k_is)
    (case xd_NoName => k_is)
    (case xs_NoName => k_is)
    (case xb_NoRow => k_is)
    (case xt_NoRow => k_is)
    (case xd_NoRow => k_is)
    (case xs_NoRow => k_is)
    (case xb_Strays => k_is)
    (case xt_Strays => k_is)
    (case xd_Strays => k_is)
    (case xs_Strays => k_is)
    (case xb_OtherWood => k_is)
    (case xt_OtherWood => k_is)
    (case xd_OtherWood => k_is)
    (case xs_OtherWood => k_is)
    (case xb_TooGreat => k_is)
    (case xt_TooGreat => k_is)
    (case xd_TooGreat => k_is)
    (case xs_TooGreat => k_is)
    (case xb_NoTree => k_is)
    (case xt_NoTree => k_is)
    (case xd_NoTree => k_is)
    (case xs_NoTree => k_is)
    (case xb_TurnError => k_is)
    (case xt_TurnError => k_is)
    (case xd_TurnError => k_is)
    (case xs_TurnError => k_is)
    (case xe_NoText => k_exc)
    (case xk_NoText => k_is)
    (case y0_NoText => k_is)
    (case y1_NoText => k_is)
    (case y2_NoText => k_is)
    (case y3_NoText => k_is)
    (case y4_NoText => k_is)
    (case y5_NoText => k_is)
    (case xe_NoWood => k_exc)
    (case xk_NoWood => k_is)
    (case y0_NoWood => k_is)
    (case y1_NoWood => k_is)
    (case y2_NoWood => k_is)
    (case y3_NoWood => k_is)
    (case y4_NoWood => k_is)
    (case y5_NoWood => k_is)
    (case xe_NoTurning => k_exc)
    (case xk_NoTurning => k_is)
    (case y0_NoTurning => k_is)
    (case y1_NoTurning => k_is)
    (case y2_NoTurning => k_is)
    (case y3_NoTurning => k_is)
    (case y4_NoTurning => k_is)
    (case y5_NoTurning => k_is)
    (case hci_NoText_NoName => k_is)
    (case hci_NoWood_NoName => k_is)
    (case hci_NoTurning_NoName => k_is)
    (case hci_NoText_NoRow => k_is)
    (case hci_NoWood_NoRow => k_is)
    (case hci_NoTurning_NoRow => k_is)
    (case hci_NoText_Strays => k_is)
    (case hci_NoWood_Strays => k_is)
    (case hci_NoTurning_Strays => k_is)
    (case hci_NoText_OtherWood => k_is)
    (case hci_NoWood_OtherWood => k_is)
    (case hci_NoTurning_OtherWood => k_is)
    (case hci_NoText_TooGreat => k_is)
    (case hci_NoWood_TooGreat => k_is)
    (case hci_NoTurning_TooGreat => k_is)
    (case hci_NoText_NoTree => k_is)
    (case hci_NoWood_NoTree => k_is)
    (case hci_NoTurning_NoTree => k_is)
    (case hci_NoText_NoTurning => k_is)
    (case hci_NoWood_NoTurning => k_is)
    (case hci_NoTurning_NoTurning => k_is)
    (case hci_NoText_NoWood => k_is)
    (case hci_NoWood_NoWood => k_is)
    (case hci_NoTurning_NoWood => k_is)
    (case hci_NoText_ValueError => k_is)
    (case hci_NoWood_ValueError => k_is)
    (case hci_NoTurning_ValueError => k_is)
    (case hci_NoText_NoText => k_is)
    (case hci_NoWood_NoText => k_is)
    (case hci_NoTurning_NoText => k_is)
    (case hcm_NoTurning_TurnError => k_is)
    (case hcm_NoWood_TurnError => k_is)
    (case hcm_NoText_TurnError => k_is)
    (case hkn_NoName => k_is)
    (case hkn_NoRow => k_is)
    (case hkn_Strays => k_is)
    (case hkn_OtherWood => k_is)
    (case hkn_TooGreat => k_is)
    (case hkn_NoTree => k_is)
    (case hkn_NoTurning => k_is)
    (case hkn_NoWood => k_is)
    (case hkn_NoText => k_is)
    (case g_FIGURES => k_is)
    (case g_LETTERS => k_is)
    (case g_SIGNS => k_is)
    (case r_FIGURES => exact ⟨_, rfl⟩)
    (case r_LETTERS => exact ⟨_, rfl⟩)
    (case r_SIGNS => exact ⟨_, rfl⟩)


import PyProof.Rows.All
import Wide.All
import OpenK.AllK
import Wide.FinOn
import HandS.ForMost
import HandS.ForExc
import HandS.Walk
import HandS.TupAny
import HandS.Wide
import HandS.IsInst
import KE.KDictKeyed
import PyProof.P3Eq
import PyProof.NeData
import PyProof.Rows.SeqMore
import KE.GoesNew
import KE.GoesMore
import KE.GoesEnum
import HandS.Zip
import PyProof.AutoSeq1
import HandS.More
import KE.SortData
import HandS.EndBits
import HandS.Steps
import HandS.Rev
import PyProof.StrOps2
import HandS.Text
import HandS.Dict
import KE.KDictSum
import HandS.ExcIs
import HandS.TryOnly
import HandS.RevRange
import HandS.List
import PyProof.StrCalls
import KE.DataMinMax
import HandS.Style
import HandS.TupMul
import HandS.TupLen
import KE.KDictZip
import HandS.ListItems
import HandS.NoneIn
import PySem.Challenge.RW_turnery_k26_outcomes_too_great
set_option Elab.async false
set_option linter.all false
set_option maxRecDepth 100000
set_option maxHeartbeats 4000000
noncomputable section
namespace Mir
open PySem PySem.Spec L2

abbrev D := PyData
/-- what stands in the program's heap, and the world -/
structure Kw where
  K : PySem.W.Frag
  w : World
instance : CoeOut Kw PySem.W.Frag := ⟨Kw.K⟩
/-- a value in a mirror: data that stays, or a list or a dict that the def owns -/
inductive Ow where
  | d (x : D)
  | l (xs : List Ow)
  | m (kvs : List (D × D))
  /-- a tuple with own things in it -/
  | t (xs : List Ow)
  /-- a dict whose keys are whole numbers and texts, and one whose keys are tuples; its values may be own -/
  | k (ks : List D) (xs : List Ow)
  | n (ks : List D) (xs : List Ow)
  /-- an instance of a class, its fields by names -/
  | o (c : Str) (ns : List Str) (xs : List Ow)
abbrev Ev := List (Option Ow)
abbrev _root_.L2.Cx.KK (X : L2.Cx) : Kw := ⟨X.K, X.w⟩

/-- a pure outcome: none (not mirrored), a value, an exception's class -/
inductive R (α : Type) where
  | no
  | ok (a : α)
  | ex (c : Str)
def R.bind {α β : Type} : R α → (α → R β) → R β
  | .no, _ => .no
  | .ok a, f => f a
  | .ex c, _ => .ex c
@[simp] theorem R.bind_ok {α β : Type} (a : α) (f : α → R β) : (R.ok a).bind f = f a := rfl
@[simp] theorem R.bind_no {α β : Type} (f : α → R β) : (R.no : R α).bind f = .no := rfl
@[simp] theorem R.bind_ex {α β : Type} (c : Str) (f : α → R β) : (R.ex c : R α).bind f = .ex c := rfl
def R.map {α β : Type} (f : α → β) (r : R α) : R β := r.bind fun a => .ok (f a)
@[simp] theorem R.map_ok {α β : Type} (a : α) (f : α → β) : (R.ok a).map f = .ok (f a) := rfl
/-- r where c holds (by a choice that nothing reckons with) -/
def guard (c : Prop) {α : Type} (r : R α) : R α := @ite _ c (Classical.propDecidable c) r .no
@[simp] theorem guard_pos {c : Prop} {α : Type} {r : R α} (h : c) : guard c r = r := @if_pos _ (Classical.propDecidable c) h _ _ _

/-- how an exception of a class, and any instance, is told as data -/
def excD (c : Str) : D := .dict [(.none, .str c)]
def insD : D := .dict [(.none, .none)]
mutual
def viewD : Ow → D
  | .d x => x
  | .l xs => .list (viewAll xs)
  | .m kvs => .dict kvs
  | .t xs => .tuple (viewAll xs)
  | .k ks xs => .dict (ks.zip (viewAll xs))
  | .n ks xs => .dict (ks.zip (viewAll xs))
  | .o _ _ _ => insD
def viewAll : List Ow → List D
  | [] => []
  | x :: xs => viewD x :: viewAll xs
end
@[simp] theorem viewD_d (x : D) : viewD (.d x) = x := by unfold viewD; rfl
@[simp] theorem viewD_m (kvs : List (D × D)) : viewD (.m kvs) = .dict kvs := by rw [viewD]
@[simp] theorem viewD_l (xs : List Ow) : viewD (.l xs) = .list (viewAll xs) := by rw [viewD]
@[simp] theorem viewD_t (xs : List Ow) : viewD (.t xs) = .tuple (viewAll xs) := by rw [viewD]
@[simp] theorem viewD_k (ks : List D) (xs : List Ow) : viewD (.k ks xs) = .dict (ks.zip (viewAll xs)) := by rw [viewD]
@[simp] theorem viewD_n (ks : List D) (xs : List Ow) : viewD (.n ks xs) = .dict (ks.zip (viewAll xs)) := by rw [viewD]
@[simp] theorem viewD_o (c : Str) (ns : List Str) (xs : List Ow) : viewD (.o c ns xs) = insD := by rw [viewD]
@[simp] theorem viewAll_nil : viewAll [] = [] := by rw [viewAll]
@[simp] theorem viewAll_cons (x : Ow) (xs : List Ow) : viewAll (x :: xs) = viewD x :: viewAll xs := by rw [viewAll]
theorem viewAll_map : ∀ xs : List Ow, viewAll xs = xs.map viewD
  | [] => by rw [viewAll]; rfl
  | x :: xs => by rw [viewAll, viewAll_map xs]; rfl
@[simp] theorem viewAll_mapd : ∀ xs : List D, viewAll (xs.map Ow.d) = xs
  | [] => by simp
  | x :: xs => by simp [viewAll_mapd xs]

/-- a dict's key as data -/
def keyD : Key → D
  | .inl i => .int i
  | .inr z => .str z
/-- an exception of a class of the program's own -/
def excO (K : Kw) (a : Addr) (c : Str) : HO := .ext fun h => ∃ C oe vs, PySem.W.nsIn K.K mainGlobals c = some (some (.ref C)) ∧ h.get? a = some oe ∧ Zc (.ref C) none oe ∧ oe.data = .fields vs
/-- a dict whose keys are tuples, nested ones among them -/
def rowN (w : World) (x : NestedKey × Addr × Value) : DictEntry := ⟨x.1.hash w, .ref x.2.1, x.2.2⟩
def RelN (p : NestedKey × Addr × V) (q : NestedKey × Addr × Value) : Prop := p.1 = q.1 ∧ p.2.1 = q.2.1 ∧ RelV p.2.2 q.2.2
def dnO (w : World) (a : Addr) (kvs : List (NestedKey × Addr × V)) : HO := .ext fun h => kvs.length ≤ sizeLine ∧ (a == sysModules) = false ∧ ∃ xs : List (NestedKey × Addr × Value), Paired RelN kvs xs ∧
  ∃ o es ep, h.get? a = some o ∧ o.ExactDict ∧ o.data = .dict es ep ∧ es.toList = xs.map (rowN w) ∧ (xs.map (·.1)).Nodup
mutual
inductive Dp (K : Kw) (H : Hp) : V → PyData → Prop
  | non : Dp K H .non .none
  | bl (b : Bool) : Dp K H (.bl b) (.bool b)
  | int (i : Int) : Dp K H (.int i) (.int i)
  | str (x : Str) : Dp K H (.str x) (.str x)
  | lst {a : Addr} {xs : List V} {ds : List PyData} : SqL K.K H a xs → DpAll K H xs ds → Dp K H (.ref a) (.list ds)
  | tup {a : Addr} {xs : List V} {ds : List PyData} : SqT K.K H a xs → DpAll K H xs ds → Dp K H (.ref a) (.tuple ds)
  | dct {a : Addr} {kvs : List (Key × V)} {ps : List (PyData × PyData)} : Rd H a (.dK kvs) → DpKv K H kvs ps → Dp K H (.ref a) (.dict ps)
  | dcn {a : Addr} {kvs : List (NestedKey × Addr × V)} {ps : List (PyData × PyData)} : Rd H a (dnO K.w a kvs) → DpKn K H kvs ps → Dp K H (.ref a) (.dict ps)
  | exc {a : Addr} {c : Str} : Rd H a (excO K a c) → Dp K H (.ref a) (.dict [(.none, .str c)])
  | ins {a C dx : Addr} {fs : List (Str × V)} : H a = some (.ins C dx fs) → Dp K H (.ref a) (.dict [(.none, .none)])
inductive DpAll (K : Kw) (H : Hp) : List V → List PyData → Prop
  | nil : DpAll K H [] []
  | cons {v : V} {vs : List V} {d : PyData} {ds : List PyData} : Dp K H v d → DpAll K H vs ds → DpAll K H (v :: vs) (d :: ds)
inductive DpKv (K : Kw) (H : Hp) : List (Key × V) → List (PyData × PyData) → Prop
  | nil : DpKv K H [] []
  | cons {k : Key} {v : V} {kvs : List (Key × V)} {d : PyData} {ps : List (PyData × PyData)} : Dp K H v d → DpKv K H kvs ps → DpKv K H ((k, v) :: kvs) ((keyD k, d) :: ps)
inductive DpKn (K : Kw) (H : Hp) : List (NestedKey × Addr × V) → List (PyData × PyData) → Prop
  | nil : DpKn K H [] []
  | cons {k : NestedKey} {b : Addr} {v : V} {kvs : List (NestedKey × Addr × V)} {d : PyData} {ps : List (PyData × PyData)} : Dp K H (.ref b) k.data → k.depth ≤ 8 → Dp K H v d → DpKn K H kvs ps → DpKn K H ((k, b, v) :: kvs) ((k.data, d) :: ps)
end
section
variable {K : Kw}
theorem Same.rd {H H' : Hp} {a : Addr} {u : HO} (e : Same H H') (h : Rd H a u) : Rd H' a u := by
  rcases h with h | ⟨o, h⟩
  · exact .inl (e _ _ h)
  · exact .inr ⟨o, e _ _ h⟩
theorem SqT_mono {K : PySem.W.Frag} {H H' : Hp} {a : Addr} {xs : List V} (e : Same H H') (h : SqT K H a xs) : SqT K H' a xs := by
  rcases h with (h | ⟨o, h⟩) | h
  · exact .inl (.inl (e _ _ h))
  · exact .inl (.inr ⟨o, e _ _ h⟩)
  · exact .inr h
mutual
theorem Dp.mono {H H' : Hp} (e : Same H H') : ∀ (d : D) (v : V), Dp K H v d → Dp K H' v d
  | .none, _, h => by cases h; exact .non
  | .bool b, _, h => by cases h; exact .bl b
  | .int b, _, h => by cases h; exact .int b
  | .str b, _, h => by cases h; exact .str b
  | .list ds, _, h => by
    cases h with
    | lst hs ha => exact .lst (e.seq hs) (DpAll.mono e ds _ ha)
  | .tuple ds, _, h => by
    cases h with
    | tup hs ha => exact .tup (SqT_mono e hs) (DpAll.mono e ds _ ha)
  | .dict ps, _, h => by
    cases h with
    | dct hs ha => exact .dct (Same.rd e hs) (DpKv.mono e ps _ ha)
    | dcn hs ha => exact .dcn (Same.rd e hs) (DpKn.mono e ps _ ha)
    | exc hs => exact .exc (Same.rd e hs)
    | ins hs => exact .ins (e _ _ hs)
theorem DpAll.mono {H H' : Hp} (e : Same H H') : ∀ (ds : List D) (vs : List V), DpAll K H vs ds → DpAll K H' vs ds
  | [], _, h => by cases h; exact .nil
  | d :: ds, _, h => by
    cases h with
    | cons h1 h2 => exact .cons (Dp.mono e d _ h1) (DpAll.mono e ds _ h2)
theorem DpKv.mono {H H' : Hp} (e : Same H H') : ∀ (ps : List (D × D)) (kvs : List (Key × V)), DpKv K H kvs ps → DpKv K H' kvs ps
  | [], _, h => by cases h; exact .nil
  | (x, d) :: ps, _, h => by
    cases h with
    | cons h1 h2 => exact .cons (Dp.mono e d _ h1) (DpKv.mono e ps _ h2)
theorem DpKn.mono {H H' : Hp} (e : Same H H') : ∀ (ps : List (D × D)) (kvs : List (NestedKey × Addr × V)), DpKn K H kvs ps → DpKn K H' kvs ps
  | [], _, h => by cases h; exact .nil
  | (x, d) :: ps, _, h => by
    cases h with
    | cons h0 h1 h2 h3 => exact .cons (Dp.mono e _ _ h0) h1 (Dp.mono e d _ h2) (DpKn.mono e ps _ h3)
end
mutual
/-- as the kit has it, where no dict is within -/
theorem Dp.kit {H : Hp} : ∀ (d : D) (v : V), Dp K H v d → d.canLay0 = true → L2.Dp K.K H v d
  | .none, _, h, _ => by cases h; exact .non
  | .bool b, _, h, _ => by cases h; exact .bl b
  | .int b, _, h, _ => by cases h; exact .int b
  | .str b, _, h, _ => by cases h; exact .str b
  | .list ds, _, h, c => by
    cases h with
    | lst hs ha => exact .lst hs (DpAll.kit ds _ ha (by rw [PyData.canLay0] at c; exact c))
  | .tuple ds, _, h, c => by
    cases h with
    | tup hs ha => exact .tup hs (DpAll.kit ds _ ha (by rw [PyData.canLay0] at c; exact c))
  | .dict _, _, _, c => by rw [PyData.canLay0] at c; cases c
theorem DpAll.kit {H : Hp} : ∀ (ds : List D) (vs : List V), DpAll K H vs ds → PyData.canLayAll0 ds = true → L2.DpAll K.K H vs ds
  | [], _, h, _ => by cases h; exact .nil
  | d :: ds, _, h, c => by
    rw [PyData.canLayAll0, Bool.and_eq_true] at c
    cases h with
    | cons h1 h2 => exact .cons (Dp.kit d _ h1 c.1) (DpAll.kit ds _ h2 c.2)
end
theorem dpUp {H H' : Hp} {v : V} {d : D} (h : Dp K H v d) (e : Same H H') : Dp K H' v d := Dp.mono e d v h
theorem dpaUp {H H' : Hp} {v : List V} {d : List D} (h : DpAll K H v d) (e : Same H H') : DpAll K H' v d := DpAll.mono e d v h
theorem DpAll.len {H : Hp} : ∀ {vs : List V} {ds : List D}, DpAll K H vs ds → vs.length = ds.length
  | _, [], h => by cases h; rfl
  | _, d :: ds, h => by
    cases h with
    | cons h1 h2 => simp [DpAll.len h2]
theorem DpAll.get {H : Hp} : ∀ {vs : List V} {ds : List D} {i : Nat} {d : D}, DpAll K H vs ds → ds[i]? = some d → ∃ v, vs[i]? = some v ∧ Dp K H v d
  | _, [], i, d, h, e => by simp at e
  | _, x :: ds, 0, d, h, e => by
    cases h with
    | cons h1 h2 => simp at e; subst e; exact ⟨_, rfl, h1⟩
  | _, x :: ds, i + 1, d, h, e => by
    cases h with
    | cons h1 h2 =>
      obtain ⟨v, q, r⟩ := DpAll.get (i := i) h2 (by simpa using e)
      exact ⟨v, by simpa using q, r⟩
theorem DpAll.getV {H : Hp} : ∀ {vs : List V} {ds : List D} {i : Nat} {v : V}, DpAll K H vs ds → vs[i]? = some v → ∃ d, ds[i]? = some d ∧ Dp K H v d
  | _, [], i, v, h, e => by cases h; simp at e
  | _, x :: ds, 0, v, h, e => by
    cases h with
    | cons h1 h2 => simp at e; subst e; exact ⟨_, rfl, h1⟩
  | _, x :: ds, i + 1, v, h, e => by
    cases h with
    | cons h1 h2 =>
      obtain ⟨d, q, r⟩ := DpAll.getV (i := i) h2 (by simpa using e)
      exact ⟨d, by simpa using q, r⟩
theorem DpAll.append {H : Hp} : ∀ {vs ws : List V} {ds es : List D}, DpAll K H vs ds → DpAll K H ws es → DpAll K H (vs ++ ws) (ds ++ es)
  | _, _, [], _, h, g => by cases h; exact g
  | _, _, d :: ds, _, h, g => by
    cases h with
    | cons h1 h2 => exact .cons h1 (DpAll.append h2 g)
theorem DpAll.take {H : Hp} : ∀ {vs : List V} {ds : List D} (n : Nat), DpAll K H vs ds → DpAll K H (vs.take n) (ds.take n)
  | _, [], n, h => by cases h; simp; exact .nil
  | _, d :: ds, 0, h => by simp; exact .nil
  | _, d :: ds, n + 1, h => by
    cases h with
    | cons h1 h2 => exact .cons h1 (DpAll.take n h2)
theorem DpAll.drop {H : Hp} : ∀ {vs : List V} {ds : List D} (n : Nat), DpAll K H vs ds → DpAll K H (vs.drop n) (ds.drop n)
  | _, [], n, h => by cases h; simp; exact .nil
  | _, d :: ds, 0, h => h
  | _, d :: ds, n + 1, h => by
    cases h with
    | cons h1 h2 => exact DpAll.drop n h2
theorem DpAll.of_ints {H : Hp} : ∀ (ns : List Int), DpAll K H (ns.map V.int) (ns.map PyData.int)
  | [] => .nil
  | n :: ns => .cons (.int n) (DpAll.of_ints ns)

/-- frozen facts F, the tracked heap H, behind a step that changes nothing that stood -/
structure Ext (F H F' H' : Hp) : Prop where
  ff : Same F F'
  hh : Same H H'
  fn : ∀ b o, F' b = some o → F b = some o ∨ H b = none
  fh : Same F' H'
theorem Ext.refl {F H : Hp} (h : Same F H) : Ext F H F H := ⟨Same.refl _, Same.refl _, fun _ _ h => .inl h, h⟩
theorem Ext.trans {F H F1 H1 F2 H2 : Hp} (a : Ext F H F1 H1) (b : Ext F1 H1 F2 H2) : Ext F H F2 H2 :=
  ⟨a.ff.trans b.ff, a.hh.trans b.hh, fun c o h => by
    rcases b.fn c o h with q | q
    · exact a.fn c o q
    · exact .inr (a.hh.free q), b.fh⟩
theorem free_of {F H : Hp} (s : Same F H) {p : Addr} (h : H p = none) : F p = none := s.free h
theorem same_upd {H : Hp} {p : Addr} (h : H p = none) (o : HO) : Same H (upd H p o) := fun b u q => by rw [upd_ne (ne_of_none q h)]; exact q
theorem same_upd2 {F H : Hp} (s : Same F H) {p : Addr} (h : H p = none) (o : HO) : Same (upd F p o) (upd H p o) := fun b u q => by
  by_cases e : b = p
  · subst e; rw [upd_same] at q ⊢; exact q
  · rw [upd_ne e] at q ⊢; exact s _ _ q
/-- a new object, frozen at once -/
theorem Ext.frz {F H : Hp} (s : Same F H) {p : Addr} (h : H p = none) (o : HO) : Ext F H (upd F p o) (upd H p o) :=
  ⟨same_upd (free_of s h) o, same_upd h o, fun b u q => by
    by_cases e : b = p
    · subst e; exact .inr h
    · rw [upd_ne e] at q; exact .inl q, same_upd2 s h o⟩
/-- a new object of the def's own -/
theorem Ext.own {F H : Hp} (s : Same F H) {p : Addr} (h : H p = none) (o : HO) : Ext F H F (upd H p o) :=
  ⟨Same.refl _, same_upd h o, fun _ _ q => .inl q, s.trans (same_upd h o)⟩

mutual
inductive OwnAt (K : Kw) (F H : Hp) : V → Ow → List Addr → Prop
  | d {v : V} {x : D} : Dp K F v x → OwnAt K F H v (.d x) []
  | l {a : Addr} {vs : List V} {os : List Ow} {fp : List Addr} : F a = none → H a = some (.lst vs) → OwnAll K F H vs os fp → OwnAt K F H (.ref a) (.l os) (a :: fp)
  | m {a : Addr} {kvs : List (Key × V)} {ps : List (D × D)} : F a = none → H a = some (.dK kvs) → DpKv K F kvs ps → OwnAt K F H (.ref a) (.m ps) [a]
  | t {a : Addr} {vs : List V} {os : List Ow} {fp : List Addr} : SqT K.K F a vs → OwnAll K F H vs os fp → OwnAt K F H (.ref a) (.t os) fp
  | k {a : Addr} {kvs : List (Key × V)} {os : List Ow} {fp : List Addr} : F a = none → H a = some (.dK kvs) → OwnAll K F H (kvs.map (·.2)) os fp → OwnAt K F H (.ref a) (.k (kvs.map fun p => keyD p.1) os) (a :: fp)
  | n {a : Addr} {kvs : List (NestedKey × Addr × V)} {os : List Ow} {fp : List Addr} : F a = none → H a = some (dnO K.w a kvs) → (∀ p ∈ kvs, Dp K F (.ref p.2.1) p.1.data ∧ p.1.depth ≤ 8) → OwnAll K F H (kvs.map (·.2.2)) os fp → OwnAt K F H (.ref a) (.n (kvs.map (·.1.data)) os) (a :: fp)
  | o {c : Str} {a C dx : Addr} {fs : List (Str × V)} {os : List Ow} {fp : List Addr} : PySem.W.nsIn K.K mainGlobals c = some (some (.ref C)) → F a = none → F dx = none → H a = some (.ins C dx fs) → H dx = some (.own a) → OwnAll K F H (fs.map (·.2)) os fp → OwnAt K F H (.ref a) (.o c (fs.map (·.1)) os) (a :: dx :: fp)
inductive OwnAll (K : Kw) (F H : Hp) : List V → List Ow → List Addr → Prop
  | nil : OwnAll K F H [] [] []
  | cons {v : V} {vs : List V} {o : Ow} {os : List Ow} {fp fps : List Addr} : OwnAt K F H v o fp → OwnAll K F H vs os fps → OwnAll K F H (v :: vs) (o :: os) (fp ++ fps)
end
/-- the step of a statement: what is owned (fp) may change -/
structure StepS (F H : Hp) (fp : List Addr) (F' H' : Hp) (fp' : List Addr) : Prop where
  ff : Same F F'
  fr : ∀ b o, H b = some o → b ∉ fp → H' b = some o
  fn : ∀ b o, F' b = some o → F b = some o ∨ b ∈ fp ∨ H b = none
  sub : ∀ b ∈ fp', b ∈ fp ∨ H b = none
theorem StepS.of_ext {F H F' H' : Hp} (e : Ext F H F' H') (fp : List Addr) : StepS F H fp F' H' fp :=
  ⟨e.ff, fun b o h _ => e.hh b o h, fun b o h => (e.fn b o h).imp id .inr, fun b h => .inl h⟩
theorem StepS.trans {F H F1 H1 F2 H2 : Hp} {fp fp1 fp2 : List Addr} (a : StepS F H fp F1 H1 fp1) (b : StepS F1 H1 fp1 F2 H2 fp2) : StepS F H fp F2 H2 fp2 := by
  have nn : ∀ c, H1 c = none → c ∈ fp ∨ H c = none := fun c h => by
    cases q : H c with
    | none => exact .inr rfl
    | some o =>
      by_cases hc : c ∈ fp
      · exact .inl hc
      · rw [a.fr c o q hc] at h; cases h
  refine ⟨a.ff.trans b.ff, fun c o h hc => b.fr c o (a.fr c o h hc) fun z => ?_, fun c o h => ?_, fun c h => ?_⟩
  · rcases a.sub c z with q | q
    · exact hc q
    · rw [h] at q; cases q
  · rcases b.fn c o h with q | q | q
    · exact a.fn c o q
    · exact .inr (a.sub c q)
    · exact .inr (nn c q)
  · rcases b.sub c h with q | q
    · exact a.sub c q
    · exact nn c q
theorem StepS.mono {F H F1 H1 : Hp} {fp fp' fp1 : List Addr} (a : StepS F H fp F1 H1 fp1) (h : ∀ b ∈ fp, b ∈ fp') : StepS F H fp' F1 H1 fp1 :=
  ⟨a.ff, fun b o q n => a.fr b o q fun z => n (h b z), fun b o q => (a.fn b o q).imp id (.imp (h b) id), fun b q => (a.sub b q).imp (h b) id⟩
theorem StepS.subset {F H F1 H1 : Hp} {fp fp1 fp2 : List Addr} (a : StepS F H fp F1 H1 fp1) (h : ∀ b ∈ fp2, b ∈ fp1) : StepS F H fp F1 H1 fp2 :=
  ⟨a.ff, a.fr, a.fn, fun b q => a.sub b (h b q)⟩
theorem StepS.none_of {F H F' H' : Hp} {fx fy : List Addr} {a : Addr} {o : HO} (s : StepS F H fx F' H' fy) (h1 : F a = none) (h2 : H a = some o) (na : a ∉ fx) : F' a = none := by
  cases q : F' a with
  | none => rfl
  | some u =>
    rcases s.fn a u q with z | z | z
    · rw [h1] at z; cases z
    · exact absurd z na
    · rw [h2] at z; cases z

mutual
/-- what is owned apart from what changes stays -/
theorem OwnAt.keep {F H F' H' : Hp} {fx fy : List Addr} (s : StepS F H fx F' H' fy) : ∀ (o : Ow) (v : V) (fp : List Addr), OwnAt K F H v o fp → (∀ b ∈ fp, b ∉ fx) → OwnAt K F' H' v o fp
  | .d x, v, fp, h, _ => by
    cases h with
    | d q => exact .d (dpUp q s.ff)
  | .l os, v, fp, h, n => by
    cases h with
    | @l a vs _ fps h1 h2 h3 =>
      have na : a ∉ fx := n a List.mem_cons_self
      refine .l ?_ (s.fr _ _ h2 na) (OwnAll.keep s os vs fps h3 fun b hb => n b (List.mem_cons_of_mem _ hb))
      cases q : F' a with
      | none => rfl
      | some u =>
        rcases s.fn a u q with z | z | z
        · rw [h1] at z; cases z
        · exact absurd z na
        · rw [h2] at z; cases z
  | .m ps, v, fp, h, n => by
    cases h with
    | @m a kvs _ h1 h2 h3 =>
      have na : a ∉ fx := n a List.mem_cons_self
      refine .m ?_ (s.fr _ _ h2 na) (DpKv.mono s.ff ps _ h3)
      cases q : F' a with
      | none => rfl
      | some u =>
        rcases s.fn a u q with z | z | z
        · rw [h1] at z; cases z
        · exact absurd z na
        · rw [h2] at z; cases z
  | .t os, v, fp, h, n => by
    cases h with
    | @t a vs _ _ h1 h2 => exact .t (SqT_mono s.ff h1) (OwnAll.keep s os vs fp h2 n)
  | .k _ os, v, fp, h, n => by
    cases h with
    | @k a kvs _ fps h1 h2 h3 =>
      have na : a ∉ fx := n a List.mem_cons_self
      refine .k (s.none_of h1 h2 na) (s.fr _ _ h2 na) (OwnAll.keep s os _ fps h3 fun b hb => n b (List.mem_cons_of_mem _ hb))
  | .n _ os, v, fp, h, n => by
    cases h with
    | @n a kvs _ fps h1 h2 h3 h4 =>
      have na : a ∉ fx := n a List.mem_cons_self
      refine .n (s.none_of h1 h2 na) (s.fr _ _ h2 na) (fun p hp => ⟨Dp.mono s.ff _ _ (h3 p hp).1, (h3 p hp).2⟩) (OwnAll.keep s os _ fps h4 fun b hb => n b (List.mem_cons_of_mem _ hb))
  | .o _ _ os, v, fp, h, n => by
    cases h with
    | @o c a C dx fs _ fps h0 h1 h2 h3 h4 h5 =>
      have na : a ∉ fx := n a List.mem_cons_self
      have nd : dx ∉ fx := n dx (List.mem_cons_of_mem _ List.mem_cons_self)
      exact .o h0 (s.none_of h1 h3 na) (s.none_of h2 h4 nd) (s.fr _ _ h3 na) (s.fr _ _ h4 nd) (OwnAll.keep s os _ fps h5 fun b hb => n b (List.mem_cons_of_mem _ (List.mem_cons_of_mem _ hb)))
theorem OwnAll.keep {F H F' H' : Hp} {fx fy : List Addr} (s : StepS F H fx F' H' fy) : ∀ (os : List Ow) (vs : List V) (fp : List Addr), OwnAll K F H vs os fp → (∀ b ∈ fp, b ∉ fx) → OwnAll K F' H' vs os fp
  | [], vs, fp, h, _ => by cases h; exact .nil
  | o :: os, vs, fp, h, n => by
    cases h with
    | cons h1 h2 => exact .cons (OwnAt.keep s o _ _ h1 fun b hb => n b (List.mem_append_left _ hb)) (OwnAll.keep s os _ _ h2 fun b hb => n b (List.mem_append_right _ hb))
end
theorem OwnAt.ext {F H F' H' : Hp} {v : V} {o : Ow} {fp : List Addr} (h : OwnAt K F H v o fp) (e : Ext F H F' H') : OwnAt K F' H' v o fp :=
  OwnAt.keep (StepS.of_ext e []) o v fp h fun _ _ => by simp
theorem OwnAll.ext {F H F' H' : Hp} {v : List V} {o : List Ow} {fp : List Addr} (h : OwnAll K F H v o fp) (e : Ext F H F' H') : OwnAll K F' H' v o fp :=
  OwnAll.keep (StepS.of_ext e []) o v fp h fun _ _ => by simp
mutual
theorem OwnAt.there {F H : Hp} : ∀ (o : Ow) (v : V) (fp : List Addr), OwnAt K F H v o fp → ∀ b ∈ fp, F b = none ∧ ∃ o, H b = some o
  | .d x, v, fp, h, b, hb => by cases h; cases hb
  | .l os, v, fp, h, b, hb => by
    cases h with
    | l h1 h2 h3 =>
      rcases List.mem_cons.mp hb with e | e
      · subst e; exact ⟨h1, _, h2⟩
      · exact OwnAll.there os _ _ h3 b e
  | .m ps, v, fp, h, b, hb => by
    cases h with
    | m h1 h2 h3 =>
      rw [List.mem_singleton] at hb
      subst hb; exact ⟨h1, _, h2⟩
  | .t os, v, fp, h, b, hb => by
    cases h with
    | t h1 h2 => exact OwnAll.there os _ _ h2 b hb
  | .k _ os, v, fp, h, b, hb => by
    cases h with
    | k h1 h2 h3 =>
      rcases List.mem_cons.mp hb with e | e
      · subst e; exact ⟨h1, _, h2⟩
      · exact OwnAll.there os _ _ h3 b e
  | .n _ os, v, fp, h, b, hb => by
    cases h with
    | n h1 h2 h3 h4 =>
      rcases List.mem_cons.mp hb with e | e
      · subst e; exact ⟨h1, _, h2⟩
      · exact OwnAll.there os _ _ h4 b e
  | .o _ _ os, v, fp, h, b, hb => by
    cases h with
    | o h0 h1 h2 h3 h4 h5 =>
      rcases List.mem_cons.mp hb with e | e
      · subst e; exact ⟨h1, _, h3⟩
      · rcases List.mem_cons.mp e with e | e
        · subst e; exact ⟨h2, _, h4⟩
        · exact OwnAll.there os _ _ h5 b e
theorem OwnAll.there {F H : Hp} : ∀ (o : List Ow) (v : List V) (fp : List Addr), OwnAll K F H v o fp → ∀ b ∈ fp, F b = none ∧ ∃ o, H b = some o
  | [], v, fp, h, b, hb => by cases h; cases hb
  | o :: os, v, fp, h, b, hb => by
    cases h with
    | cons h1 h2 =>
      rcases List.mem_append.mp hb with e | e
      · exact OwnAt.there o _ _ h1 b e
      · exact OwnAll.there os _ _ h2 b e
end
theorem dpKv_zip {H : Hp} : ∀ {kvs : List (Key × V)} {ds : List D}, DpAll K H (kvs.map (·.2)) ds → DpKv K H kvs ((kvs.map fun p => keyD p.1).zip ds)
  | [], _, h => by cases h; exact .nil
  | p :: kvs, _, h => by
    cases h with
    | cons h1 h2 => exact .cons h1 (dpKv_zip h2)
theorem dpKn_zip {H : Hp} : ∀ {kvs : List (NestedKey × Addr × V)} {ds : List D}, (∀ p ∈ kvs, Dp K H (.ref p.2.1) p.1.data ∧ p.1.depth ≤ 8) → DpAll K H (kvs.map (·.2.2)) ds → DpKn K H kvs ((kvs.map (·.1.data)).zip ds)
  | [], _, _, h => by cases h; exact .nil
  | p :: kvs, _, g, h => by
    cases h with
    | cons h1 h2 => exact .cons (g p List.mem_cons_self).1 (g p List.mem_cons_self).2 h1 (dpKn_zip (fun q hq => g q (List.mem_cons_of_mem _ hq)) h2)
mutual
theorem OwnAt.view {F H : Hp} (s : Same F H) : ∀ (o : Ow) (v : V) (fp : List Addr), OwnAt K F H v o fp → Dp K H v (viewD o)
  | .d x, v, fp, h => by
    cases h with
    | d q => rw [viewD]; exact dpUp q s
  | .l os, v, fp, h => by
    cases h with
    | l h1 h2 h3 => rw [viewD]; exact .lst (SqL.of h2) (OwnAll.view s os _ _ h3)
  | .m ps, v, fp, h => by
    cases h with
    | m h1 h2 h3 => rw [viewD]; exact .dct (.inl h2) (DpKv.mono s ps _ h3)
  | .t os, v, fp, h => by
    cases h with
    | t h1 h2 => rw [viewD]; exact .tup (SqT_mono s h1) (OwnAll.view s os _ _ h2)
  | .k _ os, v, fp, h => by
    cases h with
    | k h1 h2 h3 => rw [viewD]; exact .dct (.inl h2) (dpKv_zip (OwnAll.view s os _ _ h3))
  | .n _ os, v, fp, h => by
    cases h with
    | n h1 h2 h3 h4 => rw [viewD]; exact .dcn (.inl h2) (dpKn_zip (fun p hp => ⟨Dp.mono s _ _ (h3 p hp).1, (h3 p hp).2⟩) (OwnAll.view s os _ _ h4))
  | .o _ _ os, v, fp, h => by
    cases h with
    | o h0 h1 h2 h3 h4 h5 => rw [viewD]; exact .ins h3
theorem OwnAll.view {F H : Hp} (s : Same F H) : ∀ (o : List Ow) (v : List V) (fp : List Addr), OwnAll K F H v o fp → DpAll K H v (viewAll o)
  | [], v, fp, h => by cases h; rw [viewAll]; exact .nil
  | o :: os, v, fp, h => by
    cases h with
    | cons h1 h2 => rw [viewAll]; exact .cons (OwnAt.view s o _ _ h1) (OwnAll.view s os _ _ h2)
end
theorem OwnAll.len {F H : Hp} : ∀ {os : List Ow} {vs : List V} {fp : List Addr}, OwnAll K F H vs os fp → vs.length = os.length
  | [], _, _, h => by cases h; rfl
  | o :: os, _, _, h => by
    cases h with
    | cons h1 h2 => simp [OwnAll.len h2]
/-- F with the objects at fp as they stand in H -/
def frzAt (F H : Hp) (fp : List Addr) : Hp := fun b => if b ∈ fp then H b else F b
theorem frzAt_same {F H : Hp} {fp : List Addr} (n : ∀ b ∈ fp, F b = none) : Same F (frzAt F H fp) := fun b o h => by
  have : b ∉ fp := fun z => by rw [n b z] at h; cases h
  simp [frzAt, this, h]
theorem frzAt_in {F H : Hp} {fp : List Addr} (s : Same F H) : Same (frzAt F H fp) H := fun b o h => by
  unfold frzAt at h
  split at h
  · exact h
  · exact s _ _ h
theorem frzAt_of {F H : Hp} {fp : List Addr} {b : Addr} {o : HO} (h : frzAt F H fp b = some o) : F b = some o ∨ b ∈ fp := by
  unfold frzAt at h
  split at h
  · exact .inr ‹_›
  · exact .inl h
mutual
theorem OwnAt.frz {F H : Hp} {fx : List Addr} (nx : ∀ b ∈ fx, F b = none) : ∀ (o : Ow) (v : V) (fp : List Addr), OwnAt K F H v o fp → (∀ b ∈ fp, b ∈ fx) → Dp K (frzAt F H fx) v (viewD o)
  | .d x, v, fp, h, _ => by
    cases h with
    | d q => rw [viewD]; exact dpUp q (frzAt_same nx)
  | .l os, v, fp, h, hs => by
    cases h with
    | @l a _ _ _ h1 h2 h3 =>
      rw [viewD]
      have e : frzAt F H fx a = some (.lst _) := (if_pos (hs a List.mem_cons_self)).trans h2
      exact .lst (SqL.of e) (OwnAll.frz nx os _ _ h3 fun b hb => hs b (List.mem_cons_of_mem _ hb))
  | .m ps, v, fp, h, hs => by
    cases h with
    | @m a _ _ h1 h2 h3 =>
      rw [viewD]
      have e : frzAt F H fx a = some (.dK _) := (if_pos (hs a List.mem_cons_self)).trans h2
      exact .dct (.inl e) (DpKv.mono (frzAt_same nx) ps _ h3)
  | .t os, v, fp, h, hs => by
    cases h with
    | t h1 h2 => rw [viewD]; exact .tup (SqT_mono (frzAt_same nx) h1) (OwnAll.frz nx os _ _ h2 hs)
  | .k _ os, v, fp, h, hs => by
    cases h with
    | @k a _ _ _ h1 h2 h3 =>
      rw [viewD]
      have e : frzAt F H fx a = some (.dK _) := (if_pos (hs a List.mem_cons_self)).trans h2
      exact .dct (.inl e) (dpKv_zip (OwnAll.frz nx os _ _ h3 fun b hb => hs b (List.mem_cons_of_mem _ hb)))
  | .n _ os, v, fp, h, hs => by
    cases h with
    | @n a _ _ _ h1 h2 h3 h4 =>
      rw [viewD]
      have e : frzAt F H fx a = some (dnO _ _ _) := (if_pos (hs a List.mem_cons_self)).trans h2
      exact .dcn (.inl e) (dpKn_zip (fun p hp => ⟨Dp.mono (frzAt_same nx) _ _ (h3 p hp).1, (h3 p hp).2⟩) (OwnAll.frz nx os _ _ h4 fun b hb => hs b (List.mem_cons_of_mem _ hb)))
  | .o _ _ os, v, fp, h, hs => by
    cases h with
    | @o c a C dx fs _ _ h0 h1 h2 h3 h4 h5 =>
      rw [viewD]
      have e : frzAt F H fx a = some (.ins _ _ _) := (if_pos (hs a List.mem_cons_self)).trans h3
      exact .ins e
theorem OwnAll.frz {F H : Hp} {fx : List Addr} (nx : ∀ b ∈ fx, F b = none) : ∀ (o : List Ow) (v : List V) (fp : List Addr), OwnAll K F H v o fp → (∀ b ∈ fp, b ∈ fx) → DpAll K (frzAt F H fx) v (viewAll o)
  | [], v, fp, h, _ => by cases h; rw [viewAll]; exact .nil
  | o :: os, v, fp, h, hs => by
    cases h with
    | cons h1 h2 => rw [viewAll]; exact .cons (OwnAt.frz nx o _ _ h1 fun b hb => hs b (List.mem_append_left _ hb)) (OwnAll.frz nx os _ _ h2 fun b hb => hs b (List.mem_append_right _ hb))
end
/-- a fresh owned value made data -/
theorem Ext.freeze {F H F' H' : Hp} {v : V} {o : Ow} {fp : List Addr} (e : Ext F H F' H') (h : OwnAt K F' H' v o fp) (n : ∀ b ∈ fp, H b = none) :
    ∃ F2, Ext F H F2 H' ∧ Dp K F2 v (viewD o) := by
  have nx : ∀ b ∈ fp, F' b = none := fun b hb => (OwnAt.there o v fp h b hb).1
  refine ⟨frzAt F' H' fp, ⟨e.ff.trans (frzAt_same nx), e.hh, fun b u q => ?_, frzAt_in e.fh⟩, OwnAt.frz nx o v fp h fun _ z => z⟩
  rcases frzAt_of q with z | z
  · exact e.fn b u z
  · exact .inr (n b z)

inductive EnvAt (K : Kw) (F H : Hp) : St → Ev → List Addr → Prop
  | nil : EnvAt K F H [] [] []
  | non {x : Option V} {σ : St} {env : Ev} {fp : List Addr} : EnvAt K F H σ env fp → EnvAt K F H (x :: σ) (none :: env) fp
  | som {v : V} {o : Ow} {σ : St} {env : Ev} {fp fps : List Addr} : OwnAt K F H v o fp → EnvAt K F H σ env fps → EnvAt K F H (some v :: σ) (some o :: env) (fp ++ fps)
theorem EnvAt.keep {F H F' H' : Hp} {fx fy : List Addr} (s : StepS F H fx F' H' fy) : ∀ {σ : St} {env : Ev} {fp : List Addr}, EnvAt K F H σ env fp → (∀ b ∈ fp, b ∉ fx) → EnvAt K F' H' σ env fp := by
  intro σ env fp h
  induction h with
  | nil => intro _; exact .nil
  | non h ih => intro n; exact .non (ih n)
  | som h1 h2 ih => intro n; exact .som (OwnAt.keep s _ _ _ h1 fun b hb => n b (List.mem_append_left _ hb)) (ih fun b hb => n b (List.mem_append_right _ hb))
theorem EnvAt.ext {F H F' H' : Hp} {σ : St} {env : Ev} {fp : List Addr} (h : EnvAt K F H σ env fp) (e : Ext F H F' H') : EnvAt K F' H' σ env fp :=
  h.keep (StepS.of_ext e []) fun _ _ => by simp
theorem EnvAt.there {F H : Hp} {σ : St} {env : Ev} {fp : List Addr} (h : EnvAt K F H σ env fp) : ∀ b ∈ fp, F b = none ∧ ∃ o, H b = some o := by
  induction h with
  | nil => intro b hb; cases hb
  | non h ih => exact ih
  | som h1 h2 ih =>
    intro b hb
    rcases List.mem_append.mp hb with e | e
    · exact OwnAt.there _ _ _ h1 b e
    · exact ih b e
theorem EnvAt.len {F H : Hp} {σ : St} {env : Ev} {fp : List Addr} (h : EnvAt K F H σ env fp) : σ.length = env.length := by
  induction h with
  | nil => rfl
  | non h ih => simp [ih]
  | som h1 h2 ih => simp [ih]
/-- a slot read: its own footprint, and the others' -/
theorem EnvAt.get {F H : Hp} {σ : St} {env : Ev} {fp : List Addr} (h : EnvAt K F H σ env fp) : ∀ {i : Nat} {o : Ow}, env[i]? = some (some o) → ∃ v fo, σ[i]? = some (some v) ∧ OwnAt K F H v o fo ∧ (∀ b ∈ fo, b ∈ fp) := by
  induction h with
  | nil => intro i o e; simp at e
  | non h ih =>
    intro i o e
    cases i with
    | zero => simp at e
    | succ i => simpa using ih (i := i) (by simpa using e)
  | @som v o' σ' env' fp1 fps h1 h2 ih =>
    intro i o e
    cases i with
    | zero =>
      simp at e; subst e
      exact ⟨v, fp1, rfl, h1, fun b hb => List.mem_append_left _ hb⟩
    | succ i =>
      obtain ⟨v2, fo, a, b, c⟩ := ih (i := i) (by simpa using e)
      exact ⟨v2, fo, by simpa using a, b, fun b hb => List.mem_append_right _ (c b hb)⟩
/-- a slot changed: the rest keeps; fo what stood there, fr the rest (F, H may have moved by a step within fo) -/
theorem EnvAt.put {F H : Hp} {σ : St} {env : Ev} {fp : List Addr} (h : EnvAt K F H σ env fp) : ∀ {i : Nat}, i < env.length → fp.Nodup → ∃ fr fo, (∀ b ∈ fr, b ∈ fp) ∧ (∀ b ∈ fo, b ∈ fp) ∧ fr.Nodup ∧ fo.Nodup ∧ (∀ b ∈ fo, b ∉ fr) ∧
    (∀ o, env[i]? = some (some o) → ∃ v, σ[i]? = some (some v) ∧ OwnAt K F H v o fo) ∧
    ∀ (F' H' : Hp) (fx fy : List Addr), StepS F H fx F' H' fy → (∀ b ∈ fr, b ∉ fx) → (∀ (x : Option V), EnvAt K F' H' (σ.set i x) (env.set i none) fr) ∧ ∀ (v : V) (o : Ow) (fn : List Addr), OwnAt K F' H' v o fn → fn.Nodup → (∀ b ∈ fn, b ∉ fr) → ∃ fp', fp'.Nodup ∧ (∀ b ∈ fp', b ∈ fn ∨ b ∈ fr) ∧ EnvAt K F' H' (σ.set i (some v)) (env.set i (some o)) fp' := by
  induction h with
  | nil => intro i hi; simp at hi
  | @non x σ' env' fps h ih =>
    intro i hi hn
    cases i with
    | zero =>
      refine ⟨fps, [], fun b z => z, (fun b z => nomatch z), hn, List.nodup_nil, fun b z => (nomatch z), fun o e => by simp at e, fun F' H' fx fy s n => ⟨fun x => .non (h.keep s n), fun v o fn ho hd hx => ?_⟩⟩
      refine ⟨fn ++ fps, ?_, fun b hb => List.mem_append.mp hb, .som ho (h.keep s n)⟩
      rw [List.nodup_append]
      exact ⟨hd, hn, fun a ha b hb e => hx a ha (e ▸ hb)⟩
    | succ i =>
      obtain ⟨fr, fo, a1, a2, a3, a3', a4, a5, a6⟩ := ih (i := i) (by simpa using hi) hn
      refine ⟨fr, fo, a1, a2, a3, a3', a4, by simpa using a5, fun F' H' fx fy s n => ⟨fun x => .non ((a6 F' H' fx fy s n).1 x), fun v o fn ho hd hx => ?_⟩⟩
      obtain ⟨fp', b1, b2, b3⟩ := (a6 F' H' fx fy s n).2 v o fn ho hd hx
      exact ⟨fp', b1, b2, .non b3⟩
  | @som v0 o0 σ' env' f1 fps h1 h2 ih =>
    intro i hi hn
    rw [List.nodup_append] at hn
    obtain ⟨n1, n2, n3⟩ := hn
    cases i with
    | zero =>
      refine ⟨fps, f1, fun b z => List.mem_append_right _ z, fun b z => List.mem_append_left _ z, n2, n1, fun b z q => n3 b z b q rfl, fun o e => ?_, fun F' H' fx fy s n => ⟨fun x => .non (h2.keep s n), fun v o fn ho hd hx => ?_⟩⟩
      · simp at e; subst e; exact ⟨v0, rfl, h1⟩
      · refine ⟨fn ++ fps, ?_, fun b hb => List.mem_append.mp hb, .som ho (h2.keep s n)⟩
        rw [List.nodup_append]
        exact ⟨hd, n2, fun a ha b hb e => hx a ha (e ▸ hb)⟩
    | succ i =>
      obtain ⟨fr, fo, a1, a2, a3, a3', a4, a5, a6⟩ := ih (i := i) (by simpa using hi) n2
      have dis : ∀ b ∈ f1, b ∉ fr := fun b z q => n3 b z b (a1 b q) rfl
      have key : ∀ (F' H' : Hp) (fx fy : List Addr), StepS F H fx F' H' fy → (∀ b ∈ f1 ++ fr, b ∉ fx) → OwnAt K F' H' v0 o0 f1 := fun F' H' fx fy s n => OwnAt.keep s _ _ _ h1 fun b hb => n b (List.mem_append_left _ hb)
      refine ⟨f1 ++ fr, fo, fun b z => ?_, fun b z => List.mem_append_right _ (a2 b z), ?_, a3', fun b z q => ?_, by simpa using a5, fun F' H' fx fy s n => ⟨fun x => .som (key F' H' fx fy s n) ((a6 F' H' fx fy s fun b hb => n b (List.mem_append_right _ hb)).1 x), fun v o fn ho hd hx => ?_⟩⟩
      · rcases List.mem_append.mp z with z | z
        · exact List.mem_append_left _ z
        · exact List.mem_append_right _ (a1 b z)
      · rw [List.nodup_append]; exact ⟨n1, a3, fun a ha b hb e => dis a ha (e ▸ hb)⟩
      · rcases List.mem_append.mp q with q | q
        · exact n3 b q b (a2 b z) rfl
        · exact a4 b z q
      · obtain ⟨fp', b1, b2, b3⟩ := (a6 F' H' fx fy s fun b hb => n b (List.mem_append_right _ hb)).2 v o fn ho hd fun b hb q => hx b hb (List.mem_append_right _ q)
        have dj : ∀ b ∈ f1, b ∉ fp' := fun b z q => by
          rcases b2 b q with r | r
          · exact hx b r (List.mem_append_left _ z)
          · exact dis b z r
        refine ⟨f1 ++ fp', ?_, fun b hb => ?_, .som (key F' H' fx fy s n) b3⟩
        · rw [List.nodup_append]; exact ⟨n1, b1, fun a ha b hb e => dj a ha (e ▸ hb)⟩
        · rcases List.mem_append.mp hb with r | r
          · exact .inr (List.mem_append_left _ r)
          · exact (b2 b r).imp id (List.mem_append_right _)

structure Sat (K : Kw) (F H : Hp) (σ : St) (env : Ev) (fp : List Addr) : Prop where
  fh : Same F H
  en : EnvAt K F H σ env fp
  nd : fp.Nodup
theorem Sat.ext {F H F' H' : Hp} {σ : St} {env : Ev} {fp : List Addr} (s : Sat K F H σ env fp) (e : Ext F H F' H') : Sat K F' H' σ env fp := ⟨e.fh, s.en.ext e, s.nd⟩
end
end Mir
end
set_option Elab.async false
set_option linter.all false
set_option maxRecDepth 100000
set_option maxHeartbeats 4000000
noncomputable section
namespace Mir
open PySem PySem.Spec L2

def Post (X : Cx) (W : WX) {α β : Type} (P : Hp → α → β → Hp → Hp → Prop) (F H : Hp) (σ : L2.St) : R α → (β → Hp → Prop) → Prop
  | .no, _ => False
  | .ok a, Q => ∀ v F' H', Ext F H F' H' → P H a v F' H' → Q v H'
  | .ex c, _ => ∀ C F' H', X.mg c = some (.ref C) → Ext F H F' H' → W (.ref C) none σ H'
class Anti {α β : Type} (P : Hp → α → β → Hp → Hp → Prop) : Prop where
  anti : ∀ {H H1 : Hp} {a : α} {v : β} {F' H' : Hp}, Same H H1 → P H1 a v F' H' → P H a v F' H'
def PVw (K : Kw) (_ : Hp) (d : D) (v : V) (_ H' : Hp) : Prop := Dp K H' v d
def PFz (K : Kw) (_ : Hp) (d : D) (v : V) (F' _ : Hp) : Prop := Dp K F' v d
def POw (K : Kw) (H : Hp) (r : Ow) (v : V) (F' H' : Hp) : Prop := ∃ fp, OwnAt K F' H' v r fp ∧ fp.Nodup ∧ ∀ b ∈ fp, H b = none
/-- a list or tuple whose items are frozen, though it may itself change; other data -/
def PSq (K : Kw) (_ : Hp) (d : D) (v : V) (F' H' : Hp) : Prop := match d with
  | .list ds => ∃ a vs, v = .ref a ∧ SqL K H' a vs ∧ DpAll K F' vs ds
  | d => Dp K F' v d
def PTb (_ : Hp) (b : Bool) (v : Bool) (_ _ : Hp) : Prop := v = b
def PAv (K : Kw) (_ : Hp) (ds : List D) (vs : List V) (_ H' : Hp) : Prop := DpAll K H' vs ds
def PAf (K : Kw) (_ : Hp) (ds : List D) (vs : List V) (F' _ : Hp) : Prop := DpAll K F' vs ds
variable {K : Kw}
instance : Anti (PVw K) := ⟨fun _ h => h⟩
instance : Anti (PFz K) := ⟨fun _ h => h⟩
instance : Anti (PSq K) := ⟨fun {_ _ _ _ _ _} _ h => h⟩
instance : Anti PTb := ⟨fun _ h => h⟩
instance : Anti (PAv K) := ⟨fun _ h => h⟩
instance : Anti (PAf K) := ⟨fun _ h => h⟩
instance : Anti (POw K) := ⟨fun s ⟨fp, a, b, c⟩ => ⟨fp, a, b, fun x hx => s.free (c x hx)⟩⟩

/-- the semantics: t (a reading) is implied by the mirror f -/
def Sm (X : Cx) (W : WX) {α β : Type} (P : Hp → α → β → Hp → Hp → Prop) (t : L2.St → Hp → (β → Hp → Prop) → Prop) (f : Ev → R α) : Prop :=
  ∀ F H σ env fp Q, Sat X.KK F H σ env fp → Post X W P F H σ (f env) Q → t σ H Q
section
variable {X : Cx} {W : WX} {α β γ δ : Type}
theorem Post.ext {P : Hp → α → β → Hp → Hp → Prop} [Anti P] {F H F1 H1 : Hp} {σ : L2.St} {r : R α} {Q : β → Hp → Prop} (h : Post X W P F H σ r Q) (e : Ext F H F1 H1) : Post X W P F1 H1 σ r Q := by
  cases r with
  | no => exact h
  | ok a => exact fun v F' H' e' p => h v F' H' (e.trans e') (Anti.anti e.hh p)
  | ex c => exact fun C F' H' m e' => h C F' H' m (e.trans e')
/-- evaluate one part, go on -/
theorem Sm.go {P : Hp → α → β → Hp → Hp → Prop} {P2 : Hp → γ → δ → Hp → Hp → Prop} [Anti P2] {t : L2.St → Hp → (β → Hp → Prop) → Prop} {f : Ev → R α} (s : Sm X W P t f) {g : α → R γ} {F H : Hp} {σ : L2.St} {env : Ev} {fp : List Addr} {Q : δ → Hp → Prop} {T : β → Hp → Prop}
    (sat : Sat X.KK F H σ env fp) (h : Post X W P2 F H σ ((f env).bind g) Q) (k : ∀ a v F1 H1, Sat X.KK F1 H1 σ env fp → P H a v F1 H1 → Ext F H F1 H1 → Post X W P2 F1 H1 σ (g a) Q → T v H1) : t σ H T := by
  refine s F H σ env fp T sat ?_
  cases e : f env with
  | no => rw [e] at h; exact h
  | ok a =>
    rw [e] at h
    exact fun v F' H' x p => k a v F' H' (sat.ext x) p x (Post.ext (show Post X W P2 F H σ (g a) Q from h) x)
  | ex c => rw [e] at h; exact h
theorem Post.thru {β' : Type} {P : Hp → α → β → Hp → Hp → Prop} {P2 : Hp → γ → β' → Hp → Hp → Prop} {F H : Hp} {σ : L2.St} {r : R α} {g : α → R γ} {Q : β → Hp → Prop} {Q2 : β' → Hp → Prop} (h : Post X W P2 F H σ (r.bind g) Q2)
    (k : ∀ a, r = .ok a → Post X W P2 F H σ (g a) Q2 → ∀ v F' H', Ext F H F' H' → P H a v F' H' → Q v H') : Post X W P F H σ r Q := by
  cases r with
  | no => exact h
  | ok a => exact k a rfl h
  | ex c => exact h
theorem Sm.map {P : Hp → α → β → Hp → Hp → Prop} {P2 : Hp → γ → β → Hp → Hp → Prop} {t : L2.St → Hp → (β → Hp → Prop) → Prop} {f : Ev → R α} (s : Sm X W P t f) {g : α → R γ} (k : ∀ H a v F' H', Same F' H' → P H a v F' H' → ∃ c, g a = .ok c ∧ P2 H c v F' H') :
    Sm X W P2 t fun env => (f env).bind g := by
  intro F H σ env fp Q sat h
  refine s F H σ env fp Q sat (Post.thru h fun a _ h' v F' H' x p => ?_)
  obtain ⟨c, hc, q⟩ := k H a v F' H' x.fh p
  rw [hc] at h'
  exact h' v F' H' x q
end

def eB {α β : Type} (f : Ev → R α) (g : α → R β) (env : Ev) : R β := (f env).bind g
def eM {α β : Type} (f : Ev → R α) (g : α → β) (env : Ev) : R β := (f env).map g

section
variable (X : Cx) (W : WX)
def DV (e : Expr) (f : Ev → R D) : Prop := ∃ t, PE X e t ∧ Sm X W (PVw X.KK) t f
def DF (e : Expr) (f : Ev → R D) : Prop := ∃ t, PE X e t ∧ Sm X W (PFz X.KK) t f
def DE (e : Expr) (f : Ev → R Ow) : Prop := ∃ t, PE X e t ∧ Sm X W (POw X.KK) t f
def DL (e : Expr) (f : Ev → R D) : Prop := ∃ t, PE X e t ∧ Sm X W (PSq X.KK) t f
def DT (e : Expr) (f : Ev → R Bool) : Prop := ∃ t, PT X e t ∧ Sm X W PTb t f
def DW (e : Expr) (f : Ev → R Bool) : Prop := ∃ t, PW X e t ∧ Sm X W PTb t f
def DA (es : List Expr) (f : Ev → R (List D)) : Prop := ∃ t, PA X es t ∧ Sm X W (PAf X.KK) t f
end
def unD : Ow → Option D
  | .d x => some x
  | .l _ => none
  | _ => none
def unDs : List Ow → Option (List D)
  | [] => some []
  | o :: os => (unD o).bind fun x => (unDs os).map fun xs => x :: xs
@[simp] theorem unDs_map : ∀ ds : List D, unDs (ds.map Ow.d) = some ds
  | [] => rfl
  | d :: ds => by simp [unDs, unD, unDs_map ds]
theorem unDs_eq : ∀ {os : List Ow} {ds : List D}, unDs os = some ds → os = ds.map Ow.d
  | [], ds, h => by simp [unDs] at h; subst h; rfl
  | .d x :: os, ds, h => by
    simp only [unDs, unD, Option.bind_some, Option.map_eq_some_iff] at h
    obtain ⟨xs, h1, h2⟩ := h
    subst h2
    rw [unDs_eq h1]; rfl
  | .l _ :: os, ds, h => by simp [unDs, unD] at h
  | .m _ :: os, ds, h => by simp [unDs, unD] at h
  | .t _ :: os, ds, h => by simp [unDs, unD] at h
  | .k _ _ :: os, ds, h => by simp [unDs, unD] at h
  | .n _ _ :: os, ds, h => by simp [unDs, unD] at h
  | .o _ _ _ :: os, ds, h => by simp [unDs, unD] at h
def shD : Ow → R D
  | .d x => .ok x
  | .l os => match unDs os with
    | some ds => .ok (.list ds)
    | none => .no
  | _ => .no
@[simp] theorem shD_d (x : D) : shD (.d x) = .ok x := rfl
@[simp] theorem shD_l (ds : List D) : shD (.l (ds.map Ow.d)) = .ok (.list ds) := by simp [shD]
@[simp] theorem shD_nil : shD (.l []) = .ok (.list []) := rfl
theorem OwnAll.dp {F H : Hp} : ∀ {ds : List D} {vs : List V} {fp : List Addr}, OwnAll K F H vs (ds.map Ow.d) fp → DpAll K F vs ds ∧ fp = []
  | [], _, _, h => by cases h; exact ⟨.nil, rfl⟩
  | d :: ds, _, _, h => by
    cases h with
    | cons h1 h2 =>
      cases h1 with
      | d q =>
        obtain ⟨a, b⟩ := OwnAll.dp (ds := ds) h2
        exact ⟨.cons q a, by rw [b]; rfl⟩
theorem OwnAll.of_dp {F H : Hp} : ∀ {ds : List D} {vs : List V}, DpAll K F vs ds → OwnAll K F H vs (ds.map Ow.d) []
  | [], _, h => by cases h; exact .nil
  | d :: ds, _, h => by
    cases h with
    | cons h1 h2 => exact .cons (fp := []) (.d h1) (OwnAll.of_dp h2)
theorem PSq.of {F H : Hp} {v : V} {d : D} {H0 : Hp} (s : Same F H) (h : Dp K F v d) : PSq K H0 d v F H := by
  cases d with
  | list ds =>
    cases h with
    | lst hs ha => exact ⟨_, _, rfl, s.seq hs, ha⟩
  | _ => exact h
theorem PSq.view {F H : Hp} {v : V} {d : D} {H0 : Hp} (s : Same F H) (h : PSq K H0 d v F H) : Dp K H v d := by
  cases d with
  | list ds =>
    obtain ⟨a, vs, rfl, h1, h2⟩ := h
    exact .lst h1 (dpaUp h2 s)
  | _ => exact dpUp (show Dp K F v _ from h) s
theorem PSq.ext {F H F1 H1 : Hp} {v : V} {d : D} {H0 H2 : Hp} (e : Ext F H F1 H1) (h : PSq K H0 d v F H) : PSq K H2 d v F1 H1 := by
  cases d with
  | list ds =>
    obtain ⟨a, vs, rfl, h1, h2⟩ := h
    exact ⟨_, _, rfl, e.hh.seq h1, dpaUp h2 e.ff⟩
  | _ => exact dpUp (show Dp K F v _ from h) e.ff
theorem own_seq {F H : Hp} {v : V} {o : Ow} {fp : List Addr} {d : D} {H0 : Hp} (s : Same F H) (h : OwnAt K F H v o fp) (e : shD o = .ok d) : PSq K H0 d v F H := by
  cases o with
  | d x =>
    cases h with
    | d p =>
      cases e
      exact .of s p
  | l os =>
    cases h with
    | l h1 h2 h3 =>
      have e' : (match unDs os with | some ds => (R.ok (.list ds) : R D) | none => .no) = .ok d := e
      clear e
      cases u : unDs os with
      | none => rw [u] at e'; cases e'
      | some ds =>
        rw [u] at e'
        cases e'
        rw [unDs_eq u] at h3
        exact ⟨_, _, rfl, SqL.of h2, (OwnAll.dp h3).1⟩
  | _ => cases e
theorem shD_ex (o : Ow) (c : Str) : shD o ≠ .ex c := fun e => by
  cases o with
  | d x => cases e
  | l os =>
    have e' : (match unDs os with | some ds => (R.ok (.list ds) : R D) | none => .no) = .ex c := e
    split at e' <;> cases e'
  | _ => cases e
theorem shD_ok {X : Cx} {W : WX} {β : Type} {P : Hp → D → β → Hp → Hp → Prop} {F H : Hp} {σ : L2.St} {o : Ow} {Q : β → Hp → Prop} (h : Post X W P F H σ (shD o) Q) : ∃ r, shD o = .ok r := by
  cases e2 : shD o with
  | no => rw [e2] at h; exact h.elim
  | ex c => exact absurd e2 (shD_ex o c)
  | ok r => exact ⟨r, rfl⟩
section
variable {X : Cx} {W : WX} {e a b : Expr} {es : List Expr} {pos : Pos}
theorem dv_df {f : Ev → R D} (h : DF X W e f) : DV X W e f := by
  obtain ⟨t, p, s⟩ := h
  refine ⟨t, p, fun F H σ env fp Q sat h => s F H σ env fp Q sat ?_⟩
  cases e : f env with
  | no => rw [e] at h; exact h
  | ex c => rw [e] at h; exact h
  | ok d => rw [e] at h; exact fun v F' H' x q => h v F' H' x (dpUp q x.fh)
theorem dv_de {f : Ev → R Ow} (h : DE X W e f) : DV X W e (eM f viewD) := by
  obtain ⟨t, p, s⟩ := h
  refine ⟨t, p, Sm.map s fun H o v F' H' sm ⟨fp, q, _⟩ => ⟨viewD o, rfl, OwnAt.view sm o v fp q⟩⟩
theorem de_df {f : Ev → R D} (h : DF X W e f) : DE X W e (eM f Ow.d) := by
  obtain ⟨t, p, s⟩ := h
  refine ⟨t, p, Sm.map s fun H d v F' H' sm q => ⟨.d d, rfl, [], .d q, List.nodup_nil, fun b z => nomatch z⟩⟩
theorem df_de {f : Ev → R Ow} (h : DE X W e f) : DF X W e (eM f viewD) := by
  obtain ⟨t, p, s⟩ := h
  refine ⟨t, p, fun F H σ env fp Q sat h => s F H σ env fp Q sat (Post.thru h fun d _ h' v F' H' x ⟨fp, q, _, n⟩ => ?_)⟩
  obtain ⟨F2, x2, q2⟩ := x.freeze q n
  exact h' v F2 H' x2 q2
theorem dl_df {f : Ev → R D} (h : DF X W e f) : DL X W e f := by
  obtain ⟨t, p, s⟩ := h
  refine ⟨t, p, fun F H σ env fp Q sat h => s F H σ env fp Q sat ?_⟩
  cases e : f env with
  | no => rw [e] at h; exact h
  | ex c => rw [e] at h; exact h
  | ok d => rw [e] at h; exact fun v F' H' x q => h v F' H' x (.of x.fh q)
theorem dl_de {f : Ev → R Ow} (h : DE X W e f) : DL X W e (eB f shD) := by
  obtain ⟨t, p, s⟩ := h
  refine ⟨t, p, fun F H σ env fp Q sat h => s F H σ env fp Q sat (Post.thru h fun d _ h' v F' H' x ⟨fp, q, _, n⟩ => ?_)⟩
  obtain ⟨r, e2⟩ := shD_ok h'
  rw [e2] at h'
  exact h' v F' H' x (own_seq x.fh q e2)
def eVar (i : Nat) (env : Ev) : R D := match env[i]? with
  | some (some (.d x)) => .ok x
  | _ => .no
def eVarO (i : Nat) (env : Ev) : R Ow := match env[i]? with
  | some (some o) => .ok o
  | _ => .no
theorem eVar_ok {P : Hp → D → V → Hp → Hp → Prop} {F H : Hp} {σ : L2.St} {i : Nat} {env : Ev} {Q : VK} (h : Post X W P F H σ (eVar i env) Q) : ∃ d, env[i]? = some (some (.d d)) ∧ eVar i env = .ok d := by
  unfold eVar at h ⊢
  split at h
  · rename_i d he
    exact ⟨d, he, rfl⟩
  · exact h.elim
theorem eVarO_ok {γ : Type} {P : Hp → γ → V → Hp → Hp → Prop} {F H : Hp} {σ : L2.St} {i : Nat} {env : Ev} {Q : VK} {g : Ow → R γ} (h : Post X W P F H σ ((eVarO i env).bind g) Q) : ∃ d, env[i]? = some (some d) ∧ eVarO i env = .ok d ∧ Post X W P F H σ (g d) Q := by
  unfold eVarO at h ⊢
  cases e : env[i]? with
  | none => rw [e] at h; exact h.elim
  | some o =>
    cases o with
    | none => rw [e] at h; exact h.elim
    | some o => rw [e] at h; exact ⟨o, rfl, rfl, h⟩
theorem df_var (i : Nat) {x : Str} (hN : X.N[i]? = some x := by rfl) (hv : Vis X.env.scope x := by first | exact Or.inl rfl | exact Or.inr (Or.inl rfl) | exact Or.inr (Or.inr rfl)) (hd : (x == ("__debug__" : Str)) = false := by decide)
    (hcd : (x == ("__classdict__" : Str)) = false := by decide) : DF X W (.Name x pos) (eVar i) := by
  refine ⟨_, pe_var hN hv hd hcd, fun F H σ env fp Q sat h => ?_⟩
  obtain ⟨d, he, e2⟩ := eVar_ok h
  rw [e2] at h
  obtain ⟨v, fo, h1, h2, _⟩ := sat.en.get he
  cases h2 with
  | d q => exact ⟨v, h1, h v F H (.refl sat.fh) q⟩
def eC (d : D) (_ : Ev) : R D := .ok d
theorem df_int {i j} : DF X W (.Constant (.int i) j pos) (eC (.int i)) := ⟨_, pe_int, fun F H σ env fp Q sat h => h _ F H (.refl sat.fh) (.int i)⟩
theorem df_bl {i j} : DF X W (.Constant (.bool i) j pos) (eC (.bool i)) := ⟨_, pe_bl, fun F H σ env fp Q sat h => h _ F H (.refl sat.fh) (.bl i)⟩
theorem df_non {j} : DF X W (.Constant .none j pos) (eC .none) := ⟨_, pe_non, fun F H σ env fp Q sat h => h _ F H (.refl sat.fh) .non⟩
theorem df_str {i j} : DF X W (.Constant (.str i) j pos) (eC (.str i)) := ⟨_, pe_str, fun F H σ env fp Q sat h => h _ F H (.refl sat.fh) (.str i)⟩
def aNil (_ : Ev) : R (List D) := .ok []
def aCons (f : Ev → R D) (g : Ev → R (List D)) (env : Ev) : R (List D) := (f env).bind fun d => (g env).map fun ds => d :: ds
theorem da_nil : DA X W [] aNil := ⟨_, pa_nil, fun F H σ env fp Q sat h => h _ F H (.refl sat.fh) .nil⟩
theorem da_cons {f : Ev → R D} {g : Ev → R (List D)} (hf : DF X W e f) (hg : DA X W es g) (hs : starEach (e :: es) X.env = (false, eval e X.env) :: starEach es X.env := by rfl) : DA X W (e :: es) (aCons f g) := by
  obtain ⟨t, p, s⟩ := hf
  obtain ⟨t', p', s'⟩ := hg
  refine ⟨_, pa_cons p p' hs, fun F H σ env fp Q sat h => ?_⟩
  refine s.go sat h fun d v F1 H1 sat1 q _ h1 => ?_
  refine s'.go sat1 h1 fun ds vs F2 H2 sat2 q' x2 h2 => ?_
  exact h2 _ F2 H2 (.refl sat2.fh) (.cons (dpUp q x2.ff) q')
def eTup (f : Ev → R (List D)) (env : Ev) : R D := (f env).bind fun ds => guard (ds.length ≤ sizeLine) (.ok (.tuple ds))
def eLst (f : Ev → R (List D)) (env : Ev) : R Ow := (f env).bind fun ds => guard (ds.length ≤ sizeLine) (.ok (.l (ds.map Ow.d)))
theorem guard_post {P : Hp → α → β → Hp → Hp → Prop} {F H : Hp} {σ : L2.St} {c : Prop} {r : R α} {Q : β → Hp → Prop} (h : Post X W P F H σ (guard c r) Q) : c ∧ Post X W P F H σ r Q := by
  unfold guard at h
  split at h
  · exact ⟨‹_›, h⟩
  · exact h.elim
theorem df_tup {x1} {f : Ev → R (List D)} (hf : DA X W es f) : DF X W (.Tuple es x1 pos) (eTup f) := by
  obtain ⟨t, p, s⟩ := hf
  refine ⟨_, pe_tup p, fun F H σ env fp Q sat h => ?_⟩
  refine s.go sat h fun ds vs F1 H1 sat1 q _ h1 => ?_
  obtain ⟨hl, h2⟩ := guard_post h1
  refine ⟨by rw [DpAll.len q]; exact hl, fun p hp => ?_⟩
  have x := Ext.frz sat1.fh hp (.tup vs)
  exact h2 _ _ _ x (.tup (SqT.of upd_same) (dpaUp q x.ff))
theorem de_lst {f : Ev → R (List D)} (hf : DA X W es f) : DE X W (.List es pos) (eLst f) := by
  obtain ⟨t, p, s⟩ := hf
  refine ⟨_, pe_lst p, fun F H σ env fp Q sat h => ?_⟩
  refine s.go sat h fun ds vs F1 H1 sat1 q _ h1 => ?_
  obtain ⟨hl, h2⟩ := guard_post h1
  refine ⟨by rw [DpAll.len q]; exact hl, fun p hp => ?_⟩
  have x := Ext.own sat1.fh hp (.lst vs)
  exact h2 _ _ _ x ⟨[p], .l (free_of sat1.fh hp) upd_same (OwnAll.of_dp q), by simp, by simpa using hp⟩

def R.of {α : Type} : Option α → R α
  | some a => .ok a
  | none => .no
@[simp] theorem R.of_some (a : α) : R.of (some a) = .ok a := rfl
@[simp] theorem R.of_none : R.of (none : Option α) = .no := rfl
/-- data in, flat data out, the heap as it was -/
def OpS (K : Kw) (r : R2) (g : D → D → Option D) : Prop := ∀ H x y dx dy d Q, Dp K H x dx → Dp K H y dy → g dx dy = some d → (∀ v, (∀ F, Dp K F v d) → Q v H) → r x y H Q
def eBin (g : D → D → Option D) (f h : Ev → R D) (env : Ev) : R D := (f env).bind fun x => (h env).bind fun y => R.of (g x y)
theorem post_of {P : Hp → α → β → Hp → Hp → Prop} {F H : Hp} {σ : L2.St} {o : Option α} {Q : β → Hp → Prop} (h : Post X W P F H σ (R.of o) Q) : ∃ a, o = some a ∧ ∀ v F' H', Ext F H F' H' → P H a v F' H' → Q v H' := by
  cases o with
  | none => exact h.elim
  | some a => exact ⟨a, rfl, h⟩
theorem op_sm {r : R2} {g : D → D → Option D} (hs : OpS X.KK r g) {ta tb : TE} {f h : Ev → R D} (sa : Sm X W (PVw X.KK) ta f) (sb : Sm X W (PVw X.KK) tb h) : Sm X W (PFz X.KK) (tOp r ta tb) (eBin g f h) := by
  intro F H σ env fp Q sat hp
  refine sa.go sat hp fun d v F1 H1 sat1 q _ h1 => ?_
  refine sb.go sat1 h1 fun d' v' F2 H2 sat2 q' x2 h2 => ?_
  obtain ⟨z, hz, h3⟩ := post_of h2
  exact hs H2 v v' d d' z Q (dpUp q x2.hh) q' hz fun u hu => h3 u F2 H2 (.refl sat2.fh) (hu _)
theorem df_bin {op : Operator} {r : R2} {g : D → D → Option D} (ho : OpR X (binaryOp op) r) (hs : OpS X.KK r g) {f h : Ev → R D} (ha : DV X W a f) (hb : DV X W b h) : DF X W (.BinOp a op b pos) (eBin g f h) := by
  obtain ⟨ta, pa, sa⟩ := ha
  obtain ⟨tb, pb, sb⟩ := hb
  exact ⟨_, pe_op ho pa pb, op_sm hs sa sb⟩
theorem df_cmp {op : CmpOp} {r : R2} {g : D → D → Option D} (ho : OpR X (compareOp op) r) (hs : OpS X.KK r g) {f h : Ev → R D} (ha : DV X W a f) (hb : DV X W b h) (hm : behindInMarks op b = false := by first | exact nomark _ | rfl) :
    DF X W (.Compare a [op] [b] pos) (eBin g f h) := by
  obtain ⟨ta, pa, sa⟩ := ha
  obtain ⟨tb, pb, sb⟩ := hb
  exact ⟨_, pe_cmpR ho pa pb hm, op_sm hs sa sb⟩
def asB : D → R Bool
  | .bool b => .ok b
  | _ => .no
@[simp] theorem asB_bool (b : Bool) : asB (.bool b) = .ok b := rfl
theorem tb_sm {t : TE} {f : Ev → R D} (s : Sm X W (PVw X.KK) t f) : Sm X W PTb (fun σ H Q => t σ H fun x H' => ∃ k, x = .bl k ∧ Q k H') (eB f asB) := by
  intro F H σ env fp Q sat hp
  refine s.go sat hp fun d v F1 H1 sat1 q _ h1 => ?_
  cases d with
  | bool b =>
    cases q
    exact ⟨b, rfl, h1 b F1 H1 (.refl sat1.fh) rfl⟩
  | _ => exact h1.elim
theorem dt_cmp {op : CmpOp} {r : R2} {g : D → D → Option D} (ho : OpR X (compareOp op) r) (hs : OpS X.KK r g) {f h : Ev → R D} (ha : DV X W a f) (hb : DV X W b h) (hm : behindInMarks op b = false := by first | exact nomark _ | rfl) :
    DT X W (.Compare a [op] [b] pos) (eB (eBin g f h) asB) := by
  obtain ⟨ta, pa, sa⟩ := ha
  obtain ⟨tb, pb, sb⟩ := hb
  refine ⟨_, pt_cmpR ho pa pb hm, tb_sm ?_⟩
  intro F H σ env fp Q sat hp
  refine op_sm hs sa sb F H σ env fp Q sat ?_
  cases e : eBin g f h env with
  | no => rw [e] at hp; exact hp
  | ex c => rw [e] at hp; exact hp
  | ok d => rw [e] at hp; exact fun v F' H' x q => hp v F' H' x (dpUp q x.fh)
theorem dt_val {f : Ev → R D} (h : DV X W e f) (he : ∀ whole, isTrue e X.env whole = (do let v ← whole; standAt e.pos; holding [v] (truthy v)) := by intro _; rfl) : DT X W e (eB f asB) := by
  obtain ⟨t, p, s⟩ := h
  exact ⟨_, pt_val p he, tb_sm s⟩
def tNotE (f : Ev → R Bool) (env : Ev) : R Bool := (f env).map (!·)
theorem dt_not {f : Ev → R Bool} (h : DT X W a f) : DT X W (.UnaryOp .Not a pos) (tNotE f) := by
  obtain ⟨t, p, s⟩ := h
  refine ⟨_, pt_not p, fun F H σ env fp Q sat hp => ?_⟩
  refine s.go sat hp fun b v F1 H1 sat1 q _ h1 => ?_
  obtain rfl : v = b := q
  exact h1 _ F1 H1 (.refl sat1.fh) rfl
def tAndE (f g : Ev → R Bool) (env : Ev) : R Bool := (f env).bind fun b => if b = true then g env else .ok false
def tOrE (f g : Ev → R Bool) (env : Ev) : R Bool := (f env).bind fun b => if b = true then .ok true else g env
theorem dw_or1 {f : Ev → R Bool} (h : DT X W a f) : DW X W (.BoolOp .Or [a] pos) f := by
  obtain ⟨t, p, s⟩ := h
  exact ⟨_, pw_or1 p, s⟩
theorem dw_or {rest : List Expr} {f g : Ev → R Bool} (h : DT X W a f) (h2 : DW X W (.BoolOp .Or (b :: rest) pos) g) : DW X W (.BoolOp .Or (a :: b :: rest) pos) (tOrE f g) := by
  obtain ⟨t, p, s⟩ := h
  obtain ⟨t', p', s'⟩ := h2
  refine ⟨_, pw_or p p', fun F H σ env fp Q sat hp => ?_⟩
  refine s.go sat hp fun b v F1 H1 sat1 q _ h1 => ?_
  obtain rfl : v = b := q
  cases v with
  | false => exact s' F1 H1 σ env fp Q sat1 h1
  | true => exact h1 true F1 H1 (.refl sat1.fh) rfl
theorem dt_dw {f : Ev → R Bool} (h : DW X W a f) : DT X W a f := by
  obtain ⟨t, p, s⟩ := h
  exact ⟨_, p.pt, s⟩
def eAnd (f g : Ev → R D) (env : Ev) : R D := ((f env).bind asB).bind fun b => if b = true then g env else .ok (.bool false)
def eOr (f g : Ev → R D) (env : Ev) : R D := ((f env).bind asB).bind fun b => if b = true then .ok (.bool true) else g env
def eNot (f : Ev → R D) (env : Ev) : R D := ((f env).bind asB).bind fun b => .ok (.bool !b)
theorem R.bind_assoc {α β γ : Type} (r : R α) (f : α → R β) (g : β → R γ) : (r.bind f).bind g = r.bind fun a => (f a).bind g := by cases r <;> rfl
theorem df_one {op} {f : Ev → R D} (h : DF X W a f) : DF X W (.BoolOp op [a] pos) f := by
  obtain ⟨t, p, s⟩ := h
  exact ⟨_, pe_one p, s⟩
theorem df_and {rest : List Expr} {f g : Ev → R D} (h : DV X W a f) (h2 : DF X W (.BoolOp .And (b :: rest) pos) g) : DF X W (.BoolOp .And (a :: b :: rest) pos) (eAnd f g) := by
  obtain ⟨t, p, s⟩ := h
  obtain ⟨t', p', s'⟩ := h2
  refine ⟨_, pe_and p p', fun F H σ env fp Q sat hp => ?_⟩
  unfold eAnd at hp
  rw [R.bind_assoc] at hp
  refine s.go sat hp fun d v F1 H1 sat1 q _ h1 => ?_
  cases d with
  | bool b =>
    cases q
    refine ⟨b, rfl, ?_⟩
    cases b with
    | true => exact s' F1 H1 σ env fp Q sat1 h1
    | false => exact h1 _ F1 H1 (.refl sat1.fh) (.bl false)
  | _ => exact h1.elim
theorem df_not {f : Ev → R D} (h : DV X W a f) : DF X W (.UnaryOp .Not a pos) (eNot f) := by
  obtain ⟨t, p, s⟩ := h
  refine ⟨_, pe_not p, fun F H σ env fp Q sat hp => ?_⟩
  unfold eNot at hp
  rw [R.bind_assoc] at hp
  refine s.go sat hp fun d v F1 H1 sat1 q _ h1 => ?_
  cases d with
  | bool b =>
    cases q
    exact ⟨b, rfl, h1 _ F1 H1 (.refl sat1.fh) (.bl _)⟩
  | _ => exact h1.elim
def eIf (c : Ev → R Bool) (f g : Ev → R D) (env : Ev) : R D := (c env).bind fun b => if b = true then f env else g env
end
end Mir
end
set_option Elab.async false
set_option linter.all false
set_option maxRecDepth 100000
set_option maxHeartbeats 4000000
noncomputable section
namespace Mir
open PySem PySem.Spec L2

section
variable {K : Kw}
theorem dp_int {H : Hp} {v : V} {i : Int} (h : Dp K H v (.int i)) : v = .int i := by cases h; rfl
theorem dp_str {H : Hp} {v : V} {z : Str} (h : Dp K H v (.str z)) : v = .str z := by cases h; rfl
theorem dp_bool {H : Hp} {v : V} {z : Bool} (h : Dp K H v (.bool z)) : v = .bl z := by cases h; rfl
theorem dp_none {H : Hp} {v : V} (h : Dp K H v .none) : v = .non := by cases h; rfl
theorem dp_tup {H : Hp} {v : V} {ds : List D} (h : Dp K H v (.tuple ds)) : ∃ a vs, v = .ref a ∧ SqT K H a vs ∧ DpAll K H vs ds := by cases h with | tup a b => exact ⟨_, _, rfl, a, b⟩
theorem dp_lst {H : Hp} {v : V} {ds : List D} (h : Dp K H v (.list ds)) : ∃ a vs, v = .ref a ∧ SqL K H a vs ∧ DpAll K H vs ds := by cases h with | lst a b => exact ⟨_, _, rfl, a, b⟩

open Classical in
def gI (C : Int → Int → Prop) (f : Int → Int → Int) : D → D → Option D
  | .int i, .int j => if C i j then some (.int (f i j)) else none
  | _, _ => none
def gI0 (f : Int → Int → Int) : D → D → Option D
  | .int i, .int j => some (.int (f i j))
  | _, _ => none
def gIB (f : Int → Int → Bool) : D → D → Option D
  | .int i, .int j => some (.bool (f i j))
  | _, _ => none
theorem opS_I {C : Int → Int → Prop} {f : Int → Int → Int} : OpS K (rI C fun i j => .int (f i j)) (gI C f) := by
  intro H x y dx dy d Q hx hy e q
  unfold gI at e
  split at e
  · rename_i i j
    split at e
    · rename_i c
      cases e
      cases dp_int hx
      cases dp_int hy
      exact ⟨i, j, rfl, rfl, c, q _ fun _ => .int _⟩
    · cases e
  · cases e
theorem opS_I0 {f : Int → Int → Int} : OpS K (rI0 fun i j => .int (f i j)) (gI0 f) := by
  intro H x y dx dy d Q hx hy e q
  unfold gI0 at e
  split at e
  · cases e
    cases dp_int hx
    cases dp_int hy
    exact ⟨_, _, rfl, rfl, q _ fun _ => .int _⟩
  · cases e
theorem opS_IB {f : Int → Int → Bool} : OpS K (rI0 fun i j => .bl (f i j)) (gIB f) := by
  intro H x y dx dy d Q hx hy e q
  unfold gIB at e
  split at e
  · cases e
    cases dp_int hx
    cases dp_int hy
    exact ⟨_, _, rfl, rfl, q _ fun _ => .bl _⟩
  · cases e
def gSub := gI0 fun i j => i - j
def gMul := gI (fun i j => CMul i j ∨ CMulW i j) fun i j => i * j
def gDiv := gI CDivW fun i j => i / j
def gMod := gI (fun _ j => 0 < j) fun i j => i % j
def gPow := gI CPow fun i j => i ^ j.toNat
def gLt := gIB fun i j => decide (i < j)
def gLe := gIB fun i j => decide (i ≤ j)
def gGt := gIB fun i j => decide (j < i)
def gGe := gIB fun i j => decide (j ≤ i)
@[simp] theorem gSub_int (i j : Int) : gSub (.int i) (.int j) = some (.int (i - j)) := rfl
theorem gMul_int {i j : Int} (h : CMulW i j) : gMul (.int i) (.int j) = some (.int (i * j)) := if_pos (.inr h)
theorem gDiv_int {i j : Int} (h : CDivW i j) : gDiv (.int i) (.int j) = some (.int (i / j)) := if_pos h
theorem gMod_int {i j : Int} (h : 0 < j) : gMod (.int i) (.int j) = some (.int (i % j)) := if_pos h
theorem gPow_int {i j : Int} (h : CPow i j) : gPow (.int i) (.int j) = some (.int (i ^ j.toNat)) := if_pos h
@[simp] theorem gLt_int (i j : Int) : gLt (.int i) (.int j) = some (.bool (decide (i < j))) := rfl
@[simp] theorem gLe_int (i j : Int) : gLe (.int i) (.int j) = some (.bool (decide (i ≤ j))) := rfl
@[simp] theorem gGt_int (i j : Int) : gGt (.int i) (.int j) = some (.bool (decide (j < i))) := rfl
@[simp] theorem gGe_int (i j : Int) : gGe (.int i) (.int j) = some (.bool (decide (j ≤ i))) := rfl
end

section
variable {X : Cx} {W : WX} {e a b : Expr} {es : List Expr} {pos : Pos} {f g : Ev → R D}
theorem df_sub (ha : DV X W a f) (hb : DV X W b g) : DF X W (.BinOp a .Sub b pos) (eBin gSub f g) := df_bin op_sub opS_I0 ha hb
theorem op_mulV : OpR X (binaryOp .Mult) (rI (fun i j => CMul i j ∨ CMulW i j) fun i j => .int (i * j)) := by
  intro pins s σ H x y v u Q I rx ry h
  obtain ⟨i, j, e1, e2, c, q⟩ := h
  rcases c with c | c
  · exact op_mul pins s σ H x y v u Q I rx ry ⟨i, j, e1, e2, c, q⟩
  · exact op_mulW pins s σ H x y v u Q I rx ry ⟨i, j, e1, e2, c, q⟩
theorem df_mul (ha : DV X W a f) (hb : DV X W b g) : DF X W (.BinOp a .Mult b pos) (eBin gMul f g) := df_bin op_mulV opS_I ha hb
theorem df_div (ha : DV X W a f) (hb : DV X W b g) : DF X W (.BinOp a .FloorDiv b pos) (eBin gDiv f g) := df_bin op_fdivW opS_I ha hb
theorem df_mod (ha : DV X W a f) (hb : DV X W b g) : DF X W (.BinOp a .Mod b pos) (eBin gMod f g) := df_bin op_mod opS_I ha hb
theorem df_pow (ha : DV X W a f) (hb : DV X W b g) : DF X W (.BinOp a .Pow b pos) (eBin gPow f g) := df_bin op_pow opS_I ha hb
theorem df_gt (ha : DV X W a f) (hb : DV X W b g) : DF X W (.Compare a [.Gt] [b] pos) (eBin gGt f g) := df_cmp op_gt opS_IB ha hb
theorem dt_lt (ha : DV X W a f) (hb : DV X W b g) : DT X W (.Compare a [.Lt] [b] pos) (eB (eBin gLt f g) asB) := dt_cmp op_lt opS_IB ha hb
theorem dt_gt (ha : DV X W a f) (hb : DV X W b g) : DT X W (.Compare a [.Gt] [b] pos) (eB (eBin gGt f g) asB) := dt_cmp op_gt opS_IB ha hb
theorem dt_ge (ha : DV X W a f) (hb : DV X W b g) : DT X W (.Compare a [.GtE] [b] pos) (eB (eBin gGe f g) asB) := dt_cmp op_ge opS_IB ha hb
def gNeg : D → R D
  | .int i => .ok (.int (-i))
  | _ => .no
def scalD : D → Bool
  | .none => true
  | .bool _ => true
  | .int _ => true
  | .str _ => true
  | _ => false
/-- a bool beside an int is left to the deep rule -/
def scal2 : D → D → Bool
  | .bool _, .int _ => false
  | .int _, .bool _ => false
  | a, b => scalD a && scalD b
def eqOk (a b : D) : Bool := a.canLay0 && b.canLay0 && decide (a.depth ≤ 130)
def gEq (a b : D) : Option D := if (scal2 a b || eqOk a b) = true then some (.bool (PyData.eqv a b)) else none
def gNe (a b : D) : Option D := if (scal2 a b || eqOk a b) = true then some (.bool (!PyData.eqv a b)) else none
def rEqA (K : Kw) (neg : Bool) : R2 := fun x y H Q => ∃ d e, Dp K H x d ∧ Dp K H y e ∧ eqOk d e = true ∧ Q (.bl (if neg then !PyData.eqv d e else PyData.eqv d e)) H
theorem eqOk_cases {a b : D} (h : eqOk a b = true) : a.canLay0 = true ∧ b.canLay0 = true ∧ a.depth ≤ 130 := by
  unfold eqOk at h
  simp only [Bool.and_eq_true, decide_eq_true_eq] at h
  exact ⟨h.1.1, h.1.2, h.2⟩
theorem op_eqA (hu : X.A.units + 140 < cLine) : OpR X (compareOp .Eq) (rEqA X.KK false) := by
  intro pins s σ H x y v u Q I rx ry h
  obtain ⟨d, e, hd, he, sd, q⟩ := h
  obtain ⟨as, r1⟩ := L2.Dp.reads I d x v (Dp.kit _ _ hd (eqOk_cases sd).1) rx
  obtain ⟨bs, r2⟩ := L2.Dp.reads I e y u (Dp.kit _ _ he (eqOk_cases sd).2.1) ry
  obtain ⟨c1, c2, c3⟩ := eqOk_cases sd
  exact SeqAt.compareEq_reads r1 r2 c1 c2 (by have := Nat.min_le_left d.depth e.depth; omega) ⟨.bl _, H, I, rfl, q⟩
theorem op_neA (hu : X.A.units + 140 < cLine) : OpR X (compareOp .NotEq) (rEqA X.KK true) := by
  intro pins s σ H x y v u Q I rx ry h
  obtain ⟨d, e, hd, he, sd, q⟩ := h
  obtain ⟨as, r1⟩ := L2.Dp.reads I d x v (Dp.kit _ _ hd (eqOk_cases sd).1) rx
  obtain ⟨bs, r2⟩ := L2.Dp.reads I e y u (Dp.kit _ _ he (eqOk_cases sd).2.1) ry
  obtain ⟨c1, c2, c3⟩ := eqOk_cases sd
  exact SeqAt.compareNe_reads r1 r2 c1 c2 (by have := Nat.min_le_left d.depth e.depth; omega) ⟨.bl _, H, I, rfl, q⟩
theorem scal_dp {K : Kw} {H : Hp} {x y : V} {a b : D} (ha : Dp K H x a) (hb : Dp K H y b) (h : scal2 a b = true) : scal x y = true ∧ decide (x = y) = PyData.eqv a b := by
  cases a <;> cases b <;> first
    | (cases h; done)
    | (cases ha; cases hb; refine ⟨rfl, ?_⟩; simp [PyData.eqv]; try rfl)
    | (cases ha; cases hb; refine ⟨rfl, ?_⟩; simp [PyData.eqv, dec_int, dec_bl, dec_str])
theorem opS_eq {K : Kw} : OpS K (fun x y H Q => rEq x y H Q ∨ rEqA K false x y H Q) gEq := by
  intro H x y dx dy d Q hx hy e q
  unfold gEq at e
  split at e
  · rename_i c
    cases e
    cases c1 : scal2 dx dy with
    | true =>
      obtain ⟨h1, h2⟩ := scal_dp hx hy c1
      exact .inl ⟨h1, by rw [h2]; exact q _ fun _ => .bl _⟩
    | false =>
      rw [c1, Bool.false_or] at c
      exact .inr ⟨dx, dy, hx, hy, c, q _ fun _ => .bl _⟩
  · cases e
theorem opS_ne {K : Kw} : OpS K (fun x y H Q => rNe x y H Q ∨ rEqA K true x y H Q) gNe := by
  intro H x y dx dy d Q hx hy e q
  unfold gNe at e
  split at e
  · rename_i c
    cases e
    cases c1 : scal2 dx dy with
    | true =>
      obtain ⟨h1, h2⟩ := scal_dp hx hy c1
      exact .inl ⟨h1, by rw [h2]; exact q _ fun _ => .bl _⟩
    | false =>
      rw [c1, Bool.false_or] at c
      exact .inr ⟨dx, dy, hx, hy, c, q _ fun _ => .bl _⟩
  · cases e
theorem df_eq (hu : X.A.units + 140 < cLine) (ha : DV X W a f) (hb : DV X W b g) : DF X W (.Compare a [.Eq] [b] pos) (eBin gEq f g) := df_cmp (OpR.or op_eq (op_eqA hu)) opS_eq ha hb
theorem dt_eq (hu : X.A.units + 140 < cLine) (ha : DV X W a f) (hb : DV X W b g) : DT X W (.Compare a [.Eq] [b] pos) (eB (eBin gEq f g) asB) := dt_cmp (OpR.or op_eq (op_eqA hu)) opS_eq ha hb
theorem dt_ne (hu : X.A.units + 140 < cLine) (ha : DV X W a f) (hb : DV X W b g) : DT X W (.Compare a [.NotEq] [b] pos) (eB (eBin gNe f g) asB) := dt_cmp (OpR.or op_ne (op_neA hu)) opS_ne ha hb
def isNone : D → Bool
  | .none => true
  | _ => false
def gIsN : D → D → Option D
  | x, .none => some (.bool (isNone x))
  | _, _ => none
def gNotN : D → D → Option D
  | x, .none => some (.bool (!isNone x))
  | _, _ => none
@[simp] theorem gIsN_none (x : D) : gIsN x .none = some (.bool (isNone x)) := by cases x <;> rfl
@[simp] theorem gNotN_none (x : D) : gNotN x .none = some (.bool (!isNone x)) := by cases x <;> rfl
theorem isNone_dp {K : Kw} {H : Hp} {x : V} {d : D} (h : Dp K H x d) : decide (x = .non) = isNone d := by
  cases h <;> first | rfl | (simp [isNone]; done)
theorem opS_isN {K : Kw} : OpS K (fun x y H Q => y = .non ∧ Q (.bl (decide (x = .non))) H) gIsN := by
  intro H x y dx dy d Q hx hy e q
  cases dy with
  | none =>
    rw [gIsN_none] at e
    cases e
    exact ⟨dp_none hy, by rw [isNone_dp hx]; exact q _ fun _ => .bl _⟩
  | _ => cases dx <;> cases e
theorem dt_isN (ha : DV X W a f) (hb : DV X W b g) : DT X W (.Compare a [.Is] [b] pos) (eB (eBin gIsN f g) asB) := dt_cmp op_isN opS_isN ha hb
def gAdd : D → D → Option Ow
  | .int i, .int j => some (.d (.int (i + j)))
  | .str x, .str y => if x.length + y.length ≤ sizeLine then some (.d (.str (x ++ y))) else none
  | .tuple xs, .tuple ys => if xs.length + ys.length ≤ sizeLine then some (.d (.tuple (xs ++ ys))) else none
  | .list xs, .list ys => if xs.length + ys.length ≤ sizeLine then some (.l ((xs ++ ys).map Ow.d)) else none
  | _, _ => none
@[simp] theorem gAdd_int (i j : Int) : gAdd (.int i) (.int j) = some (.d (.int (i + j))) := rfl
theorem gAdd_tup {xs ys : List D} (h : xs.length + ys.length ≤ sizeLine) : gAdd (.tuple xs) (.tuple ys) = some (.d (.tuple (xs ++ ys))) := if_pos h
def rCatL (K : Kw) : R2 := fun x y H Q => ∃ a b xs ys, x = .ref a ∧ y = .ref b ∧ SqL K H a xs ∧ SqL K H b ys ∧ xs.length + ys.length ≤ sizeLine ∧ ∀ p, H p = none → Q (.ref p) (upd H p (.lst (xs ++ ys)))
theorem op_catL : OpR X (binaryOp .Add) (rCatL X.KK) := by
  intro pins s σ H x y v u Q I rx ry h
  obtain ⟨l, b, xs, zs, rfl, rfl, hH, hB, hz, q⟩ := h
  cases rx
  cases ry
  obtain ⟨its, r, pl, hl⟩ := I.list hH
  obtain ⟨its2, r2, pl2, hl2⟩ := I.list hB
  obtain ⟨⟨c1, d1, t1, s1⟩, g1, k1, n1, m1⟩ := pl.isList
  obtain ⟨⟨c2, d2, t2, s2⟩, g2, k2, n2, m2⟩ := pl2.isList
  simp only at k1 m1 k2 m2
  subst k1 m1 k2 m2
  refine PySem.concat_meets ⟨_, g1, rfl⟩ ⟨_, g2, rfl⟩ PySem.noFill_list_add PySem.seq_list_add PySem.F.slot_list_add PySem.F.entry_list_add (PySem.F.args_list_add_2 _ _)
    (PyProof.Rows.list_addW l b its.toArray its2.toArray n1 n2 d1 d2 s1 s2 (by rw [List.size_toArray, List.size_toArray, ← r.length, ← r2.length]; exact hz)) ⟨g1, g2, ?_⟩
  have ea : its.toArray ++ its2.toArray = (its ++ its2).toArray := by simp
  rw [ea]
  exact ⟨.ref _, _, I.lnew (t' := s.toks) (r.append r2) (by rw [List.length_append]; omega), rfl, q _ I.fresh⟩
abbrev rAddAll (K : Kw) : R2 := fun x y H Q => rI0 (fun i j => .int (i + j)) x y H Q ∨ (fun x y H Q => (∃ i j, x = V.str i ∧ y = V.str j ∧ i.length + j.length ≤ sizeLine ∧ Q (.str (i ++ j)) H) ∨ (fun x y H Q => rCatA K x y H Q ∨ rCatL K x y H Q) x y H Q) x y H Q
theorem op_addAll : OpR X (binaryOp .Add) (rAddAll X.KK) := OpR.or op_add (OpR.or op_add_str (OpR.or op_catA op_catL))
def eBinO (g : D → D → Option Ow) (f h : Ev → R D) (env : Ev) : R Ow := (f env).bind fun x => (h env).bind fun y => R.of (g x y)
/-- two operands with frozen items, a new value -/
def OpG (K : Kw) (r : R2) (g : D → D → Option Ow) : Prop := ∀ F H x y dx dy o Q, Same F H → PSq K H dx x F H → PSq K H dy y F H → g dx dy = some o → (∀ v F' H', Ext F H F' H' → POw K H o v F' H' → Q v H') → r x y H Q
theorem opG_sm {r : R2} {g : D → D → Option Ow} (hs : OpG X.KK r g) {ta tb : TE} {f h : Ev → R D} (sa : Sm X W (PSq X.KK) ta f) (sb : Sm X W (PSq X.KK) tb h) : Sm X W (POw X.KK) (tOp r ta tb) (eBinO g f h) := by
  intro F H σ env fp Q sat hp
  refine sa.go sat hp fun d v F1 H1 sat1 q _ h1 => ?_
  refine sb.go sat1 h1 fun d' v' F2 H2 sat2 q' x2 h2 => ?_
  obtain ⟨z, hz, h3⟩ := post_of h2
  exact hs F2 H2 v v' d d' z Q sat2.fh (q.ext x2) q' hz h3
theorem de_bin {op : Operator} {r : R2} {g : D → D → Option Ow} (ho : OpR X (binaryOp op) r) (hs : OpG X.KK r g) {f h : Ev → R D} (ha : DL X W a f) (hb : DL X W b h) : DE X W (.BinOp a op b pos) (eBinO g f h) := by
  obtain ⟨ta, pa, sa⟩ := ha
  obtain ⟨tb, pb, sb⟩ := hb
  exact ⟨_, pe_op ho pa pb, opG_sm hs sa sb⟩
theorem own_d {K : Kw} {H0 F H : Hp} {v : V} {d : D} (h : Dp K F v d) : POw K H0 (.d d) v F H := ⟨[], .d h, List.nodup_nil, fun _ z => nomatch z⟩
theorem own_l {K : Kw} {F H : Hp} {p : Addr} {vs : List V} {ds : List D} (s : Same F H) (hp : H p = none) (h : DpAll K F vs ds) : POw K H (.l (ds.map Ow.d)) (.ref p) F (upd H p (.lst vs)) :=
  ⟨[p], .l (free_of s hp) upd_same (OwnAll.of_dp h), by simp, by simpa using hp⟩
theorem opG_add {K : Kw} : OpG K (rAddAll K) gAdd := by
  intro F H x y dx dy o Q s hx hy e q
  unfold gAdd at e
  split at e
  · cases e
    cases dp_int hx
    cases dp_int hy
    exact .inl ⟨_, _, rfl, rfl, q _ _ _ (.refl s) (own_d (.int _))⟩
  · split at e
    · cases e
      cases dp_str hx
      cases dp_str hy
      exact .inr (.inl ⟨_, _, rfl, rfl, ‹_›, q _ _ _ (.refl s) (own_d (.str _))⟩)
    · cases e
  · split at e
    · rename_i xs ys c
      cases e
      obtain ⟨a, vs, rfl, h1, h2⟩ := dp_tup hx
      obtain ⟨b, ws, rfl, g1, g2⟩ := dp_tup hy
      refine .inr (.inr (.inl ⟨a, b, vs, ws, rfl, rfl, SqT_mono s h1, SqT_mono s g1, by rw [DpAll.len h2, DpAll.len g2]; exact c, fun e0 => ?_, fun n0 e0 => ?_, fun n0 n1 p hp => ?_⟩))
      · have l := DpAll.len h2
        rw [e0] at l
        have z : xs = [] := List.length_eq_zero_iff.mp l.symm
        subst z
        exact q _ _ _ (.refl s) (own_d hy)
      · have l := DpAll.len g2
        rw [e0] at l
        have z : ys = [] := List.length_eq_zero_iff.mp l.symm
        subst z
        rw [List.append_nil] at q
        exact q _ _ _ (.refl s) (own_d hx)
      · have x := Ext.frz s hp (.tup (vs ++ ws))
        exact q _ _ _ x (own_d (.tup (SqT.of upd_same) (dpaUp (DpAll.append h2 g2) x.ff)))
    · cases e
  · split at e
    · rename_i xs ys c
      cases e
      obtain ⟨a, vs, rfl, h1, h2⟩ := hx
      obtain ⟨b, ws, rfl, g1, g2⟩ := hy
      refine .inr (.inr (.inr ⟨a, b, vs, ws, rfl, rfl, h1, g1, by rw [DpAll.len h2, DpAll.len g2]; exact c, fun p hp => ?_⟩))
      exact q _ _ _ (Ext.own s hp _) (own_l s hp (DpAll.append h2 g2))
    · cases e
  · cases e
theorem de_add (ha : DL X W a f) (hb : DL X W b g) : DE X W (.BinOp a .Add b pos) (eBinO gAdd f g) := de_bin op_addAll opG_add ha hb
end
end Mir
end
set_option Elab.async false
set_option linter.all false
set_option maxRecDepth 100000
set_option maxHeartbeats 4000000
noncomputable section
namespace Mir
open PySem PySem.Spec L2

section
variable {X : Cx} {W : WX} {e a b : Expr} {es : List Expr} {pos : Pos} {f g : Ev → R D}
theorem atI_dp {K : Kw} {F : Hp} {vs : List V} {ds : List D} {i : Int} {d : D} (h : DpAll K F vs ds) (e : atI ds i = some d) : ∃ v, atI vs i = some v ∧ Dp K F v d := by
  unfold atI at e ⊢
  rw [DpAll.len h]
  cases q : ixN ds.length i with
  | none => rw [q] at e; cases e
  | some j =>
    rw [q] at e
    exact DpAll.get h e
def gIx : D → D → Option D
  | .list ds, .int i => atI ds i
  | .tuple ds, .int i => atI ds i
  | .str z, .int i => if z.length ≤ sizeLine then (atI z.cps.toList i).map fun c => .str ⟨#[c]⟩ else none
  | _, _ => none
@[simp] theorem gIx_list (ds : List D) (i : Int) : gIx (.list ds) (.int i) = atI ds i := rfl
@[simp] theorem gIx_tup (ds : List D) (i : Int) : gIx (.tuple ds) (.int i) = atI ds i := rfl
theorem df_ix (ha : DL X W a f) (hb : DV X W b g) (hs : PlainIx b := by exact fun _ _ => rfl) : DF X W (.Subscript a b pos) (eBin gIx f g) := by
  obtain ⟨ta, pa, sa⟩ := ha
  obtain ⟨tb, pb, sb⟩ := hb
  refine ⟨_, pe_ix ix_seq pa pb hs, fun F H σ env fp Q sat hp => ?_⟩
  refine sa.go sat hp fun d v F1 H1 sat1 q _ h1 => ?_
  refine sb.go sat1 h1 fun d' v' F2 H2 sat2 q' x2 h2 => ?_
  obtain ⟨z, hz, h3⟩ := post_of h2
  unfold gIx at hz
  split at hz
  · rename_i ds i
    cases dp_int q'
    obtain ⟨p, vs, rfl, p1, p2⟩ := q
    obtain ⟨w, w1, w2⟩ := atI_dp p2 hz
    exact .inl ⟨p, vs, i, w, rfl, rfl, x2.hh.seq p1, w1, h3 _ _ _ (.refl sat2.fh) (dpUp w2 x2.ff)⟩
  · rename_i ds i
    cases dp_int q'
    obtain ⟨p, vs, rfl, p1, p2⟩ := dp_tup q
    obtain ⟨w, w1, w2⟩ := atI_dp p2 hz
    exact .inr (.inl ⟨p, vs, i, w, rfl, rfl, SqT_mono (x2.ff.trans sat2.fh) p1, w1, h3 _ _ _ (.refl sat2.fh) (dpUp w2 x2.ff)⟩)
  · split at hz
    · rename_i zz i c
      cases dp_int q'
      cases dp_str q
      obtain ⟨cc, c1, c2⟩ := Option.map_eq_some_iff.mp hz
      subst c2
      exact .inr (.inr ⟨_, _, cc, rfl, rfl, c, c1, h3 _ _ _ (.refl sat2.fh) (.str _)⟩)
    · cases hz
  · cases hz
/-- a slice's part -/
def DO (X : Cx) (W : WX) (e : Option Expr) (f : Ev → R (Option Int)) : Prop := ∃ t, PO X e t ∧ Sm X W (fun _ a v _ _ => v = a) t f
instance : Anti (fun (_ : Hp) (a v : Option Int) (_ _ : Hp) => v = a) := ⟨fun _ h => h⟩
def oNone (_ : Ev) : R (Option Int) := .ok none
def asI : D → R (Option Int)
  | .int i => .ok (some i)
  | _ => .no
@[simp] theorem asI_int (i : Int) : asI (.int i) = .ok (some i) := rfl
theorem do_none : DO X W none oNone := ⟨_, po_none, fun F H σ env fp Q sat hp => hp none F H (.refl sat.fh) rfl⟩
theorem do_some (h : DV X W e f) : DO X W (some e) (eB f asI) := by
  obtain ⟨t, p, s⟩ := h
  refine ⟨_, po_some p, fun F H σ env fp Q sat hp => ?_⟩
  refine s.go sat hp fun d v F1 H1 sat1 q _ h1 => ?_
  cases d with
  | int i => cases dp_int q; exact ⟨i, rfl, h1 _ F1 H1 (.refl sat1.fh) rfl⟩
  | _ => exact h1.elim
def cutL {α : Type} (xs : List α) (lo hi : Option Int) : List α := (xs.drop (HT.sIx xs.length 0 lo)).take (HT.sIx xs.length xs.length hi - HT.sIx xs.length 0 lo)
theorem cutL_dp {K : Kw} {F : Hp} {vs : List V} {ds : List D} {lo hi : Option Int} (h : DpAll K F vs ds) : DpAll K F (cutV vs lo hi) (cutL ds lo hi) := by
  unfold cutV cutL
  rw [DpAll.len h]
  exact DpAll.take _ (DpAll.drop _ h)
def gSl : D → Option Int → Option Int → Option Ow
  | .list ds, lo, hi => some (.l ((cutL ds lo hi).map Ow.d))
  | .tuple ds, lo, hi => some (.d (.tuple (cutL ds lo hi)))
  | .str z, lo, hi => if z.length ≤ sizeLine then some (.d (.str (cutS z lo hi))) else none
  | _, _, _ => none
@[simp] theorem gSl_list (ds : List D) (lo hi : Option Int) : gSl (.list ds) lo hi = some (.l ((cutL ds lo hi).map Ow.d)) := rfl
@[simp] theorem gSl_tup (ds : List D) (lo hi : Option Int) : gSl (.tuple ds) lo hi = some (.d (.tuple (cutL ds lo hi))) := rfl
def eSl (f : Ev → R D) (l h : Ev → R (Option Int)) (env : Ev) : R Ow := (f env).bind fun x => (l env).bind fun i => (h env).bind fun j => R.of (gSl x i j)
theorem de_slice {lo hi : Option Expr} {l h : Ev → R (Option Int)} {p2 : Pos} (ha : DL X W a f) (hl : DO X W lo l) (hh : DO X W hi h) : DE X W (.Subscript a (.Slice lo hi none p2) pos) (eSl f l h) := by
  obtain ⟨ta, pa, sa⟩ := ha
  obtain ⟨tl, pl, sl⟩ := hl
  obtain ⟨th, ph, sh⟩ := hh
  refine ⟨_, pe_slice (SlR.or sl_list (SlR.or sl_tupA sl_str)) pa pl ph, fun F H σ env fp Q sat hp => ?_⟩
  refine sa.go sat hp fun d v F1 H1 sat1 q _ h1 => ?_
  refine sl.go sat1 h1 fun i i' F2 H2 sat2 q' x2 h2 => ?_
  obtain rfl : i' = i := q'
  refine sh.go sat2 h2 fun j j' F3 H3 sat3 q' x3 h3 => ?_
  obtain rfl : j' = j := q'
  obtain ⟨z, hz, h4⟩ := post_of h3
  have x := x2.trans x3
  unfold gSl at hz
  split at hz
  · cases hz
    obtain ⟨p, vs, rfl, p1, p2⟩ := q
    refine .inl ⟨p, vs, rfl, x.hh.seq p1, fun r hr => ?_⟩
    exact h4 _ _ _ (Ext.own sat3.fh hr _) (own_l sat3.fh hr (cutL_dp (dpaUp p2 x.ff)))
  · cases hz
    obtain ⟨p, vs, rfl, p1, p2⟩ := dp_tup q
    have p3 := DpAll.len p2
    refine .inr (.inl ⟨p, vs, rfl, SqT_mono (x.ff.trans sat3.fh) p1, fun c => ?_, fun _ r hr => ?_⟩)
    · refine h4 _ _ _ (.refl sat3.fh) (own_d ?_)
      rename_i ds
      have e : cutL ds i' j' = ds := by
        unfold cutL
        rw [← p3, c.1, c.2, List.drop_zero, Nat.sub_zero, p3, List.take_length]
      rw [e]
      exact dpUp q x.ff
    · have y := Ext.frz sat3.fh hr (.tup (cutV vs i' j'))
      exact h4 _ _ _ y (own_d (.tup (SqT.of upd_same) (cutL_dp (dpaUp p2 (x.ff.trans y.ff)))))
  · split at hz
    · cases hz
      cases dp_str q
      exact .inr (.inr ⟨_, rfl, ‹_›, h4 _ _ _ (.refl sat3.fh) (own_d (.str _))⟩)
    · cases hz
  · cases hz

inductive PSqs (K : Kw) (F H : Hp) : List D → List V → Prop
  | nil : PSqs K F H [] []
  | cons {d : D} {ds : List D} {v : V} {vs : List V} : PSq K H d v F H → PSqs K F H ds vs → PSqs K F H (d :: ds) (v :: vs)
def PAl (K : Kw) (_ : Hp) (ds : List D) (vs : List V) (F' H' : Hp) : Prop := PSqs K F' H' ds vs
instance {K : Kw} : Anti (PAl K) := ⟨fun _ h => h⟩
def DAl (X : Cx) (W : WX) (es : List Expr) (f : Ev → R (List D)) : Prop := ∃ t, PA X es t ∧ Sm X W (PAl X.KK) t f
theorem dal_nil : DAl X W [] aNil := ⟨_, pa_nil, fun F H σ env fp Q sat h => h _ F H (.refl sat.fh) .nil⟩
theorem dal_cons {f : Ev → R D} {g : Ev → R (List D)} (hf : DL X W e f) (hg : DAl X W es g) (hs : starEach (e :: es) X.env = (false, eval e X.env) :: starEach es X.env := by rfl) : DAl X W (e :: es) (aCons f g) := by
  obtain ⟨t, p, s⟩ := hf
  obtain ⟨t', p', s'⟩ := hg
  refine ⟨_, pa_cons p p' hs, fun F H σ env fp Q sat h => ?_⟩
  refine s.go sat h fun d v F1 H1 sat1 q _ h1 => ?_
  refine s'.go sat1 h1 fun ds vs F2 H2 sat2 q' x2 h2 => ?_
  exact h2 _ F2 H2 (.refl sat2.fh) (.cons (q.ext x2) q')
def CaG (K : Kw) (r : List V → Hp → VK → Prop) (g : List D → Option Ow) : Prop := ∀ F H vs ds o Q, Same F H → PSqs K F H ds vs → g ds = some o → (∀ v F' H', Ext F H F' H' → POw K H o v F' H' → Q v H') → r vs H Q
def eCa (g : List D → Option Ow) (f : Ev → R (List D)) (env : Ev) : R Ow := (f env).bind fun ds => R.of (g ds)
theorem ca_sm {r : List V → Hp → VK → Prop} {g : List D → Option Ow} {t : TA} {f : Ev → R (List D)} (hs : CaG X.KK r g) (s : Sm X W (PAl X.KK) t f) : Sm X W (POw X.KK) (tCB r t) (eCa g f) := by
  intro F H σ env fp Q sat hp
  refine s.go sat hp fun ds vs F1 H1 sat1 q _ h1 => ?_
  obtain ⟨z, hz, h2⟩ := post_of h1
  exact hs F1 H1 vs ds z Q sat1.fh q hz h2
theorem de_callB {id : String} {r : List V → Hp → VK → Prop} {g : List D → Option Ow} {x : Str} {p : Pos} {f : Ev → R (List D)} (hc : CallR X (.builtin id) r) (hs : CaG X.KK r g) (hg : Gl X x) (hm : X.mg x = none) (hv : bootBuiltins x = some (.builtin id)) (ha : DAl X W (e :: es) f)
    (hn : x ≠ "__name__" := by decide) (hdb : (x == ("__debug__" : Str)) = false := by decide)
    (he : starEach (e :: es) X.env = (false, eval e X.env) :: starEach es X.env := by rfl) (hpl : (backTo pos (starEach es X.env)).any (·.1) = false := by rfl) : DE X W (.Call (.Name x p) (e :: es) [] pos) (eCa g f) := by
  obtain ⟨t, pa, s⟩ := ha
  exact ⟨_, pe_callB hc hg hm hv pa hn hdb he hpl, ca_sm hs s⟩
theorem de_callTy {T : String} {r : List V → Hp → VK → Prop} {g : List D → Option Ow} {x : Str} {p : Pos} {f : Ev → R (List D)} (hc : CallR X (.type T) r) (hs : CaG X.KK r g) (hg : Gl X x) (hm : X.mg x = none) (hv : bootBuiltins x = some (.type T)) (ha : DAl X W (e :: es) f)
    (hn : x ≠ "__name__" := by decide) (hdb : (x == ("__debug__" : Str)) = false := by decide)
    (he : starEach (e :: es) X.env = (false, eval e X.env) :: starEach es X.env := by rfl) (hpl : (backTo pos (starEach es X.env)).any (·.1) = false := by rfl) : DE X W (.Call (.Name x p) (e :: es) [] pos) (eCa g f) := by
  obtain ⟨t, pa, s⟩ := ha
  exact ⟨_, pe_callTy hc hg hm hv pa hn hdb he hpl, ca_sm hs s⟩
theorem psqs1 {K : Kw} {F H : Hp} {d : D} {vs : List V} (h : PSqs K F H [d] vs) : ∃ v, vs = [v] ∧ PSq K H d v F H := by
  cases h with | cons a b => cases b; exact ⟨_, rfl, a⟩
theorem psqs2 {K : Kw} {F H : Hp} {d d' : D} {vs : List V} (h : PSqs K F H [d, d'] vs) : ∃ v w, vs = [v, w] ∧ PSq K H d v F H ∧ PSq K H d' w F H := by
  cases h with | cons a b => cases b with | cons a' b' => cases b'; exact ⟨_, _, rfl, a, a'⟩
def gLen : List D → Option Ow
  | [.list ds] => some (.d (.int ds.length))
  | [.tuple ds] => some (.d (.int ds.length))
  | [.str z] => if z.length ≤ sizeLine then some (.d (.int z.length)) else none
  | _ => none
@[simp] theorem gLen_list (ds : List D) : gLen [.list ds] = some (.d (.int ds.length)) := rfl
@[simp] theorem gLen_tup (ds : List D) : gLen [.tuple ds] = some (.d (.int ds.length)) := rfl
theorem caG_len {K : Kw} : CaG K (fun xs H Q => ∃ x n, xs = [x] ∧ LenV K x H n ∧ Q (.int n) H) gLen := by
  intro F H vs ds o Q s h e q
  unfold gLen at e
  split at e
  · cases e
    obtain ⟨v, rfl, p, ws, rfl, p1, p2⟩ := psqs1 h
    exact ⟨_, _, rfl, .inl ⟨ws, p1, (DpAll.len p2).symm⟩, q _ _ _ (.refl s) (own_d (.int _))⟩
  · cases e
    obtain ⟨v, rfl, w⟩ := psqs1 h
    obtain ⟨p, ws, rfl, p1, p2⟩ := dp_tup w
    exact ⟨_, _, rfl, .inr ⟨ws, SqT_mono s p1, (DpAll.len p2).symm⟩, q _ _ _ (.refl s) (own_d (.int _))⟩
  · split at e
    · rename_i c
      cases e
      obtain ⟨v, rfl, w⟩ := psqs1 h
      cases dp_str w
      exact ⟨_, _, rfl, ⟨c, rfl⟩, q _ _ _ (.refl s) (own_d (.int _))⟩
    · cases e
  · cases e
def gMax2 : List D → Option Ow
  | [.int i, .int j] => some (.d (.int (if j > i then j else i)))
  | _ => none
def gMin2 : List D → Option Ow
  | [.int i, .int j] => some (.d (.int (if j < i then j else i)))
  | _ => none
@[simp] theorem gMax2_int (i j : Int) : gMax2 [.int i, .int j] = some (.d (.int (if j > i then j else i))) := rfl
@[simp] theorem gMin2_int (i j : Int) : gMin2 [.int i, .int j] = some (.d (.int (if j < i then j else i))) := rfl
theorem caG_max2 {K : Kw} : CaG K (fun xs H Q => ∃ i j, xs = [.int i, .int j] ∧ Q (.int (if j > i then j else i)) H) gMax2 := by
  intro F H vs ds o Q s h e q
  unfold gMax2 at e
  split at e
  · cases e
    obtain ⟨v, w, rfl, h1, h2⟩ := psqs2 h
    cases dp_int h1
    cases dp_int h2
    exact ⟨_, _, rfl, q _ _ _ (.refl s) (own_d (.int _))⟩
  · cases e
def intsD : List D → Option (List Int)
  | [] => some []
  | .int i :: ds => (intsD ds).map fun is => i :: is
  | _ :: _ => none
@[simp] theorem intsD_map : ∀ ns : List Int, intsD (ns.map PyData.int) = some ns
  | [] => rfl
  | n :: ns => by simp [intsD, intsD_map ns]
def gList : List D → Option Ow
  | [.list ds] => some (.l (ds.map Ow.d))
  | [.tuple ds] => some (.l (ds.map Ow.d))
  | _ => none
@[simp] theorem gList_list (ds : List D) : gList [.list ds] = some (.l (ds.map Ow.d)) := rfl
@[simp] theorem gList_tup (ds : List D) : gList [.tuple ds] = some (.l (ds.map Ow.d)) := rfl
def gTuple : List D → Option Ow
  | [.list ds] => some (.d (.tuple ds))
  | [.tuple ds] => some (.d (.tuple ds))
  | _ => none
@[simp] theorem gTuple_list (ds : List D) : gTuple [.list ds] = some (.d (.tuple ds)) := rfl
@[simp] theorem gTuple_tup (ds : List D) : gTuple [.tuple ds] = some (.d (.tuple ds)) := rfl
theorem caG_tuple {K : Kw} : CaG K (fun xs H Q => ∃ p ys, xs = [.ref p] ∧ ((SqL K H p ys ∧ ∀ l, H l = none → Q (.ref l) (upd H l (.tup ys))) ∨ (SqT K H p ys ∧ Q (.ref p) H))) gTuple := by
  intro F H vs ds o Q s h e q
  unfold gTuple at e
  split at e
  · cases e
    obtain ⟨v, rfl, p, ws, rfl, p1, p2⟩ := psqs1 h
    refine ⟨p, ws, rfl, .inl ⟨p1, fun l hl => ?_⟩⟩
    have y := Ext.frz s hl (.tup ws)
    exact q _ _ _ y (own_d (.tup (SqT.of upd_same) (dpaUp p2 y.ff)))
  · cases e
    obtain ⟨v, rfl, w⟩ := psqs1 h
    obtain ⟨p, ws, rfl, p1, p2⟩ := dp_tup w
    exact ⟨p, ws, rfl, .inr ⟨SqT_mono s p1, q _ _ _ (.refl s) (own_d (.tup p1 p2))⟩⟩
  · cases e
def gInt : List D → Option Ow
  | [.int i] => some (.d (.int i))
  | [.bool b] => some (.d (.int (if b then 1 else 0)))
  | [.str z] => if z.length ≤ 640 then (PySem.intText? z).map fun n => .d (.int n) else none
  | _ => none
@[simp] theorem gInt_int (i : Int) : gInt [.int i] = some (.d (.int i)) := rfl
@[simp] theorem gInt_bool (b : Bool) : gInt [.bool b] = some (.d (.int (if b then 1 else 0))) := rfl
theorem caG_int {K : Kw} : CaG K (fun xs H Q => ((∃ i, xs = [.int i] ∧ Q (.int i) H) ∨ ∃ k, xs = [.bl k] ∧ Q (.int (if k then 1 else 0)) H) ∨ ∃ a n, xs = [.str a] ∧ PySem.intText? a = some n ∧ a.length ≤ 640 ∧ Q (.int n) H) gInt := by
  intro F H vs ds o Q s h e q
  unfold gInt at e
  split at e
  · cases e
    obtain ⟨v, rfl, w⟩ := psqs1 h
    cases dp_int w
    exact .inl (.inl ⟨_, rfl, q _ _ _ (.refl s) (own_d (.int _))⟩)
  · cases e
    obtain ⟨v, rfl, w⟩ := psqs1 h
    cases dp_bool w
    exact .inl (.inr ⟨_, rfl, q _ _ _ (.refl s) (own_d (.int _))⟩)
  · split at e
    · obtain ⟨n, e2, rfl⟩ := Option.map_eq_some_iff.mp e
      obtain ⟨v, rfl, w⟩ := psqs1 h
      cases dp_str w
      exact .inr ⟨_, n, rfl, e2, ‹_›, q _ _ _ (.refl s) (own_d (.int _))⟩
    · cases e
  · cases e
theorem de_len {x : Expr} {p : Pos} {f : Ev → R (List D)} (hg : Gl X "len") (hm : X.mg "len" = none) (ha : DAl X W [x] f) (hpl : starEach [x] X.env = (false, eval x X.env) :: starEach [] X.env := by rfl) : DE X W (.Call (.Name "len" p) [x] [] pos) (eCa gLen f) :=
  de_callB call_len caG_len hg hm PySem.boot_len ha (he := hpl)
theorem de_max2 {x y : Expr} {p : Pos} {f : Ev → R (List D)} (hc : X.calm = true) (hg : Gl X "max") (hm : X.mg "max" = none) (ha : DAl X W [x, y] f) (he : starEach [x, y] X.env = (false, eval x X.env) :: starEach [y] X.env := by rfl) (hpl : (backTo pos (starEach [y] X.env)).any (·.1) = false := by rfl) : DE X W (.Call (.Name "max" p) [x, y] [] pos) (eCa gMax2 f) :=
  de_callB (call_max2 hc) caG_max2 hg hm (by decide +kernel) ha (he := he) (hpl := hpl)
theorem de_tuple {x : Expr} {p : Pos} {f : Ev → R (List D)} (hg : Gl X "tuple") (hm : X.mg "tuple" = none) (ha : DAl X W [x] f) (he : starEach [x] X.env = (false, eval x X.env) :: starEach [] X.env := by rfl) : DE X W (.Call (.Name "tuple" p) [x] [] pos) (eCa gTuple f) :=
  de_callTy call_tuple_of caG_tuple hg hm (by decide +kernel) ha (he := he)
theorem de_int {x : Expr} {p : Pos} {f : Ev → R (List D)} (hg : Gl X "int") (hm : X.mg "int" = none) (ha : DAl X W [x] f) (he : starEach [x] X.env = (false, eval x X.env) :: starEach [] X.env := by rfl) : DE X W (.Call (.Name "int" p) [x] [] pos) (eCa gInt f) :=
  de_callTy (CallR.or call_int1 call_int_str) caG_int hg hm (by decide +kernel) ha (he := he)
def dTy : D → String
  | .none => "NoneType"
  | .bool _ => "bool"
  | .int _ => "int"
  | .str _ => "str"
  | .list _ => "list"
  | .tuple _ => "tuple"
  | .dict _ => "dict"
theorem sqL_ty {K : Kw} {H : Hp} {a : Addr} {xs : List V} (h : SqL K H a xs) : TyX K H (.ref a) (.type "list") := by
  rcases h with (h | ⟨o, h⟩) | ⟨o, its, n, hk, hc, _⟩
  · exact .base (.lst h)
  · exact .base (.frz h)
  · exact .kList hk hc
theorem sqT_ty {K : Kw} {H : Hp} {a : Addr} {xs : List V} (h : SqT K H a xs) : TyX K H (.ref a) (.type "tuple") := by
  rcases h with (h | ⟨o, h⟩) | ⟨o, its, n, hk, hc, _⟩
  · exact .base (.tup h)
  · exact .fTuple h
  · exact .kTuple hk hc
def isDct : D → Bool
  | .dict _ => true
  | _ => false
theorem dp_ty {K : Kw} {H : Hp} {v : V} {d : D} (h : Dp K H v d) (nd : isDct d = false) : TyX K H v (.type (dTy d)) := by
  cases h with
  | non => exact .base .non
  | bl b => exact .base (.bl b)
  | int i => exact .base (.int i)
  | str i => exact .base (.str i)
  | lst a b => exact sqL_ty a
  | tup a b => exact sqT_ty a
  | _ => cases nd
def gIsi (T : String) (d : D) : R D := if isDct d = true then .no else match kitB (dTy d) T with
  | some b => .ok (.bool b)
  | none => .no
theorem df_isi {T : String} {y : Str} {p p2 : Pos} (ha : DV X W a f) (hg : Gl X "isinstance") (hm : X.mg "isinstance" = none) (gT : Gl X y) (mT : X.mg y = none) (bT : bootBuiltins y = some (.type T))
    (he : starEach [a, .Name y p2] X.env = (false, eval a X.env) :: starEach [.Name y p2] X.env := by rfl) (he2 : starEach [.Name y p2] X.env = (false, eval (.Name y p2) X.env) :: starEach [] X.env := by rfl) (hpl : (backTo pos (starEach [.Name y p2] X.env)).any (·.1) = false := by rfl)
    (hn : y ≠ "__name__" := by decide) (hd : (y == ("__debug__" : Str)) = false := by decide) : DF X W (.Call (.Name "isinstance" p) [a, .Name y p2] [] pos) (eB f (gIsi T)) := by
  obtain ⟨t, pa, s⟩ := ha
  refine ⟨_, pe_callB call_isi hg hm (by decide +kernel) (pa_cons pa (pa_cons (pe_bltn (v := .ty T) gT mT bT rfl hn hd) pa_nil he2) he) (he := he) (hpl := hpl), fun F H σ env fp Q sat hp => ?_⟩
  refine s.go sat hp fun d v F1 H1 sat1 q _ h1 => ?_
  unfold gIsi at h1
  cases nd : isDct d with
  | true => rw [nd] at h1; exact h1.elim
  | false =>
  rw [nd] at h1
  simp only [Bool.false_eq_true, if_false] at h1
  split at h1
  · rename_i b hb
    exact ⟨v, .ty T, _, _, b, rfl, .ty T, dp_ty q nd, hb, h1 _ F1 H1 (.refl sat1.fh) (.bl _)⟩
  · exact h1.elim
end
end Mir
end
set_option Elab.async false
set_option linter.all false
set_option maxRecDepth 100000
set_option maxHeartbeats 4000000
noncomputable section
namespace Mir
open PySem PySem.Spec L2

def ItP (t : Bool) (h : Heap) (it a : Addr) (i : Nat) : Prop := match t with
  | true => h.IsTupleIter it a i
  | false => h.IsListIter it a i
def CoP (t : Bool) (h : Heap) (a : Addr) (its : Array Value) : Prop := match t with
  | true => h.IsTuple a its
  | false => h.IsList a its
def Sqq (t : Bool) (K : PySem.W.Frag) (H : Hp) (a : Addr) (vs : List V) : Prop := match t with
  | true => SqT K H a vs
  | false => SqL K H a vs
theorem Sqq.mono {t : Bool} {K : PySem.W.Frag} {H H' : Hp} {a : Addr} {vs : List V} (s : Same H H') (h : Sqq t K H a vs) : Sqq t K H' a vs := by
  cases t with
  | true => exact SqT_mono s h
  | false => exact s.seq h
section
variable {X : Cx} {pins : List (Addr × Obj)} {σ : L2.St} {H : Hp} {s : Shared} {a : Addr} {xs ys : List V} {t : Bool}
theorem Sqq.at (I : Inv X pins σ H s) (h : Sqq t X.K H a xs) : ∃ its : List Value, Vals xs its ∧ CoP t s.heap a its.toArray := by
  cases t with
  | true =>
    obtain ⟨its, r, p, _⟩ := I.tuple h
    exact ⟨its, r, p⟩
  | false =>
    obtain ⟨its, r, p, _⟩ := I.list h
    exact ⟨its, r, p.isList⟩
theorem Sqq.inj (I : Inv X pins σ H s) (h : Sqq t X.K H a xs) (h' : Sqq t X.K H a ys) : xs = ys := by
  cases t with
  | true => exact I.tuple_inj h h'
  | false => exact I.list_inj h h'
end
theorem co_ne {t t' : Bool} {h : Heap} {a it b : Addr} {its : Array Value} {i : Nat} (c : CoP t h a its) (p : ItP t' h it b i) : a ≠ it := by
  rintro rfl
  have e1 : ∃ o, h.get? a = some o ∧ (o.cls = .type "tuple" ∨ o.cls = .type "list") := by
    cases t with
    | true => obtain ⟨o, e, c, _⟩ := c; exact ⟨o, e, .inl c⟩
    | false => obtain ⟨o, e, c, _⟩ := c; exact ⟨o, e, .inr c⟩
  have e2 : ∃ o, h.get? a = some o ∧ (o.cls = .type "tuple_iterator" ∨ o.cls = .type "list_iterator") := by
    cases t' with
    | true => obtain ⟨o, e, c, _⟩ := p; exact ⟨o, e, .inl c⟩
    | false => obtain ⟨o, e, c, _⟩ := p; exact ⟨o, e, .inr c⟩
  obtain ⟨o, g1, c1⟩ := e1
  obtain ⟨o', g2, c2⟩ := e2
  rw [g1] at g2
  cases g2
  rcases c1 with c1 | c1 <;> rcases c2 with c2 | c2 <;> · rw [c1] at c2; revert c2; decide +kernel
theorem co_cls {t : Bool} {h : Heap} {a : Addr} {its : Array Value} (c : CoP t h a its) : ∃ o, h.get? a = some o ∧ (o.cls = .type "tuple" ∨ o.cls = .type "list") := by
  cases t with
  | true => obtain ⟨o, e, c, _⟩ := c; exact ⟨o, e, .inl c⟩
  | false => obtain ⟨o, e, c, _⟩ := c; exact ⟨o, e, .inr c⟩
theorem it_obj {t : Bool} {h : Heap} {it a : Addr} {i : Nat} (p : ItP t h it a i) : ∃ o, h.get? it = some o ∧ ∀ v, o.data ≠ .cell v := by
  cases t with
  | true => obtain ⟨o, e, _, d⟩ := p; exact ⟨o, e, fun v z => by rw [d] at z; cases z⟩
  | false => obtain ⟨o, e, _, d⟩ := p; exact ⟨o, e, fun v z => by rw [d] at z; cases z⟩
theorem ItP.at {t : Bool} {h h' : Heap} {it a : Addr} {i : Nat} (p : ItP t h it a i) (k : ∀ o, h.get? it = some o → h'.get? it = some o) : ItP t h' it a i := by
  cases t with
  | true => obtain ⟨o, e, q⟩ := p; exact ⟨o, k o e, q⟩
  | false => obtain ⟨o, e, q⟩ := p; exact ⟨o, k o e, q⟩
theorem drawsP {P : Program} {w : World} {A : Around} (hh : A.handled = none) (t : Bool) {it a : Addr} (hne : a ≠ it) (its : Array Value) :
    Draws P w A it [it, a] its.size (fun i v => its[i]? = some v) (fun i h => ItP t h it a i ∧ CoP t h a its) := by
  cases t with
  | true => exact Draws.tuple hh it a hne its
  | false => exact Draws.list hh it a hne its
def objP (t : Bool) (a : Addr) : Obj := match t with
  | true => { cls := .type "tuple_iterator", data := .fields #[.ref a, .int 0 0] }
  | false => { cls := .type "list_iterator", data := .fields #[.ref a, .int 0 0] }
theorem beginsP (t : Bool) (a : Addr) (its : Array Value) : Begins (.ref a) (objP t a) (fun h => CoP t h a its) := by
  cases t with
  | true => exact begins_tuple a its
  | false => exact begins_list a its
theorem itP_new {t : Bool} {h : Heap} {it a : Addr} (e : h.get? it = some (objP t a)) : ItP t h it a 0 := by
  cases t with
  | true => exact ⟨_, e, rfl, rfl⟩
  | false => exact ⟨_, e, rfl, rfl⟩

def Jen (t : Bool) (K : PySem.W.Frag) (a : Addr) : It :=
  ⟨fun i H => ∃ xs x, Sqq t K H a xs ∧ xs[i]? = some x, fun i H v H' => ∃ T x, v = .ref T ∧ H T = none ∧ H' = upd H T (.tup [.int (i : Nat), x]) ∧ ∀ xs, Sqq t K H a xs → xs[i]? = some x,
    fun i H => ∃ xs, Sqq t K H a xs ∧ xs.length = i⟩
theorem turn_en {P : Program} {w : World} {K : PySem.W.Frag} {elts : List Expr} {kk : Nat} {tpos : Pos} (t : Bool) (a e it : Addr) (hei : e ≠ it) :
    Turn P w K (.Tuple elts kk tpos) (Jen t K a) [e, it] e (fun i h => (∃ old, IsEnum h e it (0 + (i : Int)) old) ∧ ItP t h it a i) where
  mem := by simp
  obj := fun i h st b hb => by
    obtain ⟨⟨old, he⟩, hi⟩ := st
    rcases List.mem_cons.mp hb with z | z
    · rw [z]; exact ⟨_, he, fun v q => nomatch q⟩
    · rw [List.mem_singleton.mp z]; exact it_obj hi
  keep := fun i h h' st k => let ⟨⟨old, he⟩, hi⟩ := st; ⟨⟨old, k e (by simp) _ he⟩, hi.at fun o q => k it (by simp) o q⟩
  item := by
    intro X hP hw hK hc i pins s σ H E I hf st hg
    subst hP hw hK
    obtain ⟨hen, hit⟩ := st
    obtain ⟨xs, x, hq, hx⟩ := hg
    obtain ⟨its, rv, hco⟩ := hq.at I
    obtain ⟨u, hu, ru⟩ := rv.get hx
    have hne := co_ne hco hit
    have hea : e ≠ a := by
      rintro rfl
      obtain ⟨old, he⟩ := hen
      obtain ⟨o, g, c⟩ := co_cls hco
      have g' : s.heap.get? e = some _ := he
      rw [g] at g'
      cases g'
      rcases c with c | c
      · exact absurd (show Value.type "enumerate" = .type "tuple" from c) (by decide +kernel)
      · exact absurd (show Value.type "enumerate" = .type "list" from c) (by decide +kernel)
    have hlt : i < its.toArray.size := by rw [List.size_toArray]; exact (List.getElem?_eq_some_iff.mp hu).1
    refine (GoesN.enumFrom (prog := X.prog) (w := X.w) (elts := elts) (x1 := kk) (pos := tpos) 0 (drawsP (A := X.A.in1) (I.ok.hd hc) t hne its.toArray) e hei (by simp [hei, hea]) (by simp)).goes i s _ _ hlt ⟨hen, hit, hco⟩ fun v h' tk ⟨T, tk', y, ev, hT, hy, hTup⟩ st' hk _ => ?_
    subst ev
    have hyu : y = u := by
      have hy' : its[i]? = some y := by simpa using hy
      rw [hu] at hy'
      exact (Option.some.inj hy').symm
    subst hyu
    have new : ObjOk X.prog X.w (upd H T (.tup [.int (i : Nat), x])) h' T (.tup [.int (i : Nat), x]) :=
      ⟨by show 2 ≤ sizeLine; decide, [.int (0 + (i : Int)) tk', y], .cons ⟨tk', by rw [Int.zero_add]⟩ (.cons ru .nil), hTup⟩
    have hb' : ∀ b ∈ [e, it], b < s.heap.objs.size := fun b hb => by
      obtain ⟨o, g, _⟩ := (show ∃ o, s.heap.get? b = some o ∧ True from by
        rcases List.mem_cons.mp hb with z | z
        · rw [z]; obtain ⟨old, he⟩ := hen; exact ⟨_, he, trivial⟩
        · rw [List.mem_singleton.mp z]; obtain ⟨o, g, _⟩ := it_obj hit; exact ⟨o, g, trivial⟩)
      exact Heap.lt_size g
    refine ⟨.ref T, _, I.turnedNew (ch := [e, it]) hk hf hT new, rfl, ⟨T, x, rfl, I.hok.fresh hT, rfl, fun ys hys => by rw [hys.inj I hq]; exact hx⟩, ⟨st'.1, st'.2.1⟩, fun b hb => ?_⟩
    rw [upd_ne (Nat.ne_of_lt (Nat.lt_of_lt_of_le (hb' b hb) hT))]
    exact (hf b hb).1
  done := by
    intro X hP hw hK hc i pins s σ H E I hf st hg
    subst hP hw hK
    obtain ⟨hen, hit⟩ := st
    obtain ⟨xs, hq, hl⟩ := hg
    obtain ⟨its, rv, hco⟩ := hq.at I
    have hne := co_ne hco hit
    have hea : e ≠ a := by
      rintro rfl
      obtain ⟨old, he⟩ := hen
      obtain ⟨o, g, c⟩ := co_cls hco
      have g' : s.heap.get? e = some _ := he
      rw [g] at g'
      cases g'
      rcases c with c | c
      · exact absurd (show Value.type "enumerate" = .type "tuple" from c) (by decide +kernel)
      · exact absurd (show Value.type "enumerate" = .type "list" from c) (by decide +kernel)
    have hs : i = its.toArray.size := by rw [List.size_toArray, ← rv.length]; exact hl.symm
    subst hs
    exact (GoesN.enumFrom (prog := X.prog) (w := X.w) (elts := elts) (x1 := kk) (pos := tpos) 0 (drawsP (A := X.A.in1) (I.ok.hd hc) t hne its.toArray) e hei (by simp [hei, hea]) (by simp)).stops s _ _ ⟨hen, hit, hco⟩ fun h' tk hk _ => I.turnedL (ch := [e, it]) hk hf
  self := fun A i s Q E st h => let ⟨⟨_, he⟩, _⟩ := st; wpAny_pyIter_enum he h
theorem meets_en {v : Value} {o : Obj} {H : Heap → Prop} (B : Begins v o H) : Meets (Builtin.«enumerate.__new__» ⟨[.type "enumerate", v], []⟩) (fun _ R s => H s.heap ∧
      R (.ok (.ret (.ref (s.heap.push o).objs.size))) { s with heap := (s.heap.push o).push { cls := .type "enumerate", data := .fields #[.none, .bool false, .ref s.heap.objs.size, rawInt 0, .none, .none] } }) :=
  .of_wp fun prog w A R s h => by
    obtain ⟨hp, g, d, tk, os⟩ := s; obtain ⟨h1, h⟩ := h; have hsub := sub_enumerate
    have q1 : ∀ {A' : Around} {E Q : Value → Shared → Prop}, Q (.ref hp.objs.size) ⟨hp.push o, g, d, tk, os⟩ → wpAny (model prog w) A' (pyIter v) Q E ⟨hp, g, d, tk, os⟩ := fun q => B.iter prog w _ _ ⟨hp, g, d, tk, os⟩ _ h1 q
    wp_walk using q1
    refine wpAny_stack_any (fun st => wpAny_pure ?_); split
    · rename_i c _ _ _ _ _; cases (c == Value.type "enumerate") <;> (wp_walk using q1; exact ⟨_, rfl, h⟩)
    · wp_walk using q1; exact ⟨_, rfl, h⟩
theorem call_en {prog : Program} {w : World} {A : Around} {E : Value → Shared → Prop} {s : Shared} {v : Value} {o : Obj} {H : Heap → Prop} {Q : Value → Shared → Prop} (B : Begins v o H) (h1 : H s.heap)
    (h : ∀ h', IsEnum h' (s.heap.objs.size + 1) s.heap.objs.size 0 .none → h'.get? s.heap.objs.size = some o → (∀ b o, s.heap.get? b = some o → h'.get? b = some o) → Q (.ref (s.heap.objs.size + 1)) { s with heap := h' }) :
    wpAny (model prog w) A (call (.type "enumerate") [v]) Q E s := by
  refine callType_new F.called_enumerate (by decide) (F.typeCall_enumerate_1 _) (F.newCall_enumerate_1 _) (fun obj => F.args_object_init_2 obj _) F.entry_enumerate_new (meets_en B) ⟨h1, ?_⟩
  have hz : (s.heap.push o).objs.size = s.heap.objs.size + 1 := Heap.size_push ..
  show _ ∧ _; rw [hz]
  have g1 : (s.heap.push o).get? s.heap.objs.size = some o := Heap.get?_push_size _ B.free
  have he : IsEnum ((s.heap.push o).push { cls := .type "enumerate", data := .fields #[.none, .bool false, .ref s.heap.objs.size, rawInt 0, .none, .none] }) (s.heap.objs.size + 1) s.heap.objs.size 0 .none := by
    have := Heap.get?_push_size (s.heap.push o) (o := { cls := .type "enumerate", data := .fields #[.none, .bool false, .ref s.heap.objs.size, rawInt 0, .none, .none] }) rfl
    rw [hz] at this; exact this
  exact ⟨⟨_, he, rfl⟩, h _ he (Heap.get?_push_of_some _ g1) fun b o x => Heap.get?_push_of_some _ (Heap.get?_push_of_some _ x)⟩
def iEn (K : PySem.W.Frag) (ta : TA) : TI := fun σ H R => ta σ H fun vs H1 => ∃ t a xs, vs = [.ref a] ∧ Sqq t K H1 a xs ∧ R (Jen t K a) H1
theorem pi_en {X : Cx} {e : Expr} {ta : TA} {p pos tpos : Pos} {elts : List Expr} {kk : Nat} (hg : Gl X "enumerate") (hm : X.mg "enumerate" = none) (ha : PA X [e] ta) (hs : starEach [e] X.env = [(false, eval e X.env)] := by rfl) :
    PI X (.Tuple elts kk tpos) (.Call (.Name "enumerate" p) [e] [] pos) (iEn X.K ta) := by
  refine ⟨fun pins s σ H R I h => ?_⟩
  refine PyProof.Rows.Call_ (ld_blt I hg hm PyProof.Rows.boot_enumerate (PyProof.Rows.callWith_type1 (thn (ha.run pos pins s σ H _ I h) fun us s1 ⟨vs, H1, I1, r1, t, a, xs, ex, hq, q⟩ => ?_) hs rfl))
  subst ex
  cases r1 with
  | cons r rr =>
    cases rr
    cases r
    obtain ⟨its, rv, hco⟩ := hq.at I1
    refine call_en (beginsP t a its.toArray) hco fun h' he hit hk => wpAny_pyIter_enum he ?_
    have I2 : Inv X pins σ H1 { s1 with heap := h' } := I1.kept (t' := s1.toks) hk
    refine ⟨s1.heap.objs.size + 1, [s1.heap.objs.size + 1, s1.heap.objs.size], _, _, H1, rfl, I2, turn_en t a _ _ (Nat.succ_ne_self _), ⟨⟨.none, he⟩, itP_new hit⟩, fun b hb => ?_, q⟩
    have hle : s1.heap.objs.size ≤ b := by
      rcases List.mem_cons.mp hb with z | z
      · rw [z]; exact Nat.le_add_right _ _
      · rw [List.mem_singleton.mp z]; exact Nat.le_refl _
    exact I1.fpOk hle (I1.hok.fresh hle)
end Mir
end
set_option Elab.async false
set_option linter.all false
set_option maxRecDepth 100000
set_option maxHeartbeats 4000000
noncomputable section
namespace Mir
open PySem PySem.Spec L2

theorem fp_ne {X : Cx} {pins : List (Addr × Obj)} {σ : L2.St} {H : Hp} {s : Shared} {t : Bool} {a b : Addr} {xs : List V} (I : Inv X pins σ H s) (hf : FpOk X pins H b) (hq : Sqq t X.K H a xs) : a ≠ b := by
  rintro rfl
  have kk : ∀ o, X.K.lookup a = some o → False := fun o e => by
    have e1 := I.mod.kin a o e
    obtain ⟨_, _, _, q, _, _⟩ := hf
    rcases q with q | q
    · exact I.ok.noex a o e1 q
    · exact absurd (Nat.lt_of_lt_of_le (Heap.lt_size e1) (Nat.le_trans I.ok.bsz q)) (Nat.lt_irrefl _)
  cases t with
  | true =>
    rcases hq with (h | ⟨o, h⟩) | ⟨o, its, n, h, _⟩
    · rw [hf.1] at h; cases h
    · rw [hf.1] at h; cases h
    · exact kk o h
  | false =>
    rcases hq with (h | ⟨o, h⟩) | ⟨o, its, n, h, _⟩
    · rw [hf.1] at h; cases h
    · rw [hf.1] at h; cases h
    · exact kk o h

def Jzp (t u : Bool) (K : PySem.W.Frag) (a b : Addr) : It :=
  ⟨fun i H => ∃ xs ys x y, Sqq t K H a xs ∧ Sqq u K H b ys ∧ xs[i]? = some x ∧ ys[i]? = some y,
    fun i H v H' => ∃ T x y, v = .ref T ∧ H T = none ∧ H' = upd H T (.tup [x, y]) ∧ (∀ xs, Sqq t K H a xs → xs[i]? = some x) ∧ ∀ ys, Sqq u K H b ys → ys[i]? = some y,
    fun i H => ∃ xs ys, Sqq t K H a xs ∧ Sqq u K H b ys ∧ min xs.length ys.length = i⟩
theorem turn_zp {P : Program} {w : World} {K : PySem.W.Frag} {elts : List Expr} {kk : Nat} {tpos : Pos} (t u : Bool) (a b z TI TO i1 i2 : Addr) (nd : [z, TI, TO, i1, i2].Nodup) :
    Turn P w K (.Tuple elts kk tpos) (Jzp t u K a b) [z, TI, TO, i1, i2] z (fun i h => IsZip h z TI TO .none ∧ IsTupOf2 h TI (.ref i1) (.ref i2) ∧ (∃ a1 a2, IsTupOf2 h TO a1 a2) ∧ ItP t h i1 a i ∧ ItP u h i2 b i) := by
  have sep : a ∉ [z, TI, TO, i1, i2] → b ∉ [z, TI, TO, i1, i2] → ZipSep2 z TI TO i1 i2 [i1, a] [i2, b] := fun ha hb => by
    simp only [List.nodup_cons, List.mem_cons, List.not_mem_nil, or_false, not_or, List.nodup_nil, and_true, not_false_eq_true] at nd ha hb
    obtain ⟨⟨n1, n2, n3, n4⟩, ⟨n5, n6, n7⟩, ⟨n8, n9⟩, n10⟩ := nd
    obtain ⟨a1, a2, a3, a4, a5⟩ := ha
    obtain ⟨b1, b2, b3, b4, b5⟩ := hb
    refine ⟨Ne.symm n1, Ne.symm n2, n5, n6, by simp, ?_, ?_, n7, by simp, ?_, ?_, ?_, ?_⟩ <;> simp only [List.mem_cons, List.not_mem_nil, or_false, not_or]
    · exact ⟨n3, Ne.symm a1⟩
    · exact ⟨n8, Ne.symm a3⟩
    · exact ⟨n4, Ne.symm b1⟩
    · exact ⟨n9, Ne.symm b3⟩
    · exact ⟨n10, Ne.symm b4⟩
    · exact ⟨Ne.symm n10, Ne.symm a5⟩
  have live : ∀ {i : Nat} {h : Heap}, (IsZip h z TI TO .none ∧ IsTupOf2 h TI (.ref i1) (.ref i2) ∧ (∃ a1 a2, IsTupOf2 h TO a1 a2) ∧ ItP t h i1 a i ∧ ItP u h i2 b i) → ∀ c ∈ [z, TI, TO, i1, i2], ∃ o, h.get? c = some o ∧ ∀ v, o.data ≠ .cell v := fun st c hc => by
    obtain ⟨h1, h2, ⟨x1, x2, h3⟩, h4, h5⟩ := st
    simp only [List.mem_cons, List.not_mem_nil, or_false] at hc
    rcases hc with rfl | rfl | rfl | rfl | rfl
    · exact ⟨_, h1, fun v q => nomatch q⟩
    · exact ⟨_, h2, fun v q => nomatch q⟩
    · exact ⟨_, h3, fun v q => nomatch q⟩
    · exact it_obj h4
    · exact it_obj h5
  have wrs : ∀ c ∈ [z, TO, i1, i2], c ∈ [z, TI, TO, i1, i2] := fun c hc => by
    simp only [List.mem_cons, List.not_mem_nil, or_false] at hc ⊢
    rcases hc with rfl | rfl | rfl | rfl <;> simp
  refine ⟨by simp, fun i h st => live st, fun i h h' st k => ?_, ?_, ?_, fun A i s Q E st h => wpAny_pyIter_zip st.1 h⟩
  · obtain ⟨h1, h2, ⟨x1, x2, h3⟩, h4, h5⟩ := st
    exact ⟨k z (by simp) _ h1, k TI (by simp) _ h2, ⟨x1, x2, k TO (by simp) _ h3⟩, h4.at fun o q => k i1 (by simp) o q, h5.at fun o q => k i2 (by simp) o q⟩
  · intro X hP hw hK hc i pins s σ H E I hf st hg
    subst hP hw hK
    have hst := live st
    obtain ⟨h1, h2, h3, h4, h5⟩ := st
    obtain ⟨xs, ys, x, y, hq, hr, hx, hy⟩ := hg
    obtain ⟨its, rv, hco⟩ := hq.at I
    obtain ⟨jts, rw', hco'⟩ := hr.at I
    obtain ⟨u1, hu, ru⟩ := rv.get hx
    obtain ⟨u2, hu', ru'⟩ := rw'.get hy
    have S := sep (fun z => fp_ne I (hf a z) hq rfl) (fun z => fp_ne I (hf b z) hr rfl)
    have n1 : i < its.toArray.size := by rw [List.size_toArray]; exact (List.getElem?_eq_some_iff.mp hu).1
    have n2 : i < jts.toArray.size := by rw [List.size_toArray]; exact (List.getElem?_eq_some_iff.mp hu').1
    refine (GoesN.zip2 (prog := X.prog) (w := X.w) (elts := elts) (x1 := kk) (pos := tpos) S (drawsP (A := X.A.in1) (I.ok.hd hc) t (fp_ne I (hf i1 (by simp)) hq) its.toArray) (drawsP (A := X.A.in1) (I.ok.hd hc) u (fp_ne I (hf i2 (by simp)) hr) jts.toArray)).goes i s _ _ (by omega) ⟨h1, h2, h3, ⟨h4, hco⟩, h5, hco'⟩
      fun v h' tk ⟨T, p, q, ev, hT, hp, hq', hTup⟩ st' hk _ => ?_
    subst ev
    have e1 : p = u1 := by
      have hp' : its[i]? = some p := by simpa using hp
      rw [hu] at hp'
      exact (Option.some.inj hp').symm
    have e2 : q = u2 := by
      have hp' : jts[i]? = some q := by simpa using hq'
      rw [hu'] at hp'
      exact (Option.some.inj hp').symm
    subst e1 e2
    have new : ObjOk X.prog X.w (upd H T (.tup [x, y])) h' T (.tup [x, y]) := ⟨by show 2 ≤ sizeLine; decide, [p, q], .cons ru (.cons ru' .nil), hTup⟩
    refine ⟨.ref T, _, I.turnedNew (ch := [z, TI, TO, i1, i2]) (fun b o hb e => hk b o (fun m => hb (wrs b m)) e) hf hT new, rfl, ⟨T, x, y, rfl, I.hok.fresh hT, rfl, fun zs hz => by rw [hz.inj I hq]; exact hx, fun zs hz => by rw [hz.inj I hr]; exact hy⟩,
      ⟨st'.1, st'.2.1, st'.2.2.1, st'.2.2.2.1.1, st'.2.2.2.2.1⟩, fun c hc => ?_⟩
    obtain ⟨o, g, _⟩ := hst c hc
    rw [upd_ne (Nat.ne_of_lt (Nat.lt_of_lt_of_le (Heap.lt_size g) hT))]
    exact (hf c hc).1
  · intro X hP hw hK hc i pins s σ H E I hf st hg
    subst hP hw hK
    obtain ⟨h1, h2, h3, h4, h5⟩ := st
    obtain ⟨xs, ys, hq, hr, hl⟩ := hg
    obtain ⟨its, rv, hco⟩ := hq.at I
    obtain ⟨jts, rw', hco'⟩ := hr.at I
    have S := sep (fun z => fp_ne I (hf a z) hq rfl) (fun z => fp_ne I (hf b z) hr rfl)
    have hs : i = min its.toArray.size jts.toArray.size := by rw [List.size_toArray, List.size_toArray, ← rv.length, ← rw'.length]; exact hl.symm
    subst hs
    exact (GoesN.zip2 (prog := X.prog) (w := X.w) (elts := elts) (x1 := kk) (pos := tpos) S (drawsP (A := X.A.in1) (I.ok.hd hc) t (fp_ne I (hf i1 (by simp)) hq) its.toArray) (drawsP (A := X.A.in1) (I.ok.hd hc) u (fp_ne I (hf i2 (by simp)) hr) jts.toArray)).stops s _ _ ⟨h1, h2, h3, ⟨h4, hco⟩, h5, hco'⟩
      fun h' tk hk _ => I.turnedL (ch := [z, TI, TO, i1, i2]) (fun b o hb e => hk b o (fun m => hb (wrs b m)) e) hf
def iZp (K : PySem.W.Frag) (ta : TA) : TI := fun σ H R => ta σ H fun vs H1 => ∃ t u a b xs ys, vs = [.ref a, .ref b] ∧ Sqq t K H1 a xs ∧ Sqq u K H1 b ys ∧ R (Jzp t u K a b) H1
theorem pi_zp {X : Cx} {e e2 : Expr} {ta : TA} {p pos tpos : Pos} {elts : List Expr} {kk : Nat} (hg : Gl X "zip") (hm : X.mg "zip" = none) (ha : PA X [e, e2] ta) (hs : starEach [e, e2] X.env = (false, eval e X.env) :: starEach [e2] X.env := by rfl)
    (hpl : (backTo pos (starEach [e2] X.env)).any (·.1) = false := by rfl) : PI X (.Tuple elts kk tpos) (.Call (.Name "zip" p) [e, e2] [] pos) (iZp X.K ta) := by
  refine ⟨fun pins s σ H R I h => ?_⟩
  refine PyProof.Rows.Call_ (ld_blt I hg hm PyProof.Rows.boot_zip (PyProof.Rows.callWith_type1 (thn (ha.run pos pins s σ H _ I h) fun us s1 ⟨vs, H1, I1, r1, t, u, a, b, xs, ys, ex, hq, hr, q⟩ => ?_) hs hpl))
  subst ex
  cases r1 with
  | cons r rr =>
    cases rr with
    | cons r' rr =>
      cases rr
      cases r
      cases r'
      obtain ⟨its, rv, hco⟩ := hq.at I1
      obtain ⟨jts, rw', hco'⟩ := hr.at I1
      refine zip_begins2 (beginsP t a its.toArray) (beginsP u b jts.toArray) hco hco' fun h' hz hTI hTO g1 g2 _ hk => wpAny_pyIter_zip hz ?_
      have I2 : Inv X pins σ H1 { s1 with heap := h' } := I1.kept (t' := s1.toks) hk
      have le5 : ∀ c ∈ [s1.heap.objs.size + 4, s1.heap.objs.size + 2, s1.heap.objs.size + 3, s1.heap.objs.size, s1.heap.objs.size + 1], s1.heap.objs.size ≤ c := fun c hc => by
        simp only [List.mem_cons, List.not_mem_nil, or_false] at hc
        rcases hc with z | z | z | z | z <;> (rw [z]; first | exact Nat.le_refl _ | exact Nat.le_add_right _ _)
      have nd5 : ∀ n : Nat, [n + 4, n + 2, n + 3, n, n + 1].Nodup := fun n => by
        simp only [List.nodup_cons, List.mem_cons, List.not_mem_nil, or_false, not_or, List.nodup_nil, and_true, not_false_eq_true]
        omega
      exact ⟨_, _, _, _, H1, rfl, I2, turn_zp t u a b _ _ _ _ _ (nd5 s1.heap.objs.size), ⟨hz, hTI, ⟨_, _, hTO⟩, itP_new g1, itP_new g2⟩, fun c hc => I1.fpOk (le5 c hc) (I1.hok.fresh (le5 c hc)), q⟩
end Mir
end
set_option Elab.async false
set_option linter.all false
set_option maxRecDepth 100000
set_option maxHeartbeats 4000000
noncomputable section
namespace Mir
open PySem PySem.Spec L2

structure WalkF (K : Kw) (J : It) (F0 : Hp) (items : List D) : Prop where
  go : ∀ i F H, i < items.length → Same F0 F → Same F H → J.go i H
  yld : ∀ i F H x H', i < items.length → Same F0 F → Same F H → J.yld i H x H' → ∃ d F', items[i]? = some d ∧ Ext F H F' H' ∧ Dp K F' x d
  stop : ∀ F H, Same F0 F → Same F H → J.stop items.length H
def PIt (K : Kw) (_ : Hp) (items : List D) (J : It) (F' _ : Hp) : Prop := WalkF K J F' items
instance {K : Kw} : Anti (PIt K) := ⟨fun _ h => h⟩
def DI (X : Cx) (W : WX) (tg e : Expr) (f : Ev → R (List D)) : Prop := ∃ wi, PI X tg e wi ∧ Sm X W (PIt X.KK) wi f
section
variable {K : Kw} {F0 : Hp} {a b : Addr} {vs ws : List V} {ds es : List D}
theorem walkF_l (h1 : SqL K F0 a vs) (h2 : DpAll K F0 vs ds) : WalkF K (Itl K a) F0 ds where
  go := fun i F H hi s1 s2 => by
    rw [← DpAll.len h2] at hi
    exact ⟨vs, vs[i], (s1.trans s2).seq h1, by simp [hi]⟩
  yld := fun i F H x H' hi s1 s2 ⟨e, q⟩ => by
    subst e
    obtain ⟨d, e1, e2⟩ := DpAll.getV h2 (q vs ((s1.trans s2).seq h1))
    exact ⟨d, F, e1, .refl s2, dpUp e2 s1⟩
  stop := fun F H s1 s2 => ⟨vs, (s1.trans s2).seq h1, by rw [DpAll.len h2]; exact Nat.le_refl _⟩
theorem walkF_t (h1 : SqT K F0 a vs) (h2 : DpAll K F0 vs ds) : WalkF K (Itt K a) F0 ds where
  go := fun i F H hi s1 s2 => by
    rw [← DpAll.len h2] at hi
    exact ⟨vs, vs[i], SqT_mono (s1.trans s2) h1, by simp [hi]⟩
  yld := fun i F H x H' hi s1 s2 ⟨e, q⟩ => by
    subst e
    obtain ⟨d, e1, e2⟩ := DpAll.getV h2 (q vs (SqT_mono (s1.trans s2) h1))
    exact ⟨d, F, e1, .refl s2, dpUp e2 s1⟩
  stop := fun F H s1 s2 => ⟨vs, SqT_mono (s1.trans s2) h1, by rw [DpAll.len h2]; exact Nat.le_refl _⟩
def charsD (z : Str) : List D := z.cps.toList.map fun c => .str ⟨#[c]⟩
theorem walkF_s (z : Str) : WalkF K (Its z) F0 (charsD z) where
  go := fun i F H hi s1 s2 => walk_str.goes i H (by simpa [charsD] using hi) trivial
  yld := fun i F H x H' hi s1 s2 h => by
    have hi' : i < z.cps.size := by simpa [charsD] using hi
    obtain ⟨e, c, e1, e2⟩ := walk_str.yields i H x H' hi' trivial h
    subst e e2
    exact ⟨_, F, by simp [charsD, e1], .refl s2, .str _⟩
  stop := fun F H s1 s2 => by
    have := (walk_str (z := z)).stops H trivial
    simpa [charsD] using this
def rangeD (lo : Int) (n : Nat) : List D := (List.range n).map fun i => .int (lo + (i : Nat))
theorem walkF_r (lo : Int) (n : Nat) : WalkF K (Itr lo n) F0 (rangeD lo n) where
  go := fun i F H hi s1 s2 => walk_range.goes i H (by simpa [rangeD] using hi) trivial
  yld := fun i F H x H' hi s1 s2 h => by
    have hi' : i < n := by simpa [rangeD] using hi
    obtain ⟨e, e1⟩ := walk_range.yields i H x H' hi' trivial h
    subst e e1
    exact ⟨_, F, by simp [rangeD, hi'], .refl s2, .int _⟩
  stop := fun F H s1 s2 => by
    have := (walk_range (lo := lo) (n := n)).stops H trivial
    simpa [rangeD] using this
def enumD : Nat → List D → List D
  | _, [] => []
  | n, d :: ds => .tuple [.int n, d] :: enumD (n + 1) ds
theorem enumD_len : ∀ (n : Nat) (ds : List D), (enumD n ds).length = ds.length
  | _, [] => rfl
  | n, d :: ds => by simp [enumD, enumD_len (n + 1) ds]
theorem enumD_get : ∀ (n i : Nat) (ds : List D) (d : D), ds[i]? = some d → (enumD n ds)[i]? = some (.tuple [.int (n + i : Nat), d])
  | n, i, [], d, h => by simp at h
  | n, 0, x :: ds, d, h => by simp at h; subst h; simp [enumD]
  | n, i + 1, x :: ds, d, h => by
    have := enumD_get (n + 1) i ds d (by simpa using h)
    simp only [enumD, List.getElem?_cons_succ, this]
    congr 3; congr 2; omega
def zipD : List D → List D → List D
  | x :: xs, y :: ys => .tuple [x, y] :: zipD xs ys
  | _, _ => []
@[simp] theorem zipD_nil (ys : List D) : zipD [] ys = [] := by cases ys <;> rfl
@[simp] theorem zipD_nil2 (ys : List D) : zipD ys [] = [] := by cases ys <;> rfl
@[simp] theorem zipD_cons (x y : D) (xs ys : List D) : zipD (x :: xs) (y :: ys) = .tuple [x, y] :: zipD xs ys := rfl
theorem zipD_len : ∀ (xs ys : List D), (zipD xs ys).length = min xs.length ys.length
  | [], ys => by simp
  | x :: xs, [] => by simp
  | x :: xs, y :: ys => by simp [zipD_len xs ys]
theorem zipD_get : ∀ (i : Nat) (xs ys : List D) (x y : D), xs[i]? = some x → ys[i]? = some y → (zipD xs ys)[i]? = some (.tuple [x, y])
  | i, [], ys, x, y, h, g => by simp at h
  | i, x :: xs, [], _, y, h, g => by simp at g
  | 0, a :: xs, b :: ys, x, y, h, g => by simp at h g; subst h g; rfl
  | i + 1, a :: xs, b :: ys, x, y, h, g => by
    have := zipD_get i xs ys x y (by simpa using h) (by simpa using g)
    simpa using this
theorem walkF_en {t : Bool} (h1 : Sqq t K F0 a vs) (h2 : DpAll K F0 vs ds) : WalkF K (Jen t K a) F0 (enumD 0 ds) where
  go := fun i F H hi s1 s2 => by
    rw [enumD_len, ← DpAll.len h2] at hi
    exact ⟨vs, vs[i], h1.mono (s1.trans s2), by simp [hi]⟩
  yld := fun i F H x H' hi s1 s2 ⟨T, y, e, hT, eH, q⟩ => by
    subst e eH
    obtain ⟨d, e1, e2⟩ := DpAll.getV h2 (q vs (h1.mono (s1.trans s2)))
    have x := Ext.frz s2 hT (.tup [.int (i : Nat), y])
    refine ⟨_, _, enumD_get 0 i ds d e1, x, ?_⟩
    rw [Nat.zero_add]
    exact .tup (SqT.of upd_same) (.cons (.int _) (.cons (dpUp e2 (s1.trans x.ff)) .nil))
  stop := fun F H s1 s2 => ⟨vs, h1.mono (s1.trans s2), by rw [enumD_len, DpAll.len h2]⟩
theorem walkF_zp {t u : Bool} (h1 : Sqq t K F0 a vs) (h2 : DpAll K F0 vs ds) (g1 : Sqq u K F0 b ws) (g2 : DpAll K F0 ws es) : WalkF K (Jzp t u K a b) F0 (zipD ds es) where
  go := fun i F H hi s1 s2 => by
    rw [zipD_len, ← DpAll.len h2, ← DpAll.len g2] at hi
    exact ⟨vs, ws, vs[i]'(by omega), ws[i]'(by omega), h1.mono (s1.trans s2), g1.mono (s1.trans s2), by simp, by simp⟩
  yld := fun i F H x H' hi s1 s2 ⟨T, y, z, e, hT, eH, q, q'⟩ => by
    subst e eH
    obtain ⟨d, e1, e2⟩ := DpAll.getV h2 (q vs (h1.mono (s1.trans s2)))
    obtain ⟨d', e1', e2'⟩ := DpAll.getV g2 (q' ws (g1.mono (s1.trans s2)))
    have x := Ext.frz s2 hT (.tup [y, z])
    exact ⟨_, _, zipD_get i ds es d d' e1 e1', x, .tup (SqT.of upd_same) (.cons (dpUp e2 (s1.trans x.ff)) (.cons (dpUp e2' (s1.trans x.ff)) .nil))⟩
  stop := fun F H s1 s2 => ⟨vs, ws, h1.mono (s1.trans s2), g1.mono (s1.trans s2), by rw [zipD_len, DpAll.len h2, DpAll.len g2]⟩
end
section
variable {X : Cx} {W : WX} {tg e e2 : Expr} {es : List Expr} {pos p : Pos} {f g : Ev → R D}
theorem PI.or {wi wj : TI} (h : PI X tg e wi) (h' : PI X tg e wj) : PI X tg e (fun σ H R => wi σ H R ∨ wj σ H R) := ⟨fun pins s σ H R I q => by
  rcases q with q | q
  · exact h.run pins s σ H R I q
  · exact h'.run pins s σ H R I q⟩
def itD : D → R (List D)
  | .list ds => .ok ds
  | .tuple ds => .ok ds
  | .str z => .ok (charsD z)
  | _ => .no
@[simp] theorem itD_list (ds : List D) : itD (.list ds) = .ok ds := rfl
@[simp] theorem itD_tup (ds : List D) : itD (.tuple ds) = .ok ds := rfl
@[simp] theorem itD_str (z : Str) : itD (.str z) = .ok (charsD z) := rfl
/-- go on by what the first part is -/
theorem Sm.choose {α β γ δ : Type} {P : Hp → α → β → Hp → Hp → Prop} {P2 : Hp → γ → δ → Hp → Hp → Prop} [Anti P2] {t : L2.St → Hp → (β → Hp → Prop) → Prop} {f : Ev → R α} (s : Sm X W P t f) {g : α → R γ} {F H : Hp} {σ : L2.St} {env : Ev} {fp : List Addr} {Q : δ → Hp → Prop} {G : Prop}
    (sat : Sat X.KK F H σ env fp) (h : Post X W P2 F H σ ((f env).bind g) Q) (no : (∀ T, t σ H T) → G)
    (k : ∀ a, f env = .ok a → (∀ T, (∀ v F1 H1, Sat X.KK F1 H1 σ env fp → P H a v F1 H1 → Ext F H F1 H1 → Post X W P2 F1 H1 σ (g a) Q → T v H1) → t σ H T) → G) : G := by
  cases e : f env with
  | no => rw [e] at h; exact h.elim
  | ok a =>
    refine k a e fun T hT => s F H σ env fp T sat ?_
    rw [e] at h ⊢
    exact fun v F' H' x p => hT v F' H' (sat.ext x) p x (Post.ext (show Post X W P2 F H σ (g a) Q from h) x)
  | ex c =>
    refine no fun T => s F H σ env fp T sat ?_
    rw [e] at h ⊢
    exact h
theorem di_seq (h : DF X W e f) : DI X W tg e (eB f itD) := by
  obtain ⟨t, p, s⟩ := h
  refine ⟨_, PI.or (pi_list p) (PI.or (pi_tup p) (pi_str p)), fun F H σ env fp Q sat hp => ?_⟩
  refine s.choose sat hp (fun z => .inl (z _)) fun d e k => ?_
  cases d with
  | list ds =>
    refine .inl (k _ fun v F1 H1 sat1 q _ h1 => ?_)
    obtain ⟨a, vs, rfl, q1, q2⟩ := dp_lst q
    exact ⟨a, rfl, ⟨vs, sat1.fh.seq q1⟩, h1 _ F1 H1 (.refl sat1.fh) (walkF_l q1 q2)⟩
  | tuple ds =>
    refine .inr (.inl (k _ fun v F1 H1 sat1 q _ h1 => ?_))
    obtain ⟨a, vs, rfl, q1, q2⟩ := dp_tup q
    exact ⟨a, rfl, ⟨vs, SqT_mono sat1.fh q1⟩, h1 _ F1 H1 (.refl sat1.fh) (walkF_t q1 q2)⟩
  | str z =>
    refine .inr (.inr (k _ fun v F1 H1 sat1 q _ h1 => ?_))
    cases dp_str q
    exact ⟨z, rfl, h1 _ F1 H1 (.refl sat1.fh) (walkF_s z)⟩
  | _ =>
    refine .inl (k _ fun v F1 H1 sat1 q _ h1 => h1.elim)
def rg1 : List D → R (List D)
  | [.int j] => guard (-(2 ^ 62) ≤ j ∧ j < 2 ^ 62) (.ok (rangeD 0 j.toNat))
  | _ => .no
theorem daf1 {K : Kw} {F : Hp} {d : D} {vs : List V} (h : DpAll K F vs [d]) : ∃ v, vs = [v] ∧ Dp K F v d := by
  cases h with | cons a b => cases b; exact ⟨_, rfl, a⟩
theorem daf2 {K : Kw} {F : Hp} {d d' : D} {vs : List V} (h : DpAll K F vs [d, d']) : ∃ v w, vs = [v, w] ∧ Dp K F v d ∧ Dp K F w d' := by
  cases h with | cons a b => cases b with | cons a' b' => cases b'; exact ⟨_, _, rfl, a, a'⟩
variable {fa : Ev → R (List D)}
theorem di_range1 (hg : Gl X "range") (hm : X.mg "range" = none) (h : DA X W [e] fa) (hs : starEach [e] X.env = [(false, eval e X.env)] := by rfl) : DI X W tg (.Call (.Name "range" p) [e] [] pos) (eB fa rg1) := by
  obtain ⟨t, pa, s⟩ := h
  refine ⟨_, pi_range1 hg hm pa hs, fun F H σ env fp Q sat hp => ?_⟩
  refine s.go sat hp fun ds vs F1 H1 sat1 q _ h1 => ?_
  unfold rg1 at h1
  split at h1
  · obtain ⟨c, h2⟩ := guard_post h1
    obtain ⟨v, rfl, w⟩ := daf1 q
    cases dp_int w
    exact ⟨_, rfl, c.1, c.2, h2 _ F1 H1 (.refl sat1.fh) (walkF_r _ _)⟩
  · exact h1.elim
def sqqD : D → Option (Bool × List D)
  | .list ds => some (false, ds)
  | .tuple ds => some (true, ds)
  | _ => none
theorem sqq_dp {K : Kw} {F : Hp} {v : V} {d : D} {t : Bool} {ds : List D} (h : Dp K F v d) (e : sqqD d = some (t, ds)) : ∃ a vs, v = .ref a ∧ Sqq t K F a vs ∧ DpAll K F vs ds := by
  cases d with
  | list es => cases e; exact dp_lst h
  | tuple es => cases e; exact dp_tup h
  | _ => cases e
def enArg : List D → R (List D)
  | [d] => match sqqD d with
    | some (_, ds) => .ok (enumD 0 ds)
    | none => .no
  | _ => .no
@[simp] theorem enArg_list (ds : List D) : enArg [.list ds] = .ok (enumD 0 ds) := rfl
@[simp] theorem enArg_tup (ds : List D) : enArg [.tuple ds] = .ok (enumD 0 ds) := rfl
def zpArg : List D → R (List D)
  | [d, e] => match sqqD d, sqqD e with
    | some (_, ds), some (_, es) => .ok (zipD ds es)
    | _, _ => .no
  | _ => .no
theorem di_enum {elts : List Expr} {kk : Nat} {tpos : Pos} (hg : Gl X "enumerate") (hm : X.mg "enumerate" = none) (h : DA X W [e] fa) (hs : starEach [e] X.env = [(false, eval e X.env)] := by rfl) : DI X W (.Tuple elts kk tpos) (.Call (.Name "enumerate" p) [e] [] pos) (eB fa enArg) := by
  obtain ⟨t, pa, s⟩ := h
  refine ⟨_, pi_en hg hm pa hs, fun F H σ env fp Q sat hp => ?_⟩
  refine s.go sat hp fun ds vs F1 H1 sat1 q _ h1 => ?_
  unfold enArg at h1
  split at h1
  · split at h1
    · rename_i t es e2
      obtain ⟨v, rfl, w⟩ := daf1 q
      obtain ⟨a, us, rfl, q1, q2⟩ := sqq_dp w e2
      exact ⟨t, a, us, rfl, q1.mono sat1.fh, h1 _ F1 H1 (.refl sat1.fh) (walkF_en q1 q2)⟩
    · exact h1.elim
  · exact h1.elim
theorem di_zip {elts : List Expr} {kk : Nat} {tpos : Pos} (hg : Gl X "zip") (hm : X.mg "zip" = none) (h : DA X W [e, e2] fa) (hs : starEach [e, e2] X.env = (false, eval e X.env) :: starEach [e2] X.env := by rfl)
    (hpl : (backTo pos (starEach [e2] X.env)).any (·.1) = false := by rfl) : DI X W (.Tuple elts kk tpos) (.Call (.Name "zip" p) [e, e2] [] pos) (eB fa zpArg) := by
  obtain ⟨t, pa, s⟩ := h
  refine ⟨_, pi_zp hg hm pa hs hpl, fun F H σ env fp Q sat hp => ?_⟩
  refine s.go sat hp fun ds vs F1 H1 sat1 q _ h1 => ?_
  unfold zpArg at h1
  split at h1
  · split at h1
    · rename_i t es u gs e2 e3
      obtain ⟨v, w, rfl, w1, w2⟩ := daf2 q
      obtain ⟨a, us, rfl, q1, q2⟩ := sqq_dp w1 e2
      obtain ⟨b, us', rfl, q3, q4⟩ := sqq_dp w2 e3
      exact ⟨t, u, a, b, us, us', rfl, q1.mono sat1.fh, q3.mono sat1.fh, h1 _ F1 H1 (.refl sat1.fh) (walkF_zp q1 q2 q3 q4)⟩
    · exact h1.elim
  · exact h1.elim
end
end Mir
end
set_option Elab.async false
set_option linter.all false
set_option maxRecDepth 100000
set_option maxHeartbeats 4000000
noncomputable section
namespace Mir
open PySem PySem.Spec L2

section
variable {K : Kw} {F H : Hp} {σ : L2.St} {env : Ev} {fp : List Addr}
/-- store an own value; fx: the value's new footprint -/
theorem Sat.put (s : Sat K F H σ env fp) {i : Nat} (hi : i < env.length) {v : V} {o : Ow} {fx : List Addr} (h : OwnAt K F H v o fx) (nd : fx.Nodup) (dj : ∀ b ∈ fx, b ∉ fp) :
    ∃ fp', Sat K F H (σ.set i (some v)) (env.set i (some o)) fp' ∧ ∀ b ∈ fp', b ∈ fx ∨ b ∈ fp := by
  obtain ⟨fr, fo, a1, a2, a3, a4, a5, a6, a7⟩ := s.en.put hi s.nd
  obtain ⟨fp', b1, b2, b3⟩ := (a7 F H [] [] (StepS.of_ext (.refl s.fh) []) fun _ _ => by simp).2 v o fx h nd fun b hb z => dj b hb (a1 b z)
  exact ⟨fp', ⟨s.fh, b3, b1⟩, fun b hb => (b2 b hb).imp id (a1 b)⟩
end

def Off (ix : List Nat) (σ σ' : L2.St) : Prop := σ'.length = σ.length ∧ ∀ j, j ∉ ix → σ'[j]? = σ[j]?
theorem Off.refl (σ : L2.St) (ix : List Nat) : Off ix σ σ := ⟨rfl, fun _ _ => rfl⟩
theorem Off.trans {ix jx : List Nat} {σ σ1 σ2 : L2.St} (a : Off ix σ σ1) (b : Off jx σ1 σ2) : Off (ix ++ jx) σ σ2 :=
  ⟨b.1.trans a.1, fun j h => (b.2 j fun z => h (List.mem_append_right _ z)).trans (a.2 j fun z => h (List.mem_append_left _ z))⟩
/-- the reading of a target, by its mirror -/
def tgOf (K : Kw) (ix : List Nat) (g : D → Ev → Option Ev) : TG := fun v σ H Q => ∃ F env fp d env', Sat K F H σ env fp ∧ Dp K F v d ∧ g d env = some env' ∧ ∀ σ' fp', Sat K F H σ' env' fp' → (∀ b ∈ fp', b ∈ fp) → Off ix σ σ' → Q σ' H
def tgsOf (K : Kw) (ix : List Nat) (g : List D → Ev → Option Ev) : TGs := fun v σ H Q => ∃ F env fp d env', Sat K F H σ env fp ∧ DpAll K F v d ∧ g d env = some env' ∧ ∀ σ' fp', Sat K F H σ' env' fp' → (∀ b ∈ fp', b ∈ fp) → Off ix σ σ' → Q σ' H
def DG (X : Cx) (tg : Expr) (ix : List Nat) (g : D → Ev → Option Ev) : Prop := PG X tg (tgOf X.KK ix g)
def DGs (X : Cx) (tg : List Expr) (ix : List Nat) (g : List D → Ev → Option Ev) : Prop := PGs X tg (tgsOf X.KK ix g)
theorem PG.imp {X : Cx} {tg : Expr} {t t' : TG} (h : PG X tg t) (k : ∀ v σ H Q, t' v σ H Q → t v σ H Q) : PG X tg t' := ⟨fun pins s σ H v u Q I r q => h.run pins s σ H v u Q I r (k v σ H Q q)⟩
theorem PGs.imp {X : Cx} {tg : List Expr} {t t' : TGs} (h : PGs X tg t) (k : ∀ v σ H Q, t' v σ H Q → t v σ H Q) : PGs X tg t' := ⟨fun pins s σ H v u Q I r q => h.run pins s σ H v u Q I r (k v σ H Q q)⟩
def gtName (i : Nat) (d : D) (env : Ev) : Option Ev := if i < env.length then some (env.set i (some (.d d))) else none
def gtNil : List D → Ev → Option Ev
  | [], env => some env
  | _, _ => none
def gtCons (g : D → Ev → Option Ev) (h : List D → Ev → Option Ev) : List D → Ev → Option Ev
  | d :: ds, env => (g d env).bind (h ds)
  | _, _ => none
def gtTup (n : Nat) (h : List D → Ev → Option Ev) : D → Ev → Option Ev
  | .tuple ds, env => if ds.length = n then h ds env else none
  | _, _ => none
section
variable {X : Cx} {e : Expr} {es : List Expr} {pos : Pos}
theorem dg_name (i : Nat) {x : Str} (hN : X.N.Nodup) (hi : X.N[i]? = some x := by rfl) (hx : Loc X.env.scope x := by first | exact Or.inl rfl | exact Or.inr rfl) (hf : X.fn x = true ∨ X.env.scope.names.lookup x = some .local := by first | exact .inl rfl | exact .inr rfl | assumption) : DG X (.Name x pos) [i] (gtName i) := by
  refine PG.imp (pg_name hN hi hx hf) ?_
  rintro v σ H Q ⟨F, env, fp, d, env', sat, hd, he, q⟩
  unfold gtName at he
  split at he
  · cases he
    obtain ⟨fp', s', h'⟩ := sat.put ‹_› (OwnAt.d hd) List.nodup_nil (fun _ z => nomatch z)
    exact q _ fp' s' (fun b hb => (h' b hb).elim (fun z => nomatch z) id) ⟨by simp, fun j hj => List.getElem?_set_ne (fun z => hj (by simp [z]))⟩
  · cases he
theorem dgs_nil : DGs X [] [] gtNil := by
  refine PGs.imp pgs_nil ?_
  rintro v σ H Q ⟨F, env, fp, d, env', sat, hd, he, q⟩
  cases d with
  | nil => cases hd; cases he; exact ⟨rfl, q σ fp sat (fun _ z => z) (.refl _ _)⟩
  | cons d ds => cases he
theorem dgs_cons {ix jx : List Nat} {g : D → Ev → Option Ev} {h : List D → Ev → Option Ev} (h1 : DG X e ix g) (h2 : DGs X es jx h) (hs : (assignEach (e :: es) X.env).map (·.2) = assign e X.env :: (assignEach es X.env).map (·.2) := by rfl) : DGs X (e :: es) (ix ++ jx) (gtCons g h) := by
  refine PGs.imp (pgs_cons h1 h2 hs) ?_
  rintro v σ H Q ⟨F, env, fp, d, env', sat, hd, he, q⟩
  cases d with
  | nil => cases he
  | cons d ds =>
    cases hd with
    | cons d1 d2 =>
      cases e1 : g d env with
      | none => unfold gtCons at he; simp only at he; rw [e1] at he; cases he
      | some env1 =>
        unfold gtCons at he; simp only at he; rw [e1] at he
        refine ⟨_, _, rfl, F, env, fp, d, env1, sat, d1, e1, fun σ1 fp1 sat1 sub1 o1 => ?_⟩
        exact ⟨F, env1, fp1, ds, env', sat1, d2, he, fun σ2 fp2 sat2 sub2 o2 => q σ2 fp2 sat2 (fun b hb => sub1 b (sub2 b hb)) (o1.trans o2)⟩
theorem dg_tup {k n : Nat} {ix : List Nat} {h : List D → Ev → Option Ev} (hc : X.calm = true) (hs : DGs X es ix h) (hn : (assignEach es X.env).length = n := by rfl) (hst : (assignEach es X.env).findIdx? (·.1) = none := by rfl) : DG X (.Tuple es k pos) ix (gtTup n h) := by
  refine PG.imp (pg_tup hc hs hn hst) ?_
  rintro v σ H Q ⟨F, env, fp, d, env', sat, hd, he, q⟩
  unfold gtTup at he
  split at he
  · split at he
    · rename_i ds c
      obtain ⟨a, vs, rfl, h1, h2⟩ := dp_tup hd
      exact ⟨a, vs, rfl, SqT_mono sat.fh h1, (DpAll.len h2).trans c, F, env, fp, ds, env', sat, h2, he, q⟩
    · cases he
  · cases he
end

inductive SR where
  | no
  | nx (env : Ev)
  | rt (r : Ow) (env : Ev)
  | bk (env : Ev)
  | ct (env : Ev)
  | ex (c : Str) (env : Ev)
def SR.andThen : SR → (Ev → SR) → SR
  | .nx env, f => f env
  | r, _ => r
@[simp] theorem SR.andThen_nx (env : Ev) (f : Ev → SR) : (SR.nx env).andThen f = f env := rfl
@[simp] theorem SR.andThen_rt (r : Ow) (env : Ev) (f : Ev → SR) : (SR.rt r env).andThen f = .rt r env := rfl
@[simp] theorem SR.andThen_ex (c : Str) (env : Ev) (f : Ev → SR) : (SR.ex c env).andThen f = .ex c env := rfl
@[simp] theorem SR.andThen_bk (env : Ev) (f : Ev → SR) : (SR.bk env).andThen f = .bk env := rfl
@[simp] theorem SR.andThen_ct (env : Ev) (f : Ev → SR) : (SR.ct env).andThen f = .ct env := rfl
@[simp] theorem SR.andThen_no (f : Ev → SR) : SR.no.andThen f = .no := rfl
/-- a pure part, then a statement's outcome -/
def R.st {α : Type} (env : Ev) : R α → (α → SR) → SR
  | .no, _ => .no
  | .ok a, f => f a
  | .ex c, _ => .ex c env
@[simp] theorem R.st_ok {α : Type} (env : Ev) (a : α) (f : α → SR) : (R.ok a).st env f = f a := rfl
@[simp] theorem R.st_ex {α : Type} (env : Ev) (c : Str) (f : α → SR) : (R.ex c : R α).st env f = .ex c env := rfl
/-- S: the slots that may be stored -/
def OffS (S : Nat → Bool) (σ σ' : L2.St) : Prop := ∀ j, S j = false → σ'[j]? = σ[j]?
theorem OffS.refl (S : Nat → Bool) (σ : L2.St) : OffS S σ σ := fun _ _ => rfl
theorem OffS.trans {S : Nat → Bool} {σ σ1 σ2 : L2.St} (a : OffS S σ σ1) (b : OffS S σ1 σ2) : OffS S σ σ2 := fun j h => (b j h).trans (a j h)
theorem OffS.set {S : Nat → Bool} {σ : L2.St} {i : Nat} (h : S i = true) (x : Option V) : OffS S σ (σ.set i x) := fun j hj => List.getElem?_set_ne fun z => by rw [z, hj] at h; cases h
theorem OffS.of {S : Nat → Bool} {σ σ' : L2.St} {ix : List Nat} (h : Off ix σ σ') (k : ix.all S = true) : OffS S σ σ' := fun j hj => h.2 j fun z => by
  rw [List.all_eq_true] at k
  rw [k j z] at hj; cases hj
def PostS (X : Cx) (W : WX) (S : Nat → Bool) (σ0 : L2.St) (F H : Hp) (fp : List Addr) (D : Ends) : SR → Prop
  | .no => False
  | .nx env => ∀ σ F' H' fp', OffS S σ0 σ → StepS F H fp F' H' fp' → Sat X.KK F' H' σ env fp' → D.nx σ H'
  | .bk env => ∀ σ F' H' fp', OffS S σ0 σ → StepS F H fp F' H' fp' → Sat X.KK F' H' σ env fp' → D.bk σ H'
  | .ct env => ∀ σ F' H' fp', OffS S σ0 σ → StepS F H fp F' H' fp' → Sat X.KK F' H' σ env fp' → D.ct σ H'
  | .rt r env => ∀ v σ F' H' fx fp', OffS S σ0 σ → StepS F H fp F' H' (fx ++ fp') → Sat X.KK F' H' σ env fp' → OwnAt X.KK F' H' v r fx → (fx ++ fp').Nodup → D.rt v H'
  | .ex c env => ∀ C σ F' H' fp', X.mg c = some (.ref C) → OffS S σ0 σ → StepS F H fp F' H' fp' → Sat X.KK F' H' σ env fp' → W (.ref C) none σ H'
def SmS (X : Cx) (W : WX) (S : Nat → Bool) (t : TS) (f : Ev → SR) : Prop := ∀ F H σ env fp D, Sat X.KK F H σ env fp → PostS X W S σ F H fp D (f env) → t D σ H
def DS (X : Cx) (W : WX) (S : Nat → Bool) (st : Stmt) (f : Ev → SR) : Prop := ∃ t, PS X st t ∧ SmS X W S t f
def DSs (X : Cx) (W : WX) (S : Nat → Bool) (st : List Stmt) (f : Ev → SR) : Prop := ∃ t, PSs X st t ∧ SmS X W S t f
section
variable {X : Cx} {W : WX} {S : Nat → Bool} {σ0 σ1 : L2.St} {F H F1 H1 : Hp} {fp fp1 : List Addr} {D : Ends}
theorem PostS.step {r : SR} (h : PostS X W S σ0 F H fp D r) (o : OffS S σ0 σ1) (s : StepS F H fp F1 H1 fp1) : PostS X W S σ1 F1 H1 fp1 D r := by
  cases r with
  | no => exact h
  | nx env => exact fun σ F' H' fp' o' s' => h σ F' H' fp' (o.trans o') (s.trans s')
  | bk env => exact fun σ F' H' fp' o' s' => h σ F' H' fp' (o.trans o') (s.trans s')
  | ct env => exact fun σ F' H' fp' o' s' => h σ F' H' fp' (o.trans o') (s.trans s')
  | rt r env => exact fun v σ F' H' fx fp' o' s' => h v σ F' H' fx fp' (o.trans o') (s.trans s')
  | ex c env => exact fun C σ F' H' fp' m o' s' => h C σ F' H' fp' m (o.trans o') (s.trans s')
theorem PostS.ext {r : SR} (h : PostS X W S σ0 F H fp D r) (e : Ext F H F1 H1) : PostS X W S σ0 F1 H1 fp D r := h.step (.refl _ _) (StepS.of_ext e fp)
theorem PostS.sub {S' : Nat → Bool} {r : SR} (h : PostS X W S σ0 F H fp D r) (k : ∀ j, S j = false → S' j = false) : PostS X W S' σ0 F H fp D r := by
  have o : ∀ {σ : L2.St}, OffS S' σ0 σ → OffS S σ0 σ := fun o j hj => o j (k j hj)
  cases r with
  | no => exact h
  | nx env => exact fun σ F' H' fp' o' s' => h σ F' H' fp' (o o') s'
  | bk env => exact fun σ F' H' fp' o' s' => h σ F' H' fp' (o o') s'
  | ct env => exact fun σ F' H' fp' o' s' => h σ F' H' fp' (o o') s'
  | rt r env => exact fun v σ F' H' fx fp' o' s' => h v σ F' H' fx fp' (o o') s'
  | ex c env => exact fun C σ F' H' fp' m o' s' => h C σ F' H' fp' m (o o') s'
/-- a pure part within a statement -/
theorem Sm.st {α β : Type} {P : Hp → α → β → Hp → Hp → Prop} {t : L2.St → Hp → (β → Hp → Prop) → Prop} {f : Ev → R α} (s : Sm X W P t f) {g : α → SR} {σ : L2.St} {env : Ev} {T : β → Hp → Prop} (sat : Sat X.KK F H σ env fp)
    (h : PostS X W S σ F H fp D ((f env).st env g)) (k : ∀ a v F1 H1, Sat X.KK F1 H1 σ env fp → P H a v F1 H1 → Ext F H F1 H1 → PostS X W S σ F1 H1 fp D (g a) → T v H1) : t σ H T := by
  refine s F H σ env fp T sat ?_
  cases e : f env with
  | no => rw [e] at h; exact h
  | ok a =>
    rw [e] at h
    exact fun v F' H' x p => k a v F' H' (sat.ext x) p x (PostS.ext (show PostS X W S σ F H fp D (g a) from h) x)
  | ex c =>
    rw [e] at h
    exact fun C F' H' m x => h C σ F' H' fp m (.refl _ _) (StepS.of_ext x fp) (sat.ext x)
end
section
variable {X : Cx} {W : WX} {S : Nat → Bool} {st : Stmt} {sts : List Stmt} {e : Expr} {pos : Pos} {fs gs : Ev → SR}
def sSkip (env : Ev) : SR := .nx env
def sSeq (f g : Ev → SR) (env : Ev) : SR := (f env).andThen g
theorem dss_nil : DSs X W S [] sSkip := ⟨_, pss_nil, fun F H σ env fp D sat h => h σ F H fp (.refl _ _) (StepS.of_ext (.refl sat.fh) fp) sat⟩
theorem dss_one (h : DS X W S st fs) : DSs X W S [st] fs := by
  obtain ⟨t, p, s⟩ := h
  exact ⟨_, pss_one p, s⟩
theorem seq_sm {t u : TS} (s : SmS X W S t fs) (s' : SmS X W S u gs) : SmS X W S (tSeq t u) (sSeq fs gs) := by
  intro F H σ env fp D sat h
  refine s F H σ env fp _ sat ?_
  unfold sSeq at h
  cases e : fs env with
  | no => rw [e] at h; exact h
  | nx env1 =>
    rw [e] at h
    exact fun σ1 F1 H1 fp1 o1 st1 sat1 => s' F1 H1 σ1 env1 fp1 D sat1 (PostS.step (show PostS X W S σ F H fp D (gs env1) from h) o1 st1)
  | bk env1 => rw [e] at h; exact h
  | ct env1 => rw [e] at h; exact h
  | rt r env1 => rw [e] at h; exact h
  | ex c env1 => rw [e] at h; exact h
theorem dss_cons (h : DS X W S st fs) (h2 : DSs X W S sts gs) : DSs X W S (st :: sts) (sSeq fs gs) := by
  obtain ⟨t, p, s⟩ := h
  obtain ⟨t', p', s'⟩ := h2
  exact ⟨_, pss_cons p p', seq_sm s s'⟩
/-- name = e -/
def sSet (i : Nat) (f : Ev → R Ow) (env : Ev) : SR := (f env).st env fun r => if i < env.length then .nx (env.set i (some r)) else .no
theorem fresh_dj {K : Kw} {H F' H' : Hp} {F : Hp} {σ : L2.St} {env : Ev} {fp fx : List Addr} (sat : Sat K F H σ env fp) (n : ∀ b ∈ fx, H b = none) : ∀ b ∈ fx, b ∉ fp := fun b hb z => by
  obtain ⟨_, vs, e⟩ := sat.en.there b z
  rw [n b hb] at e
  cases e
theorem put_step {K : Kw} {F H F1 H1 : Hp} {σ : L2.St} {env : Ev} {fp fx : List Addr} {i : Nat} {v : V} {r : Ow} (sat : Sat K F H σ env fp) (x : Ext F H F1 H1) (h : OwnAt K F1 H1 v r fx) (nd : fx.Nodup) (n : ∀ b ∈ fx, H b = none) (hi : i < env.length) :
    ∃ fp', StepS F H fp F1 H1 fp' ∧ Sat K F1 H1 (σ.set i (some v)) (env.set i (some r)) fp' := by
  obtain ⟨fp', s', h'⟩ := (sat.ext x).put hi h nd (fresh_dj (F' := F) (H' := H) sat n)
  exact ⟨fp', ⟨x.ff, fun b o e _ => x.hh b o e, fun b o e => (x.fn b o e).imp id .inr, fun b hb => (h' b hb).elim (fun z => .inr (n b z)) .inl⟩, s'⟩
theorem ds_set {f : Ev → R Ow} {x : Str} {pos' : Pos} (i : Nat) (hN : X.N.Nodup) (he : DE X W e f) (hi : X.N[i]? = some x := by rfl) (hx : Loc X.env.scope x := by first | exact Or.inl rfl | exact Or.inr rfl)
    (hs : swapsWith e (some (.Name x pos')) pos.line X.env = pure false := by rfl) (hf : X.fn x = true ∨ X.env.scope.names.lookup x = some .local := by first | exact .inl rfl | exact .inr rfl | assumption) (hS : S i = true := by rfl) : DS X W S (.Assign [.Name x pos'] e pos) (sSet i f) := by
  obtain ⟨t, p, s⟩ := he
  refine ⟨_, ps_set hN hi hx p hs hf, fun F H σ env fp D sat h => ?_⟩
  refine s F H σ env fp _ sat ?_
  unfold sSet at h
  cases e : f env with
  | no => rw [e] at h; exact h
  | ex c => rw [e] at h; exact fun C F' H' m x => h C σ F' H' fp m (.refl _ _) (StepS.of_ext x fp) (sat.ext x)
  | ok r =>
    rw [e] at h
    intro v F' H' x ⟨fx, q, nd, n⟩
    have h' : PostS X W S σ F H fp D (if i < env.length then .nx (env.set i (some r)) else .no) := h
    split at h'
    · obtain ⟨fp', s1, s2⟩ := put_step sat x q nd n ‹_›
      exact h' _ F' H' fp' (.set hS _) s1 s2
    · exact h'.elim
/-- targets = e, e frozen -/
def sAsg (g : D → Ev → Option Ev) (f : Ev → R D) (env : Ev) : SR := (f env).st env fun d => match g d env with
  | some env' => .nx env'
  | none => .no
theorem ds_asg {f : Ev → R D} {g : D → Ev → Option Ev} {tg : Expr} {ix : List Nat} (he : DF X W e f) (hg : DG X tg ix g) (hs : swapsWithSole [tg] e pos.line X.env = pure false := by rfl) (hw : swappedStores [tg] e X.env = pure none := by rfl)
    (h1 : (assignEach [tg] X.env).map (·.2) = [assign tg X.env] := by rfl) (hS : ix.all S = true := by rfl) : DS X W S (.Assign [tg] e pos) (sAsg g f) := by
  obtain ⟨t, p, s⟩ := he
  refine ⟨_, ps_asg p hg hs hw h1, fun F H σ env fp D sat h => ?_⟩
  refine s.st sat h fun d v F1 H1 sat1 q _ h1 => ?_
  split at h1
  · rename_i env' e
    exact ⟨F1, env, fp, d, env', sat1, q, e, fun σ' fp' sat' sub off => h1 σ' F1 H1 fp' (.of off hS) ((StepS.of_ext (.refl sat1.fh) fp).subset sub) sat'⟩
  · exact h1.elim
/-- an expression whose value is dropped -/
def sDrop (f : Ev → R D) (env : Ev) : SR := (f env).st env fun _ => .nx env
theorem ds_expr {f : Ev → R D} (he : DF X W e f) (hs : swapsWith e none pos.line X.env = pure false := by rfl) : DS X W S (.Expr e pos) (sDrop f) := by
  obtain ⟨t, p, s⟩ := he
  refine ⟨_, ps_expr p hs, fun F H σ env fp D sat h => ?_⟩
  exact s.st sat h fun d v F1 H1 sat1 q _ h1 => h1 σ F1 H1 fp (.refl _ _) (StepS.of_ext (.refl sat1.fh) fp) sat1
def sRet (f : Ev → R Ow) (env : Ev) : SR := (f env).st env fun r => .rt r env
theorem ds_ret {f : Ev → R Ow} (he : DE X W e f) : DS X W S (.Return (some e) pos) (sRet f) := by
  obtain ⟨t, p, s⟩ := he
  refine ⟨_, ps_ret p, fun F H σ env fp D sat h => ?_⟩
  refine s F H σ env fp _ sat ?_
  unfold sRet at h
  cases e : f env with
  | no => rw [e] at h; exact h
  | ex c => rw [e] at h; exact fun C F' H' m x => h C σ F' H' fp m (.refl _ _) (StepS.of_ext x fp) (sat.ext x)
  | ok r =>
    rw [e] at h
    intro v F' H' x ⟨fx, q, nd, n⟩
    have dj := fresh_dj (F' := F) (H' := H) sat n
    refine h v σ F' H' fx fp (.refl _ _) ⟨x.ff, fun b o e _ => x.hh b o e, fun b o e => (x.fn b o e).imp id .inr, fun b hb => ?_⟩ (sat.ext x) q ?_
    · rcases List.mem_append.mp hb with z | z
      · exact .inr (n b z)
      · exact .inl z
    · rw [List.nodup_append]; exact ⟨nd, sat.nd, fun a ha b hb e => dj a ha (e ▸ hb)⟩
def sRetN (env : Ev) : SR := .rt (.d .none) env
/-- return x, x given away -/
def sRetV (i : Nat) (env : Ev) : SR := match env[i]? with
  | some (some o) => .rt o (env.set i none)
  | _ => .no
theorem ds_retV (i : Nat) {x : Str} {pos' : Pos} (hN : X.N[i]? = some x := by rfl) (hv : Vis X.env.scope x := by first | exact Or.inl rfl | exact Or.inr (Or.inl rfl) | exact Or.inr (Or.inr rfl)) (hd : (x == ("__debug__" : Str)) = false := by decide)
    (hcd : (x == ("__classdict__" : Str)) = false := by decide) : DS X W S (.Return (some (.Name x pos')) pos) (sRetV i) := by
  refine ⟨_, ps_ret (pe_var hN hv hd hcd), fun F H σ env fp D sat h => ?_⟩
  unfold sRetV at h
  split at h
  · rename_i o he
    have hi : i < env.length := (List.getElem?_eq_some_iff.mp he).1
    obtain ⟨fr, fo, a1, a2, a3, a3', a4, a5, a6⟩ := sat.en.put hi sat.nd
    obtain ⟨v, e1, e2⟩ := a5 o he
    have e3 := (a6 F H [] [] (StepS.of_ext (.refl sat.fh) []) fun _ _ => by simp).1 (some v)
    have es : σ.set i (some v) = σ := by
      refine List.ext_getElem? fun j => ?_
      by_cases hj : i = j
      · subst hj
        rw [List.getElem?_set_self (List.getElem?_eq_some_iff.mp e1).1]
        exact e1.symm
      · rw [List.getElem?_set_ne hj]
    rw [es] at e3
    refine ⟨v, e1, h v _ F H fo fr (.refl _ _) ((StepS.of_ext (.refl sat.fh) fp).subset fun b hb => ?_) ⟨sat.fh, e3, a3⟩ e2 ?_⟩
    · exact (List.mem_append.mp hb).elim (a2 b) (a1 b)
    · rw [List.nodup_append]; exact ⟨a3', a3, fun a ha b hb e => a4 a ha (e ▸ hb)⟩
  · exact h.elim
/-- a def's own list made data, ahead of a statement -/
def frzV (i : Nat) (env : Ev) : Ev := match env[i]? with
  | some (some o) => env.set i (some (.d (viewD o)))
  | _ => env
theorem frz_sat {K : Kw} {F H : Hp} {σ : L2.St} {env : Ev} {fp : List Addr} (i : Nat) (sat : Sat K F H σ env fp) : ∃ F' fp', StepS F H fp F' H fp' ∧ Sat K F' H σ (frzV i env) fp' := by
  unfold frzV
  split
  · rename_i o he
    have hi : i < env.length := (List.getElem?_eq_some_iff.mp he).1
    obtain ⟨fr, fo, a1, a2, a3, a3', a4, a5, a6⟩ := sat.en.put hi sat.nd
    obtain ⟨v, e1, e2⟩ := a5 o he
    have nx : ∀ b ∈ fo, F b = none := fun b hb => (OwnAt.there _ _ _ e2 b hb).1
    have st : StepS F H fo (frzAt F H fo) H [] := ⟨frzAt_same nx, fun b o e _ => e, fun b o e => (frzAt_of e).imp id .inl, fun b z => nomatch z⟩
    obtain ⟨fp', b1, b2, b3⟩ := (a6 (frzAt F H fo) H fo [] st fun b hb z => a4 b z hb).2 v _ [] (.d (OwnAt.frz nx _ _ _ e2 fun _ z => z)) List.nodup_nil (fun _ z => nomatch z)
    have es : σ.set i (some v) = σ := by
      refine List.ext_getElem? fun j => ?_
      by_cases hj : i = j
      · subst hj
        rw [List.getElem?_set_self (by rw [sat.en.len]; exact hi)]
        exact e1.symm
      · rw [List.getElem?_set_ne hj]
    rw [es] at b3
    exact ⟨_, fp', ⟨frzAt_same nx, fun b o e _ => e, fun b o e => (frzAt_of e).imp id fun z => .inl (a2 b z), fun b hb => .inl ((b2 b hb).elim (fun z => nomatch z) (a1 b))⟩, ⟨frzAt_in sat.fh, b3, b1⟩⟩
  · exact ⟨F, fp, StepS.of_ext (.refl sat.fh) fp, sat⟩
def sFrz (i : Nat) (f : Ev → SR) (env : Ev) : SR := f (frzV i env)
theorem frz_sm {t : TS} (i : Nat) (s : SmS X W S t fs) : SmS X W S t (sFrz i fs) := by
  intro F H σ env fp D sat h
  obtain ⟨F', fp', s1, s2⟩ := frz_sat i sat
  exact s F' H σ _ fp' D s2 (PostS.step h (.refl _ _) s1)
theorem ds_frz (i : Nat) (h : DS X W S st fs) : DS X W S st (sFrz i fs) := by
  obtain ⟨t, p, s⟩ := h
  exact ⟨t, p, frz_sm i s⟩
def sIf (c : Ev → R Bool) (f g : Ev → SR) (env : Ev) : SR := (c env).st env fun b => if b = true then f env else g env
theorem ds_if {c : Expr} {a b : List Stmt} {fc : Ev → R Bool} (hc : DT X W c fc) (ha : DSs X W S a fs) (hb : DSs X W S b gs) : DS X W S (.If c a b pos) (sIf fc fs gs) := by
  obtain ⟨t, p, s⟩ := hc
  obtain ⟨ta, pa, sa⟩ := ha
  obtain ⟨tb, pb, sb⟩ := hb
  refine ⟨_, ps_if p pa pb, fun F H σ env fp D sat h => ?_⟩
  refine s.st sat h fun k v F1 H1 sat1 q _ h1 => ?_
  obtain rfl : v = k := q
  cases v with
  | true => exact sa F1 H1 σ env fp D sat1 h1
  | false => exact sb F1 H1 σ env fp D sat1 h1
/-- for target in ..: body -/
def forL (g : D → Ev → Option Ev) (f : Ev → SR) : List D → Ev → SR
  | [], env => .nx env
  | d :: ds, env => match g d env with
    | none => .no
    | some env1 => match f env1 with
      | .nx env2 => forL g f ds env2
      | .ct env2 => forL g f ds env2
      | .bk env2 => .nx env2
      | .rt r env2 => .rt r env2
      | .ex c env2 => .ex c env2
      | .no => .no
def sFor (it : Ev → R (List D)) (g : D → Ev → Option Ev) (f : Ev → SR) (env : Ev) : SR := (it env).st env fun ds => forL g f ds env
theorem ds_for {tg iter : Expr} {body : List Stmt} {fi : Ev → R (List D)} {g : D → Ev → Option Ev} (hp : PassesOwn (model X.prog X.w) X.A X.env X.xe) (hc : X.calm = true) {ix : List Nat} (hi : DI X W tg iter fi) (hg : DG X tg ix g) (hb : DSs X W S body fs)
    (hs : ∀ x, foldedSetIterable iter X.env x = pure x := by intro _; rfl) (hS : ix.all S = true := by rfl) : DS X W S (.For tg iter body [] pos) (sFor fi g fs) := by
  obtain ⟨wi, pi, si⟩ := hi
  obtain ⟨tb, pb, sb⟩ := hb
  refine ⟨_, ps_for hp hc pi hg pb hs, fun F H σ env fp D sat h => ?_⟩
  refine si.st sat h fun items J F1 H1 sat1 wk _ h1 => ?_
  have wk : WalkF X.KK J F1 items := wk
  refine ⟨fun i m σ' H' => m = items.length - i ∧ i ≤ items.length ∧ ∃ F' env' fp', Same F1 F' ∧ Sat X.KK F' H' σ' env' fp' ∧ PostS X W S σ' F' H' fp' D (forL g fs (items.drop i) env'),
    ⟨items.length, by simp, Nat.zero_le _, F1, env, fp, Same.refl _, sat1, h1⟩, ?_⟩
  rintro i m σ' H' ⟨rfl, hi, F', env', fp', st, sat', h2⟩
  by_cases hlt : i < items.length
  · refine .inr ⟨wk.go i F' H' hlt st sat'.fh, fun σ2 H2 => ∃ F2 env2 fp2, Same F1 F2 ∧ Sat X.KK F2 H2 σ2 env2 fp2 ∧ PostS X W S σ2 F2 H2 fp2 D (forL g fs (items.drop (i + 1)) env2), ?_, ?_⟩
    · rintro σ2 H2 ⟨F2, env2, fp2, a, b, c⟩
      exact ⟨items.length - (i + 1), by omega, rfl, hlt, F2, env2, fp2, a, b, c⟩
    · intro x H3 y
      obtain ⟨d, F3, e1, x3, dp⟩ := wk.yld i F' H' x H3 hlt st sat'.fh y
      have ed : items.drop i = d :: items.drop (i + 1) := by
        rw [List.drop_eq_getElem_cons hlt]
        have : items[i] = d := by rw [List.getElem?_eq_getElem hlt] at e1; exact Option.some.inj e1
        rw [this]
      rw [ed] at h2
      unfold forL at h2
      cases eg : g d env' with
      | none => rw [eg] at h2; exact h2.elim
      | some env1 =>
        rw [eg] at h2
        simp only at h2
        refine ⟨F3, env', fp', d, env1, sat'.ext x3, dp, eg, fun σ4 fp4 sat4 sub4 off4 => ?_⟩
        have st4 : StepS F' H' fp' F3 H3 fp4 := (StepS.of_ext x3 fp').subset sub4
        have h4 := PostS.step h2 (.of off4 hS) st4
        refine sb F3 H3 σ4 env1 fp4 _ sat4 ?_
        cases ef : fs env1 with
        | no => rw [ef] at h4; exact h4
        | nx env2 => rw [ef] at h4; exact fun σ5 F5 H5 fp5 o5 s5 sat5 => ⟨F5, env2, fp5, st.trans (x3.ff.trans s5.ff), sat5, PostS.step h4 o5 s5⟩
        | ct env2 => rw [ef] at h4; exact fun σ5 F5 H5 fp5 o5 s5 sat5 => ⟨F5, env2, fp5, st.trans (x3.ff.trans s5.ff), sat5, PostS.step h4 o5 s5⟩
        | bk env2 => rw [ef] at h4; exact h4
        | rt r env2 => rw [ef] at h4; exact h4
        | ex c env2 => rw [ef] at h4; exact h4
  · have e : i = items.length := by omega
    subst e
    rw [List.drop_length] at h2
    exact .inl ⟨wk.stop F' H' st sat'.fh, h2 σ' F' H' fp' (.refl _ _) (StepS.of_ext (.refl sat'.fh) fp') sat'⟩
/-- while c: body, at most n turns -/
def whileN (c : Ev → R Bool) (f : Ev → SR) : Nat → Ev → SR
  | 0, _ => .no
  | n + 1, env => (c env).st env fun b => if b = true then (match f env with
      | .nx env2 => whileN c f n env2
      | .ct env2 => whileN c f n env2
      | .bk env2 => .nx env2
      | .rt r env2 => .rt r env2
      | .ex c env2 => .ex c env2
      | .no => .no) else .nx env
theorem ds_while {c : Expr} {body : List Stmt} {fc : Ev → R Bool} (n : Nat) (hp : PassesOwn (model X.prog X.w) X.A X.env X.xe) (hc : DT X W c fc) (hb : DSs X W S body fs) : DS X W S (.While c body [] pos) (whileN fc fs n) := by
  obtain ⟨tc, pc, sc⟩ := hc
  obtain ⟨tb, pb, sb⟩ := hb
  refine ⟨_, ps_while hp pc pb, fun F H σ env fp D sat h => ?_⟩
  refine ⟨fun m σ' H' => ∃ F' env' fp', Sat X.KK F' H' σ' env' fp' ∧ PostS X W S σ' F' H' fp' D (whileN fc fs m env'), ⟨n, F, env, fp, sat, h⟩, ?_⟩
  rintro m σ' H' ⟨F', env', fp', sat', h2⟩
  cases m with
  | zero => exact h2.elim
  | succ m =>
    unfold whileN at h2
    refine sc.st sat' h2 fun k v F1 H1 sat1 q x1 h3 => ?_
    obtain rfl : v = k := q
    cases v with
    | false => exact h3 σ' F1 H1 fp' (.refl _ _) (StepS.of_ext (.refl sat1.fh) fp') sat1
    | true =>
      rw [if_pos rfl] at h3 ⊢
      refine ⟨fun σ5 H5 => ∃ F5 env2 fp5, Sat X.KK F5 H5 σ5 env2 fp5 ∧ PostS X W S σ5 F5 H5 fp5 D (whileN fc fs m env2), fun σ5 H5 z => ⟨m, Nat.lt_succ_self m, z⟩, ?_⟩
      refine sb F1 H1 σ' env' fp' _ sat1 ?_
      cases ef : fs env' with
      | no => rw [ef] at h3; exact h3
      | nx env2 => rw [ef] at h3; exact fun σ5 F5 H5 fp5 o5 s5 sat5 => ⟨F5, env2, fp5, sat5, PostS.step h3 o5 s5⟩
      | ct env2 => rw [ef] at h3; exact fun σ5 F5 H5 fp5 o5 s5 sat5 => ⟨F5, env2, fp5, sat5, PostS.step h3 o5 s5⟩
      | bk env2 => rw [ef] at h3; exact h3
      | rt r env2 => rw [ef] at h3; exact h3
      | ex c env2 => rw [ef] at h3; exact h3
end
end Mir
end
set_option Elab.async false
set_option linter.all false
set_option maxRecDepth 100000
set_option maxHeartbeats 4000000
noncomputable section
namespace Mir
open PySem PySem.Spec L2

def PostF (K : Kw) (mg : Str → Option Value) (F H : Hp) : R Ow → VK → XK → Prop
  | .no, _, _ => False
  | .ok r, Q, _ => ∀ v F' H', Ext F H F' H' → POw K H r v F' H' → Q v H'
  | .ex c, _, E => ∀ C F' H', mg c = some (.ref C) → Ext F H F' H' → E (.ref C) none H'
def spM (K : Kw) (mg : Str → Option Value) (n : Nat) (m : List D → R Ow) : Sp := fun vs H Q E => ∃ F ds, Same F H ∧ DpAll K F vs ds ∧ ds.length = n ∧ PostF K mg F H (m ds) Q E
theorem spM_len {K : Kw} {mg : Str → Option Value} {n : Nat} {m : List D → R Ow} {vs : List V} {H : Hp} {Q : VK} {E : XK} (h : spM K mg n m vs H Q E) : vs.length = n := by
  obtain ⟨F, ds, _, h1, h2, _⟩ := h
  rw [DpAll.len h1, h2]
def envOf (k : Nat) (ds : List D) : Ev := ds.map (fun d => some (Ow.d d)) ++ List.replicate k none
def runB (k : Nat) (f : Ev → SR) (ds : List D) : R Ow := match f (envOf k ds) with
  | .nx _ => .ok (.d .none)
  | .rt r _ => .ok r
  | .ex c _ => .ex c
  | _ => .no
theorem env_start {K : Kw} {F H : Hp} (k : Nat) : ∀ {vs : List V} {ds : List D}, DpAll K F vs ds → EnvAt K F H (vs.map some ++ List.replicate k none) (envOf k ds) []
  | vs, [], h => by
    cases h
    show EnvAt K F H (List.replicate k none) (List.replicate k none) []
    induction k with
    | zero => exact .nil
    | succ k ih => exact .non ih
  | vs, d :: ds, h => by
    cases h with
    | cons h1 h2 => exact .som (fp := []) (.d h1) (env_start k h2)
section
variable {P : Program} {w : World} {K : PySem.W.Frag} {mg : Str → Option Value} {base : Heap}
theorem mk_fn {x qual : Str} {st : Stmt} {f : Addr} {fd : FuncData} {N ps : List Str} {k l : Nat} {fb : Ev → SR} {m : List D → R Ow} (F : Fun K x qual st f fd) (S : FnScope N ps (defScope st)) (hl : N.length = ps.length + l) (hm : ∀ ds, m ds = runB l fb ds)
    (hb : ∀ (cdv : Value) (A : Around) (outer : List Env) (s : Shared) (H : Hp) (E : XK), Room k (A.deeper (PyProof.Rows.envOfC qual (defScope st) s.heap.objs.size f cdv)) →
      DSs (cxOf (L2.CX P w) P w K mg base N qual (defScope st) f cdv A outer s H E) (fun cls d _ H => E cls d H) (fun _ => true) (defBody st) fb) : FnOk P w K mg base (L2.CX P w) (k + 1) f fd ps (spM ⟨K, w⟩ mg ps.length m) := by
  refine F.okX S (fun vs H Q E h => spM_len h) (fun cdv A outer s H vs Q E hr h => ?_)
  obtain ⟨t, p, sm⟩ := hb cdv A outer s H E hr
  refine ⟨t, p, ?_⟩
  have hlen := spM_len h
  obtain ⟨F0, ds, s1, s2, s3, s4⟩ := h
  have e0 : start N vs = vs.map some ++ List.replicate l none := by
    show vs.map some ++ List.replicate (N.length - vs.length) none = _
    rw [hl, hlen, Nat.add_sub_cancel_left]
  rw [e0]
  have sat : Sat ⟨K, w⟩ F0 H (vs.map some ++ List.replicate l none) (envOf l ds) [] := ⟨s1, env_start l s2, List.nodup_nil⟩
  rw [hm] at s4
  unfold runB at s4
  have ext : ∀ {F' H' : Hp} {fp' : List Addr}, StepS F0 H [] F' H' fp' → Same F' H' → Ext F0 H F' H' := fun st sf => ⟨st.ff, fun b o e => st.fr b o e (by simp), fun b o e => (st.fn b o e).imp id fun z => z.elim (fun z => nomatch z) id, sf⟩
  refine sm F0 H _ _ [] _ sat ?_
  cases e : fb (envOf l ds) with
  | no => rw [e] at s4; exact s4
  | bk env => rw [e] at s4; exact s4.elim
  | ct env => rw [e] at s4; exact s4.elim
  | nx env => rw [e] at s4; exact fun σ' F' H' fp' _ st sat' => s4 .non F' H' (ext st sat'.fh) (own_d .non)
  | rt r env =>
    rw [e] at s4
    intro v σ' F' H' fx fp' _ st sat' ow nd
    refine s4 v F' H' (ext st sat'.fh) ⟨fx, ow, (List.nodup_append.mp nd).1, fun b hb => ?_⟩
    exact (st.sub b (List.mem_append_left _ hb)).elim (fun z => nomatch z) id
  | ex c env => rw [e] at s4; exact fun C σ' F' H' fp' m _ st sat' => s4 C F' H' m (ext st sat'.fh)
end
section
variable {X : Cx} {W : WX} {e : Expr} {es : List Expr} {pos p : Pos}
theorem de_call {k n : Nat} {f : Addr} {fd : FuncData} {ps : List Str} {x : Str} {m : List D → R Ow} {fa : Ev → R (List D)} (F : FnOk X.prog X.w X.K X.mg X.base (L2.CX X.prog X.w) k f fd ps (spM X.KK X.mg n m)) (tk : Takes X W) (hr : Room k X.A) (hg : Gl X x) (hm : X.mg x = some (.ref f))
    (hk : PySem.W.keepIn X.K (.ref f) = true) (hb : Binds X.K fd ps []) (ha : DA X W (e :: es) fa) (hn : ∀ ds env, fa env = .ok ds → ds.length = n)
    (hdb : (x == ("__debug__" : Str)) = false := by decide) (he : starEach (e :: es) X.env = (false, eval e X.env) :: starEach es X.env := by rfl) (hpl : (backTo pos (starEach es X.env)).any (·.1) = false := by rfl) :
    DE X W (.Call (.Name x p) (e :: es) [] pos) (eB fa m) := by
  obtain ⟨t, pa, s⟩ := ha
  refine ⟨_, pe_callS F hr hg hm hk hb (fun σ => passAt tk σ) pa hdb he hpl, fun F0 H σ env fp Q sat hp => ?_⟩
  refine s.choose sat hp (fun z => z _) fun ds ed k => k _ fun vs F1 H1 sat1 q _ h1 => ?_
  refine ⟨F1, ds, sat1.fh, q, hn ds env ed, ?_⟩
  cases em : m ds with
  | no => rw [em] at h1; exact h1
  | ok r => rw [em] at h1; exact h1
  | ex c => rw [em] at h1; exact h1
theorem aNil_len {ds : List D} {env : Ev} (h : aNil env = .ok ds) : ds.length = 0 := by cases h; rfl
theorem aCons_len {n : Nat} {f : Ev → R D} {g : Ev → R (List D)} (ih : ∀ ds env, g env = .ok ds → ds.length = n) : ∀ ds env, aCons f g env = .ok ds → ds.length = n + 1 := fun ds env h => by
  unfold aCons at h
  cases e1 : f env with
  | no => rw [e1] at h; cases h
  | ex c => rw [e1] at h; cases h
  | ok d =>
    rw [e1] at h
    have h' : (g env).map (fun ds => d :: ds) = .ok ds := h
    cases e2 : g env with
    | no => rw [e2] at h'; cases h'
    | ex c => rw [e2] at h'; cases h'
    | ok es =>
      rw [e2] at h'
      cases h'
      simp [ih es env e2]

/-- the reading that a mirror is -/
def tOf (K : Kw) (Pst : Hp → Hp → L2.St → R α → (β → Hp → Prop) → Prop) (f : Ev → R α) : L2.St → Hp → (β → Hp → Prop) → Prop := fun σ H Q => ∃ F env fp, Sat K F H σ env fp ∧ Pst F H σ (f env) Q
def W0 : WX := fun _ _ _ _ => False
theorem PE.imp {X : Cx} {e : Expr} {t t' : TE} (h : PE X e t) (k : ∀ σ H Q, t' σ H Q → t σ H Q) : PE X e t' := ⟨fun pins s σ H Q I q => h.run pins s σ H Q I (k σ H Q q)⟩
theorem PTs.imp {X : Cx} {e : List Expr} {t t' : TT} (h : PTs X e t) (k : ∀ σ H Q, t' σ H Q → t σ H Q) : PTs X e t' := ⟨fun pins s σ H Q I q => h.run pins s σ H Q I (k σ H Q q)⟩
theorem DE.can {X : Cx} {W : WX} {e : Expr} {f : Ev → R Ow} (h : DE X W e f) : PE X e (tOf X.KK (Post X W (POw X.KK)) f) := by
  obtain ⟨t, p, s⟩ := h
  refine PE.imp p ?_
  rintro σ H Q ⟨F, env, fp, sat, h⟩
  exact s F H σ env fp Q sat h
/-- a clause's tests -/
def DTs (X : Cx) (W : WX) (ifs : List Expr) (f : Ev → R Bool) : Prop := ∃ t, PTs X ifs t ∧ Sm X W PTb t f
def cYes (_ : Ev) : R Bool := .ok true
theorem dts_nil : DTs X W [] cYes := ⟨_, pts_nil, fun F H σ env fp Q sat h => h true F H (.refl sat.fh) rfl⟩
theorem DTs.can {X : Cx} {W : WX} {e : List Expr} {f : Ev → R Bool} (h : DTs X W e f) : L2.PTs X e (tOf X.KK (Post X W PTb) f) := by
  obtain ⟨t, p, s⟩ := h
  refine PTs.imp p ?_
  rintro σ H Q ⟨F, env, fp, sat, h⟩
  exact s F H σ env fp Q sat h
def wipeE (env : Ev) : List Nat → Ev
  | [] => env
  | v :: vs => (wipeE env vs).set v none
theorem set_none_len {α : Type} {l : List (Option α)} {i : Nat} (h : ¬ i < l.length) (x : Option α) : l.set i x = l := List.set_eq_of_length_le (by omega)
theorem wipe_sat {K : Kw} {F H : Hp} {σ : L2.St} {env : Ev} {fp : List Addr} (sat : Sat K F H σ env fp) : ∀ vs : List Nat, ∃ fp', Sat K F H (wipe σ vs) (wipeE env vs) fp' ∧ ∀ b ∈ fp', b ∈ fp
  | [] => ⟨fp, sat, fun _ z => z⟩
  | v :: vs => by
    obtain ⟨fp1, s1, h1⟩ := wipe_sat sat vs
    by_cases hi : v < (wipeE env vs).length
    · obtain ⟨fr, fo, a1, a2, a3, a3', a4, a5, a6⟩ := s1.en.put hi s1.nd
      have e3 := (a6 F H [] [] (StepS.of_ext (.refl sat.fh) []) fun _ _ => by simp).1 none
      exact ⟨fr, ⟨sat.fh, e3, a3⟩, fun b hb => h1 b (a1 b hb)⟩
    · refine ⟨fp1, ?_, h1⟩
      show Sat K F H ((wipe σ vs).set v none) ((wipeE env vs).set v none) fp1
      rw [set_none_len hi, set_none_len (by rw [s1.en.len]; exact hi)]
      exact s1
theorem wipe_get : ∀ (σ : L2.St) (vs : List Nat) (j : Nat), (wipe σ vs)[j]? = if j ∈ vs then (σ[j]?).map (fun _ => none) else σ[j]?
  | σ, [], j => by simp [wipe]
  | σ, v :: vs, j => by
    show ((wipe σ vs).set v none)[j]? = _
    by_cases hj : v = j
    · subst hj
      by_cases hl : v < (wipe σ vs).length
      · rw [List.getElem?_set_self hl]
        rw [wipe_length] at hl
        simp [List.getElem?_eq_getElem hl]
      · rw [set_none_len hl, wipe_get σ vs v]
        rw [wipe_length] at hl
        have e : σ[v]? = none := List.getElem?_eq_none (by omega)
        simp [e]
    · rw [List.getElem?_set_ne hj, wipe_get σ vs j]
      simp [Ne.symm hj]
theorem wipe_off {σ σ' : L2.St} {ix vs : List Nat} (h : Off ix (wipe σ vs) σ') (hs : ∀ i ∈ ix, i ∈ vs) : wipe σ' vs = wipe σ vs := by
  refine List.ext_getElem? fun j => ?_
  rw [wipe_get σ', wipe_get σ]
  by_cases hj : j ∈ vs
  · rw [if_pos hj, if_pos hj]
    have hl := h.1
    rw [wipe_length] at hl
    by_cases hb : j < σ.length
    · rw [List.getElem?_eq_getElem hb, List.getElem?_eq_getElem (by omega : j < σ'.length)]; rfl
    · rw [List.getElem?_eq_none (by omega), List.getElem?_eq_none (by omega)]
  · rw [if_neg hj, if_neg hj, h.2 j fun z => hj (hs j z), wipe_get σ, if_neg hj]
def noEx {α : Type} : R α → R α
  | .ex _ => .no
  | r => r
@[simp] theorem noEx_ok {α : Type} (a : α) : noEx (.ok a) = .ok a := rfl
def lcR (g : D → Ev → Option Ev) (c : Ev → R Bool) (e : Ev → R Ow) (env : Ev) : List D → R (List Ow)
  | [] => .ok []
  | d :: ds => match g d env with
    | none => .no
    | some env1 => (noEx (c env1)).bind fun b => if b = true then (noEx (e env1)).bind fun r => (lcR g c e env ds).map fun rs => r :: rs else lcR g c e env ds
def eLc (it : Ev → R (List D)) (g : D → Ev → Option Ev) (c : Ev → R Bool) (e : Ev → R Ow) (vs : List Nat) (env : Ev) : R Ow := (it env).bind fun ds => guard (ds.length ≤ sizeLine) ((noEx (lcR g c e (wipeE env vs) ds)).map Ow.l)
theorem OwnAll.snoc {K : Kw} {F H : Hp} {v : V} {r : Ow} {fr : List Addr} : ∀ {os : List Ow} {vs : List V} {fp : List Addr}, OwnAll K F H vs os fp → OwnAt K F H v r fr → fp.Nodup → fr.Nodup → (∀ b ∈ fr, b ∉ fp) → ∃ fp', OwnAll K F H (vs ++ [v]) (os ++ [r]) fp' ∧ fp'.Nodup ∧ ∀ b ∈ fp', b ∈ fp ∨ b ∈ fr
  | [], _, _, h, g, n1, n2, dj => by
    cases h
    exact ⟨fr ++ [], .cons g .nil, by simpa using n2, fun b hb => .inr (by simpa using hb)⟩
  | o :: os, _, _, h, g, n1, n2, dj => by
    cases h with
    | @cons _ _ _ _ f1 fs h1 h2 =>
      rw [List.nodup_append] at n1
      obtain ⟨m1, m2, m3⟩ := n1
      obtain ⟨fp', a, b, c⟩ := OwnAll.snoc h2 g m2 n2 fun b hb z => dj b hb (List.mem_append_right _ z)
      refine ⟨f1 ++ fp', .cons h1 a, ?_, fun x hx => ?_⟩
      · rw [List.nodup_append]
        refine ⟨m1, b, fun x hx y hy e => ?_⟩
        subst e
        rcases c x hy with z | z
        · exact m3 x hx x z rfl
        · exact dj x z (List.mem_append_left _ hx)
      · rcases List.mem_append.mp hx with z | z
        · exact .inl (List.mem_append_left _ z)
        · exact (c x z).imp (List.mem_append_right _) id
theorem de_lc_core {wi : TI} {g : D → Ev → Option Ev} {fi : Ev → R (List D)} {fc : Ev → R Bool} {fe : Ev → R Ow} {ix vs : List Nat} (si : Sm X W (PIt X.KK) wi fi) (hix : ∀ i ∈ ix, i ∈ vs) :
    Sm X W (POw X.KK) (tLc wi (tgOf X.KK ix g) (tOf X.KK (Post X W0 PTb) fc) (tOf X.KK (Post X W0 (POw X.KK)) fe) vs) (eLc fi g fc fe vs) := by
  intro F H σ env fp Q sat hp
  refine si.go sat hp fun items J F1 H1 sat1 wk _ h1 => ?_
  have wk : WalkF X.KK J F1 items := wk
  obtain ⟨hz, h2⟩ := guard_post h1
  intro Dd hD
  have hD1 : F1 Dd = none := free_of sat1.fh hD
  cases el : lcR g fc fe (wipeE env vs) items with
  | no => rw [el] at h2; exact h2.elim
  | ex c => rw [el] at h2; exact h2.elim
  | ok all =>
  rw [el] at h2
  have h2 : ∀ v F' H', Ext F1 H1 F' H' → POw X.KK H1 (.l all) v F' H' → Q v H' := h2
  let Iv : Nat → Hp → Prop := fun i H' => ∃ F' acc accO fa rest, Ext F1 H1 F' H' ∧ F' Dd = none ∧ H' Dd = some (.lst acc) ∧ OwnAll X.KK F' H' acc accO fa ∧ fa.Nodup ∧ Dd ∉ fa ∧ accO.length ≤ i ∧ (∀ b ∈ fa, H1 b = none) ∧ lcR g fc fe (wipeE env vs) (items.drop i) = .ok rest ∧ all = accO ++ rest
  refine ⟨fun i m H' => m = items.length - i ∧ i ≤ items.length ∧ Iv i H', ⟨items.length, by simp, Nat.zero_le _, F1, [], [], [], all, Ext.own sat1.fh hD _, hD1, upd_same, .nil, List.nodup_nil, by simp, Nat.le_refl _, (fun b z => nomatch z), el, rfl⟩, ?_⟩
  rintro i m H' ⟨rfl, hi, F', acc, accO, fa, rest, x, fD, hDd, ow, nd, nD, hl, fr, er, ea⟩
  by_cases hlt : i < items.length
  · refine .inr ⟨wk.go i F' H' hlt x.ff x.fh, Iv (i + 1), fun H2 z => ⟨items.length - (i + 1), by omega, rfl, hlt, z⟩, fun v H3 y => ?_⟩
    obtain ⟨d, F3, e1, x3, dp⟩ := wk.yld i F' H' v H3 hlt x.ff x.fh y
    have ed : items.drop i = d :: items.drop (i + 1) := by
      rw [List.drop_eq_getElem_cons hlt]
      have : items[i] = d := by rw [List.getElem?_eq_getElem hlt] at e1; exact Option.some.inj e1
      rw [this]
    rw [ed] at er
    unfold lcR at er
    cases eg : g d (wipeE env vs) with
    | none => rw [eg] at er; cases er
    | some env1 =>
    rw [eg] at er
    simp only at er
    obtain ⟨fpw, satw, subw⟩ := wipe_sat (sat1.ext (x.trans x3)) vs
    refine ⟨F3, _, fpw, d, env1, satw, dp, eg, fun σ2 fp2 sat2 sub2 off2 => ⟨wipe_off off2 hix, F3, env1, fp2, sat2, ?_⟩⟩
    cases ec : fc env1 with
    | no => rw [ec] at er; cases er
    | ex c => rw [ec] at er; cases er
    | ok b =>
    rw [ec] at er
    simp only [noEx_ok, R.bind_ok] at er
    intro v4 F4 H4 x4 ev4
    obtain rfl : v4 = b := ev4
    have xx4 := x3.trans x4
    cases v4 with
    | false =>
      rw [if_neg Bool.false_ne_true] at er ⊢
      have g1 := x.trans xx4
      refine ⟨F4, acc, accO, fa, rest, g1, ?_, xx4.hh _ _ hDd, ow.ext xx4, nd, nD, Nat.le_succ_of_le hl, fr, er, ea⟩
      cases q : F4 Dd with
      | none => rfl
      | some u =>
        rcases xx4.fn Dd u q with z | z
        · rw [fD] at z; cases z
        · rw [hDd] at z; cases z
    | true =>
      rw [if_pos rfl] at er ⊢
      refine ⟨F4, env1, fp2, sat2.ext x4, ?_⟩
      cases ee : fe env1 with
      | no => rw [ee] at er; cases er
      | ex c => rw [ee] at er; cases er
      | ok r =>
      rw [ee] at er
      simp only [noEx_ok, R.bind_ok] at er
      intro y5 F5 H5 x5 ⟨fr5, ow5, nd5, fresh5⟩
      have xx := xx4.trans x5
      have hD5 : H5 Dd = some (.lst acc) := xx.hh _ _ hDd
      have fD5 : F5 Dd = none := by
        cases q : F5 Dd with
        | none => rfl
        | some u =>
          rcases xx.fn Dd u q with z | z
          · rw [fD] at z; cases z
          · rw [hDd] at z; cases z
      have nD5 : Dd ∉ fr5 := fun z => by
        have := fresh5 Dd z
        rw [xx4.hh _ _ hDd] at this; cases this
      cases er2 : lcR g fc fe (wipeE env vs) (items.drop (i + 1)) with
      | no => rw [er2] at er; cases er
      | ex c => rw [er2] at er; cases er
      | ok rest2 =>
      rw [er2] at er
      cases er
      have la := OwnAll.len ow
      have stp : StepS F5 H5 [Dd] F5 (upd H5 Dd (.lst (acc ++ [y5]))) [] := ⟨Same.refl _, fun b o e n => by rw [upd_ne (fun z => n (by simp [z]))]; exact e, fun b o e => .inl e, fun b z => nomatch z⟩
      obtain ⟨fa', ow', nd', sub'⟩ := OwnAll.snoc (OwnAll.keep stp _ _ _ (ow.ext xx) fun b hb => by simp; exact fun z => nD (z ▸ hb)) (OwnAt.keep stp _ _ _ ow5 fun b hb => by simp; exact fun z => nD5 (z ▸ hb)) nd nd5 fun b hb z => by
        obtain ⟨_, vs', e⟩ := OwnAll.there _ _ _ ow b z
        have := xx4.hh.free (fresh5 b hb)
        rw [e] at this; cases this
      refine ⟨acc, hD5, by omega, F5, acc ++ [y5], accO ++ [r], fa', rest2, ⟨(x.trans xx).ff, fun b o e => ?_, (x.trans xx).fn, fun b o e => ?_⟩, fD5, upd_same, ow', nd', ?_, by simp; omega, fun b hb => ?_, er2, by simp [ea]⟩
      · rw [upd_ne (ne_of_none e hD)]; exact (x.trans xx).hh b o e
      · rw [upd_ne (ne_of_none e fD5)]; exact xx.fh b o e
      · intro z
        rcases sub' _ z with q | q
        · exact nD q
        · exact nD5 q
      · rcases sub' b hb with q | q
        · exact fr b q
        · exact x.hh.free (xx4.hh.free (fresh5 b q))
  · have e : i = items.length := by omega
    subst e
    rw [List.drop_length] at er
    cases er
    refine .inl ⟨wk.stop F' H' x.ff x.fh, h2 _ F' H' x ⟨Dd :: fa, ?_, List.nodup_cons.mpr ⟨nD, nd⟩, fun b hb => ?_⟩⟩
    · rw [ea, List.append_nil]; exact .l fD hDd ow
    · rcases List.mem_cons.mp hb with z | z
      · rw [z]; exact hD
      · exact fr b z
theorem de_lc {elt tg iter : Expr} {ifs : List Expr} {scope : Scope} {own : List (Str × Nat)} {g : D → Ev → Option Ev} {fi : Ev → R (List D)} {fc : Ev → R Bool} {fe : Ev → R Ow} {ix : List Nat} (hc : X.calm = true) (hN : X.N.Nodup) (hi : DI X W tg iter fi) (ok : BlkOk X.N X.env.scope scope own)
    (hg : ∀ (s : Shared) (H : Hp) (C : Addr) (cl : List (Str × Addr)) (fp : List Addr), DG (X.blk s H scope (compEnvC scope cl C X.env) fp) tg ix g) (ht : ∀ (s : Shared) (H : Hp) (C : Addr) (cl : List (Str × Addr)) (fp : List Addr), DTs (X.blk s H scope (compEnvC scope cl C X.env) fp) W0 ifs fc)
    (he : ∀ (s : Shared) (H : Hp) (C : Addr) (cl : List (Str × Addr)) (fp : List Addr), DE (X.blk s H scope (compEnvC scope cl C X.env) fp) W0 elt fe) (hix : ∀ i ∈ ix, i ∈ own.map (·.2) := by decide) (hs : ∀ x, foldedSetIterable iter X.env x = pure x := by intro _; rfl) :
    DE X W (.ListComp elt [⟨tg, iter, ifs, 0⟩] scope pos) (eLc fi g fc fe (own.map (·.2))) := by
  obtain ⟨wi, pi, si⟩ := hi
  exact ⟨_, pe_lc (g := tgOf X.KK ix g) hc hN pi ok (fun s H C cl fp => hg s H C cl fp) (fun s H C cl fp => (ht s H C cl fp).can) (fun s H C cl fp => (he s H C cl fp).can) hs, de_lc_core si hix⟩
end
end Mir
end
set_option Elab.async false
set_option linter.all false
set_option maxRecDepth 100000
set_option maxHeartbeats 4000000
noncomputable section
namespace Mir
open PySem PySem.Spec L2

section
variable {K : Kw} {F H : Hp} {σ : L2.St} {env : Ev} {fp : List Addr}
theorem set_self {σ : L2.St} {i : Nat} {v : V} (h : σ[i]? = some (some v)) : σ.set i (some v) = σ := by
  refine List.ext_getElem? fun j => ?_
  by_cases hj : i = j
  · subst hj
    rw [List.getElem?_set_self (List.getElem?_eq_some_iff.mp h).1]
    exact h.symm
  · rw [List.getElem?_set_ne hj]
theorem mut_step {F H F1 H1 : Hp} {a : Addr} {vs vs' : List V} (x : Ext F H F1 H1) (h : H a = some (.lst vs)) : StepS F H [a] F1 (upd H1 a (.lst vs')) [] :=
  ⟨x.ff, fun b o e n => by rw [upd_ne (fun z => n (by simp [z]))]; exact x.hh b o e, fun b o e => (x.fn b o e).imp id .inr, fun b z => nomatch z⟩
theorem mut_free {F H F1 H1 : Hp} {a : Addr} {vs : List V} (x : Ext F H F1 H1) (hf : F a = none) (h : H a = some (.lst vs)) : F1 a = none := by
  cases q : F1 a with
  | none => rfl
  | some u =>
    rcases x.fn a u q with z | z
    · rw [hf] at z; cases z
    · rw [h] at z; cases z
theorem mut_same {F1 H1 : Hp} {a : Addr} {o : HO} (s : Same F1 H1) (hf : F1 a = none) : Same F1 (upd H1 a o) := fun b u e => by
  rw [upd_ne (ne_of_none e hf)]; exact s b u e
/-- the list in slot i, and what is left when it is changed -/
theorem Sat.mut (sat : Sat K F H σ env fp) {i : Nat} {os : List Ow} (hi : env[i]? = some (some (.l os))) : ∃ a vs fo, σ[i]? = some (some (.ref a)) ∧ F a = none ∧ H a = some (.lst vs) ∧ OwnAll K F H vs os fo ∧ fo.Nodup ∧ a ∉ fo ∧ (∀ b ∈ a :: fo, b ∈ fp) ∧
    ∀ F1 H1 vs' os' fo', Ext F H F1 H1 → OwnAll K F1 (upd H1 a (.lst vs')) vs' os' fo' → fo'.Nodup → (∀ b ∈ fo', b ∈ fo ∨ H b = none) → ∃ fp', StepS F H fp F1 (upd H1 a (.lst vs')) fp' ∧ Sat K F1 (upd H1 a (.lst vs')) σ (env.set i (some (.l os'))) fp' := by
  have hl : i < env.length := (List.getElem?_eq_some_iff.mp hi).1
  obtain ⟨fr, fo0, a1, a2, a3, a3', a4, a5, a6⟩ := sat.en.put hl sat.nd
  obtain ⟨v, e1, e2⟩ := a5 _ hi
  cases e2 with
  | @l a vs _ fo h1 h2 h3 =>
    obtain ⟨nd1, nd2⟩ := List.nodup_cons.mp a3'
    refine ⟨a, vs, fo, e1, h1, h2, h3, nd2, nd1, a2, fun F1 H1 vs' os' fo' x ow nd sub => ?_⟩
    have hf1 := mut_free x h1 h2
    have na' : a ∉ fo' := fun z => by
      rcases sub a z with q | q
      · exact nd1 q
      · rw [h2] at q; cases q
    have fresh : ∀ b, H b = none → b ∉ fr := fun b q z => by
      obtain ⟨_, w, e⟩ := sat.en.there b (a1 b z)
      rw [q] at e; cases e
    obtain ⟨fp', b1, b2, b3⟩ := (a6 F1 (upd H1 a (.lst vs')) [a] [] (mut_step x h2) fun b hb z => a4 b (by rw [List.mem_singleton.mp z]; exact List.mem_cons_self) hb).2 (.ref a) (.l os') (a :: fo') (.l hf1 upd_same ow) (List.nodup_cons.mpr ⟨na', nd⟩) fun b hb z => by
      rcases List.mem_cons.mp hb with q | q
      · subst q; exact a4 b List.mem_cons_self z
      · rcases sub b q with q | q
        · exact a4 b (List.mem_cons_of_mem _ q) z
        · exact fresh b q z
    rw [set_self e1] at b3
    refine ⟨fp', (mut_step x h2).mono (fun b hb => by rw [List.mem_singleton.mp hb]; exact a2 a List.mem_cons_self) |> fun s => ⟨s.ff, s.fr, s.fn, fun b hb => ?_⟩, mut_same x.fh hf1, b3, b1⟩
    rcases b2 b hb with q | q
    · rcases List.mem_cons.mp q with q | q
      · rw [q]; exact .inl (a2 a List.mem_cons_self)
      · rcases sub b q with q | q
        · exact .inl (a2 b (List.mem_cons_of_mem _ q))
        · exact .inr q
    · exact .inl (a1 b q)
/-- the items of an own list, behind a change at the list itself -/
theorem own_mut {F1 H1 : Hp} {a : Addr} {vs vs' : List V} {os : List Ow} {fo : List Addr} (x : Ext F H F1 H1) (h : H a = some (.lst vs)) (ow : OwnAll K F H vs os fo) (na : a ∉ fo) : OwnAll K F1 (upd H1 a (.lst vs')) vs os fo :=
  OwnAll.keep (mut_step x h) _ _ _ ow fun b hb z => na (by rw [← List.mem_singleton.mp z]; exact hb)
theorem own_mut1 {F1 H1 : Hp} {a : Addr} {vs vs' : List V} {v : V} {r : Ow} {fx : List Addr} (s : Same F1 H1) (hf : F1 a = none) (h : H1 a = some (.lst vs)) (ow : OwnAt K F1 H1 v r fx) (na : a ∉ fx) : OwnAt K F1 (upd H1 a (.lst vs')) v r fx :=
  OwnAt.keep (mut_step (.refl s) h) _ _ _ ow fun b hb z => na (by rw [← List.mem_singleton.mp z]; exact hb)
theorem OwnAll.get {F H : Hp} : ∀ {os : List Ow} {vs : List V} {fp : List Addr} {k : Nat} {o : Ow}, OwnAll K F H vs os fp → fp.Nodup → os[k]? = some o → ∃ (v : V) (fo fr : List Addr), vs[k]? = some v ∧ OwnAt K F H v o fo ∧ fo.Nodup ∧ fr.Nodup ∧ (∀ b ∈ fo, b ∈ fp) ∧ (∀ b ∈ fr, b ∈ fp) ∧ (∀ b ∈ fo, b ∉ fr) ∧
    ∀ F' H' fx fy v' o' fn, StepS F H fx F' H' fy → (∀ b ∈ fr, b ∉ fx) → OwnAt K F' H' v' o' fn → fn.Nodup → (∀ b ∈ fn, b ∉ fr) → ∃ fp', OwnAll K F' H' (vs.set k v') (os.set k o') fp' ∧ fp'.Nodup ∧ ∀ b ∈ fp', b ∈ fn ∨ b ∈ fr
  | [], _, _, k, o, h, nd, e => by simp at e
  | x :: os, _, _, 0, o, h, nd, e => by
    cases h with
    | @cons v vs _ _ f1 fs h1 h2 =>
      simp at e; subst e
      obtain ⟨n1, n2, n3⟩ := List.nodup_append.mp nd
      refine ⟨v, f1, fs, rfl, h1, n1, n2, fun b z => List.mem_append_left _ z, fun b z => List.mem_append_right _ z, fun b z q => n3 b z b q rfl, fun F' H' fx fy v' o' fn st dj ow nf df => ?_⟩
      refine ⟨fn ++ fs, .cons ow (OwnAll.keep st _ _ _ h2 dj), ?_, fun b hb => List.mem_append.mp hb⟩
      rw [List.nodup_append]
      exact ⟨nf, n2, fun a ha b hb e => df a ha (e ▸ hb)⟩
  | x :: os, _, _, k + 1, o, h, nd, e => by
    cases h with
    | @cons v vs _ _ f1 fs h1 h2 =>
      obtain ⟨n1, n2, n3⟩ := List.nodup_append.mp nd
      obtain ⟨v0, fo, fr, g1, g2, g3, g4, g5, g6, g7, g8⟩ := OwnAll.get (k := k) h2 n2 (by simpa using e)
      refine ⟨v0, fo, f1 ++ fr, by simpa using g1, g2, g3, ?_, fun b z => List.mem_append_right _ (g5 b z), fun b z => ?_, fun b z q => ?_, fun F' H' fx fy v' o' fn st dj ow nf df => ?_⟩
      · rw [List.nodup_append]; exact ⟨n1, g4, fun a ha b hb e => n3 a ha b (g6 b hb) e⟩
      · exact (List.mem_append.mp z).elim (List.mem_append_left _) fun z => List.mem_append_right _ (g6 b z)
      · rcases List.mem_append.mp q with q | q
        · exact n3 b q b (g5 b z) rfl
        · exact g7 b z q
      · obtain ⟨fp', c1, c2, c3⟩ := g8 F' H' fx fy v' o' fn st (fun b hb => dj b (List.mem_append_right _ hb)) ow nf fun b hb z => df b hb (List.mem_append_right _ z)
        refine ⟨f1 ++ fp', .cons (OwnAt.keep st _ _ _ h1 fun b hb => dj b (List.mem_append_left _ hb)) c1, ?_, fun b hb => ?_⟩
        · rw [List.nodup_append]
          refine ⟨n1, c2, fun a ha b hb e => ?_⟩
          subst e
          rcases c3 a hb with z | z
          · exact df a z (List.mem_append_left _ ha)
          · exact n3 a ha a (g6 a z) rfl
        · rcases List.mem_append.mp hb with z | z
          · exact .inr (List.mem_append_left _ z)
          · exact (c3 b z).imp id (List.mem_append_right _)
end
section
variable {X : Cx} {W : WX} {S : Nat → Bool} {e e1 e2 : Expr} {pos cpos apos npos : Pos} {x : Str}
def ownL (i : Nat) (env : Ev) (k : List Ow → SR) : SR := match env[i]? with
  | some (some (.l os)) => k os
  | _ => .no
theorem ownL_post {σ : L2.St} {F H : Hp} {fp : List Addr} {D : Ends} {i : Nat} {env : Ev} {k : List Ow → SR} (h : PostS X W S σ F H fp D (ownL i env k)) : ∃ os, env[i]? = some (some (.l os)) ∧ PostS X W S σ F H fp D (k os) := by
  unfold ownL at h
  split at h
  · exact ⟨_, ‹_›, h⟩
  · exact h.elim
/-- x.append(e) -/
def sApp (i : Nat) (f : Ev → R Ow) (env : Ev) : SR := ownL i env fun os => (f env).st env fun r => if os.length < sizeLine then .nx (env.set i (some (.l (os ++ [r])))) else .no
theorem ds_app {f : Ev → R Ow} (i : Nat) (he : DE X W e f) (hN : X.N[i]? = some x := by rfl) (hv : Vis X.env.scope x := by first | exact Or.inl rfl | exact Or.inr (Or.inl rfl) | exact Or.inr (Or.inr rfl)) (hd : (x == ("__debug__" : Str)) = false := by decide) (hcd : (x == ("__classdict__" : Str)) = false := by decide)
    (hbase : attributeBase (.Name x npos) "append" X.env (eval (.Name x npos) X.env) = eval (.Name x npos) X.env := by rfl)
    (hfew : ((backTo cpos (starEach [e] X.env)).all (fun x => !x.1) && (backToKw cpos (keywordEach [] X.env)).all (fun x => x.1.isSome) && decide ([e].length + ([] : List Keyword).length + (if ([] : List Keyword).isEmpty then 0 else 1) < 30)) = true := by rfl)
    (hline : (apos.endLine == cpos.line) = true := by rfl) (hs : starEach [e] X.env = (false, eval e X.env) :: starEach [] X.env := by rfl) (hplain : (backTo cpos (starEach [] X.env)).any (·.1) = false := by rfl)
    (hsw : swapsWith (.Call (.Attribute (.Name x npos) "append" apos) [e] [] cpos) none pos.line X.env = pure false := by rfl) : DS X W S (.Expr (.Call (.Attribute (.Name x npos) "append" apos) [e] [] cpos) pos) (sApp i f) := by
  obtain ⟨t, p, s⟩ := he
  refine ⟨_, ps_expr (pe_bm PySem.F.plainAttrs_list PySem.F.slot_list_append PySem.F.type_list_append mt_append (pe_var hN hv hd hcd) (pa_cons p pa_nil hs) hbase hfew hline hs hplain) hsw, fun F H σ env fp D sat h => ?_⟩
  obtain ⟨os, eo, h⟩ := ownL_post h
  obtain ⟨a, vs, fo, c1, c0, c2, c3, c4, c5, c6, c7⟩ := sat.mut eo
  refine ⟨.ref a, c1, .inl ⟨rfl, vs, SqL.of c2⟩, ?_⟩
  refine s F H σ env fp _ sat ?_
  cases ef : f env with
  | no => rw [ef] at h; exact h
  | ex c => rw [ef] at h; exact fun C F' H' m x => h C σ F' H' fp m (.refl _ _) (StepS.of_ext x fp) (sat.ext x)
  | ok r =>
    rw [ef] at h
    intro v F1 H1 x1 ⟨fx, ow, nx, fr⟩
    have h2 : PostS X W S σ F H fp D (if os.length < sizeLine then .nx (env.set i (some (.l (os ++ [r])))) else .no) := h
    split at h2
    · have la := OwnAll.len c3
      have hb := x1.hh _ _ c2
      obtain ⟨fo', g1, g2, g3⟩ := OwnAll.snoc (own_mut (vs' := vs ++ [v]) x1 c2 c3 c5) (own_mut1 x1.fh (mut_free x1 c0 c2) hb ow fun z => by rw [fr a z] at c2; cases c2) c4 nx fun b hb z => by
        obtain ⟨_, w, e⟩ := OwnAll.there _ _ _ c3 b z
        rw [fr b hb] at e; cases e
      obtain ⟨fp', st, sat'⟩ := c7 F1 H1 (vs ++ [v]) (os ++ [r]) fo' x1 g1 g2 fun b hb => (g3 b hb).imp id (fr b)
      exact ⟨a, vs, v, rfl, rfl, hb, by omega, h2 σ F1 _ fp' (.refl _ _) st sat'⟩
    · exact h2.elim
/-- x.extend(e) -/
theorem list_extW (l b : Addr) (its jts : Array Value) (n n2 : Nat) (dd2 : Option Addr) (sl2 : Array (Option Value)) (h0 : ¬(!its.isEmpty && Builtin.List.listTooLong (its.size + jts.size)) = true) (h1 : its.size ≤ sizeLine) (h2 : its.size + jts.size ≤ sizeLine + 1) :
    Meets (Builtin.«list.extend» ⟨[.ref l, .ref b], []⟩) (fun _ R s => s.heap.get? l = some { cls := .type "list", data := .seq its n } ∧ s.heap.get? b = some { cls := .type "list", dict := dd2, data := .seq jts n2, slots := sl2 } ∧ R (.ok (.ret Value.none)) { s with heap := s.heap.update l (Obj.mapSeq fun x => x ++ jts), toks := s.toks }) :=
  .of_wp fun prog w A R s h => by
    obtain ⟨hp, g, d, tk, os⟩ := s; obtain ⟨hl, hb, h⟩ := h; have f1 := AutoSeq1.idx_int; have f2 := AutoSeq1.sub_tuple_tuple; have f3 := AutoSeq1.sub_list_list; have f4 := AutoSeq1.sub_tuple_list; have f5 := AutoSeq1.sub_list_tuple; have hz' : (its ++ jts).size ≤ sizeLine + 1 := by rw [Array.size_append]; exact h2
    wp_walk using (wpAny_updateSeq hl rfl (hz := h1) (_hz' := hz')), wpAny_loadPart' hl, wpAny_loadPart' hb; exact ⟨_, rfl, h⟩
def rExtA (K : Kw) : V → List V → Hp → VK → Prop := fun x vs H Q => ∃ l b xs zs, x = .ref l ∧ vs = [.ref b] ∧ H l = some (.lst xs) ∧ SqL K H b zs ∧ xs.length + zs.length ≤ sizeLine ∧ Q .non (upd H l (.lst (xs ++ zs)))
theorem mt_extA : MtR X "list.extend" (rExtA X.KK) := by
  intro pins s σ H x vs v us Q I rx rv h
  obtain ⟨l, b, xs, zs, rfl, rfl, hH, hB, hz, q⟩ := h
  cases rx
  obtain ⟨u, rfl, ru⟩ := rv.one
  cases ru
  obtain ⟨z, its, n, r, hl, e⟩ := I.lstM hH
  obtain ⟨jts, r2, pl2, hl2⟩ := I.list hB
  obtain ⟨⟨c2, d2, t2, s2⟩, g2, k2, n2, m2⟩ := pl2.isList
  simp only at k2 m2
  subst k2 m2
  have lz := r2.length
  have hsz : its.toArray.size + jts.toArray.size ≤ sizeLine := by rw [List.size_toArray, List.size_toArray]; omega
  have hlong : ¬ (!its.toArray.isEmpty && Builtin.List.listTooLong (its.toArray.size + jts.toArray.size)) = true := by rw [notLongL hsz, Bool.and_false]; exact Bool.false_ne_true
  refine call_meets F.slot_list_extend ⟨_, e, rfl⟩ F.entry_list_extend (F.args_list_extend_2 _ _) (list_extW l b its.toArray jts.toArray n n2 d2 s2 hlong (by rw [List.size_toArray]; omega) (by omega)) ⟨e, g2, ?_⟩
  refine ⟨.non, _, I.lset (its' := its ++ jts) hH e (by simp) (r.append r2) ?_, rfl, q⟩
  rw [List.length_append]; omega
def asL : D → R (List D)
  | .list ds => .ok ds
  | _ => .no
@[simp] theorem asL_list (ds : List D) : asL (.list ds) = .ok ds := rfl
theorem OwnAll.app_d {K : Kw} {F H : Hp} {ws : List V} {es : List D} : ∀ {os : List Ow} {vs : List V} {fp : List Addr}, OwnAll K F H vs os fp → DpAll K F ws es → OwnAll K F H (vs ++ ws) (os ++ es.map Ow.d) fp
  | [], _, _, h, g => by cases h; exact OwnAll.of_dp g
  | o :: os, _, _, h, g => by
    cases h with
    | cons h1 h2 => exact .cons h1 (OwnAll.app_d h2 g)
def sExt (i : Nat) (f : Ev → R D) (env : Ev) : SR := ownL i env fun os => (f env).st env fun d => (asL d).st env fun ds => if os.length + ds.length ≤ sizeLine then .nx (env.set i (some (.l (os ++ ds.map Ow.d)))) else .no
theorem ds_ext {f : Ev → R D} (i : Nat) (he : DL X W e f) (hN : X.N[i]? = some x := by rfl) (hv : Vis X.env.scope x := by first | exact Or.inl rfl | exact Or.inr (Or.inl rfl) | exact Or.inr (Or.inr rfl)) (hd : (x == ("__debug__" : Str)) = false := by decide) (hcd : (x == ("__classdict__" : Str)) = false := by decide)
    (hbase : attributeBase (.Name x npos) "extend" X.env (eval (.Name x npos) X.env) = eval (.Name x npos) X.env := by rfl)
    (hfew : ((backTo cpos (starEach [e] X.env)).all (fun x => !x.1) && (backToKw cpos (keywordEach [] X.env)).all (fun x => x.1.isSome) && decide ([e].length + ([] : List Keyword).length + (if ([] : List Keyword).isEmpty then 0 else 1) < 30)) = true := by rfl)
    (hline : (apos.endLine == cpos.line) = true := by rfl) (hs : starEach [e] X.env = (false, eval e X.env) :: starEach [] X.env := by rfl) (hplain : (backTo cpos (starEach [] X.env)).any (·.1) = false := by rfl)
    (hsw : swapsWith (.Call (.Attribute (.Name x npos) "extend" apos) [e] [] cpos) none pos.line X.env = pure false := by rfl) : DS X W S (.Expr (.Call (.Attribute (.Name x npos) "extend" apos) [e] [] cpos) pos) (sExt i f) := by
  obtain ⟨t, p, s⟩ := he
  refine ⟨_, ps_expr (pe_bm PySem.F.plainAttrs_list PySem.F.slot_list_extend PySem.F.type_list_extend mt_extA (pe_var hN hv hd hcd) (pa_cons p pa_nil hs) hbase hfew hline hs hplain) hsw, fun F H σ env fp D sat h => ?_⟩
  obtain ⟨os, eo, h⟩ := ownL_post h
  obtain ⟨a, vs, fo, c1, c0, c2, c3, c4, c5, c6, c7⟩ := sat.mut eo
  refine ⟨.ref a, c1, .inl ⟨rfl, vs, SqL.of c2⟩, ?_⟩
  refine s F H σ env fp _ sat ?_
  cases ef : f env with
  | no => rw [ef] at h; exact h
  | ex c => rw [ef] at h; exact fun C F' H' m x => h C σ F' H' fp m (.refl _ _) (StepS.of_ext x fp) (sat.ext x)
  | ok d =>
    rw [ef] at h
    intro v F1 H1 x1 q
    have h1 : PostS X W S σ F H fp D ((asL d).st env fun ds => if os.length + ds.length ≤ sizeLine then .nx (env.set i (some (.l (os ++ ds.map Ow.d)))) else .no) := h
    cases d with
    | list ds =>
      have h2 : PostS X W S σ F H fp D (if os.length + ds.length ≤ sizeLine then .nx (env.set i (some (.l (os ++ ds.map Ow.d)))) else .no) := h1
      split at h2
      · obtain ⟨b, ws, rfl, q1, q2⟩ := q
        have la := OwnAll.len c3
        have lb := DpAll.len q2
        obtain ⟨fp', st, sat'⟩ := c7 F1 H1 (vs ++ ws) (os ++ ds.map Ow.d) fo x1 (OwnAll.app_d (own_mut (vs' := vs ++ ws) x1 c2 c3 c5) q2) c4 fun b hb => .inl hb
        exact ⟨a, b, vs, ws, rfl, rfl, x1.hh _ _ c2, q1, by omega, h2 σ F1 _ fp' (.refl _ _) st sat'⟩
      · exact h2.elim
    | _ => exact h1.elim
/-- x[k] = e -/
def putAt (i : Nat) (env : Ev) (os : List Ow) (r : Ow) : D → SR
  | .int k => match ixN os.length k with
    | some j => .nx (env.set i (some (.l (os.set j r))))
    | none => .no
  | _ => .no
def sPut (i : Nat) (f : Ev → R Ow) (g : Ev → R D) (env : Ev) : SR := (f env).st env fun r => ownL i env fun os => (g env).st env (putAt i env os r)
theorem OwnAll.set {K : Kw} {F H : Hp} {os : List Ow} {vs : List V} {fp : List Addr} {j : Nat} {v : V} {r : Ow} {fx : List Addr} (s : Same F H) (h : OwnAll K F H vs os fp) (nd : fp.Nodup) (hj : j < os.length) (ow : OwnAt K F H v r fx) (nx : fx.Nodup) (dj : ∀ b ∈ fx, b ∉ fp) :
    ∃ fp', OwnAll K F H (vs.set j v) (os.set j r) fp' ∧ fp'.Nodup ∧ ∀ b ∈ fp', b ∈ fp ∨ b ∈ fx := by
  obtain ⟨v0, fo, fr, g1, g2, g3, g4, g5, g6, g7, g8⟩ := OwnAll.get (k := j) h nd (List.getElem?_eq_getElem hj)
  obtain ⟨fp', a, b, c⟩ := g8 F H [] [] v r fx (StepS.of_ext (.refl s) []) (fun _ _ => by simp) ow nx fun b hb z => dj b hb (g6 b z)
  exact ⟨fp', a, b, fun b hb => (c b hb).elim .inr fun z => .inl (g6 b z)⟩
theorem pg_subV {i : Nat} {ti : TE} {k : Expr} {tpos : Pos} (hk : PE X k ti) (hN : X.N[i]? = some x) (hv : Vis X.env.scope x) (hd : (x == ("__debug__" : Str)) = false) (hcd : (x == ("__classdict__" : Str)) = false)
    (ha : ∀ v, assign (.Subscript (.Name x npos) k tpos) X.env v = (do
      let ov ← holding [v] (eval (.Name x npos) X.env)
      let iv ← holding [v, ov] (eval k X.env)
      standAt tpos
      holding [v, ov, iv] (setItem ov iv v)
      release [v, ov, iv] [])) : PG X (.Subscript (.Name x npos) k tpos) (L2.gSub (tVar i) ti rSetL) := pg_sub (pe_var hN hv hd hcd) hk set_list ha
theorem ds_put {f : Ev → R Ow} {g : Ev → R D} {k : Expr} {tpos : Pos} (i : Nat) (he : DE X W e f) (hk : DF X W k g) (hN : X.N[i]? = some x := by rfl) (hv : Vis X.env.scope x := by first | exact Or.inl rfl | exact Or.inr (Or.inl rfl) | exact Or.inr (Or.inr rfl)) (hd : (x == ("__debug__" : Str)) = false := by decide) (hcd : (x == ("__classdict__" : Str)) = false := by decide)
    (ha : ∀ v, assign (.Subscript (.Name x npos) k tpos) X.env v = (do
      let ov ← holding [v] (eval (.Name x npos) X.env)
      let iv ← holding [v, ov] (eval k X.env)
      standAt tpos
      holding [v, ov, iv] (setItem ov iv v)
      release [v, ov, iv] []) := by intro _; rfl)
    (hs : swapsWithSole [.Subscript (.Name x npos) k tpos] e pos.line X.env = pure false := by rfl) (hw : swappedStores [.Subscript (.Name x npos) k tpos] e X.env = pure none := by rfl)
    (h1 : (assignEach [.Subscript (.Name x npos) k tpos] X.env).map (·.2) = [assign (.Subscript (.Name x npos) k tpos) X.env] := by rfl) : DS X W S (.Assign [.Subscript (.Name x npos) k tpos] e pos) (sPut i f g) := by
  obtain ⟨t, p, s⟩ := he
  obtain ⟨t', p', s'⟩ := hk
  refine ⟨_, ps_asg p (pg_subV p' hN hv hd hcd ha) hs hw h1, fun F H σ env fp D sat h => ?_⟩
  refine s F H σ env fp _ sat ?_
  unfold sPut at h
  cases ef : f env with
  | no => rw [ef] at h; exact h
  | ex c => rw [ef] at h; exact fun C F' H' m x => h C σ F' H' fp m (.refl _ _) (StepS.of_ext x fp) (sat.ext x)
  | ok r =>
    rw [ef] at h
    intro v F1 H1 x1 ⟨fx, ow, nx, fr⟩
    have h1 : PostS X W S σ F H fp D (ownL i env fun os => (g env).st env (putAt i env os r)) := h
    obtain ⟨os, eo, h2⟩ := ownL_post h1
    obtain ⟨a, vs, fo, c1, c0, c2, c3, c4, c5, c6, c7⟩ := sat.mut eo
    refine ⟨.ref a, c1, ?_⟩
    refine s' F1 H1 σ env fp _ (sat.ext x1) ?_
    cases eg : g env with
    | no => rw [eg] at h2; exact h2.elim
    | ex c => rw [eg] at h2; exact fun C F' H' m x => h2 C σ F' H' fp m (.refl _ _) (StepS.of_ext (x1.trans x) fp) (sat.ext (x1.trans x))
    | ok d =>
      rw [eg] at h2
      have h2 : PostS X W S σ F H fp D (putAt i env os r d) := h2
      intro w F2 H2 x2 q
      have x := x1.trans x2
      cases d with
      | int k =>
        cases hj : ixN os.length k with
        | none => unfold putAt at h2; simp only at h2; rw [hj] at h2; exact h2.elim
        | some j =>
          unfold putAt at h2; simp only at h2; rw [hj] at h2
          cases dp_int q
          have la := OwnAll.len c3
          have hb := x.hh _ _ c2
          have hjl : j < os.length := (ixN_seq hj).2.1
          have f2 := mut_free x c0 c2
          have na : a ∉ fx := fun z => by rw [fr a z] at c2; cases c2
          obtain ⟨fo', g1, g2, g3⟩ := OwnAll.set (j := j) (mut_same x.fh f2) (own_mut (vs' := vs.set j v) x c2 c3 c5) c4 hjl (own_mut1 (vs' := vs.set j v) x.fh f2 hb (ow.ext x2) na) nx fun b hb z => by
            obtain ⟨_, w, e⟩ := OwnAll.there _ _ _ c3 b z
            rw [fr b hb] at e; cases e
          obtain ⟨fp', st, sat'⟩ := c7 F2 H2 (vs.set j v) (os.set j r) fo' x g1 g2 fun b hb => (g3 b hb).imp id (fr b)
          exact ⟨a, vs, k, j, rfl, rfl, hb, by rw [la]; exact hj, h2 σ F2 _ fp' (.refl _ _) st sat'⟩
      | _ => exact h2.elim
end
end Mir
end
set_option Elab.async false
set_option linter.all false
set_option maxRecDepth 100000
set_option maxHeartbeats 4000000
noncomputable section
namespace Mir
open PySem PySem.Spec L2

def PAs (K : Kw) (_ : Hp) (r : Ow) (v : V) (F' H' : Hp) : Prop := ∃ fp, OwnAt K F' H' v r fp
instance {K : Kw} : Anti (PAs K) := ⟨fun _ h => h⟩
def DP (X : Cx) (W : WX) (e : Expr) (f : Ev → R Ow) : Prop := ∃ t, PE X e t ∧ Sm X W (PAs X.KK) t f
section
variable {X : Cx} {W : WX} {S : Nat → Bool} {e a b : Expr} {pos cpos apos npos : Pos} {x : Str}
theorem dp_var (i : Nat) {x : Str} (hN : X.N[i]? = some x := by rfl) (hv : Vis X.env.scope x := by first | exact Or.inl rfl | exact Or.inr (Or.inl rfl) | exact Or.inr (Or.inr rfl)) (hd : (x == ("__debug__" : Str)) = false := by decide)
    (hcd : (x == ("__classdict__" : Str)) = false := by decide) : DP X W (.Name x pos) (eVarO i) := by
  refine ⟨_, pe_var hN hv hd hcd, fun F H σ env fp Q sat h => ?_⟩
  have h' : Post X W (PAs X.KK) F H σ ((eVarO i env).bind fun o => .ok o) Q := by
    cases e : eVarO i env <;> rw [e] at h <;> exact h
  obtain ⟨o, he, _, h2⟩ := eVarO_ok h'
  obtain ⟨v, fo, h1, h3, _⟩ := sat.en.get he
  exact ⟨v, h1, h2 v F H (.refl sat.fh) ⟨fo, h3⟩⟩
def ixO : Ow → D → R Ow
  | .l os, .int k => match atI os k with
    | some o => .ok o
    | none => .no
  | _, _ => .no
def eIxO (f : Ev → R Ow) (g : Ev → R D) (env : Ev) : R Ow := (f env).bind fun o => (g env).bind fun d => ixO o d
theorem OwnAll.at {K : Kw} {F H : Hp} {os : List Ow} {vs : List V} {fp : List Addr} {k : Int} {o : Ow} (h : OwnAll K F H vs os fp) (e : atI os k = some o) : ∃ v fo, atI vs k = some v ∧ OwnAt K F H v o fo := by
  have hl := OwnAll.len h
  unfold atI at e ⊢
  rw [hl]
  cases hj : ixN os.length k with
  | none => rw [hj] at e; cases e
  | some j =>
    rw [hj] at e
    have e : os[j]? = some o := e
    have : ∀ {os : List Ow} {vs : List V} {fp : List Addr} {j : Nat}, OwnAll K F H vs os fp → os[j]? = some o → ∃ v fo, vs[j]? = some v ∧ OwnAt K F H v o fo := by
      intro os
      induction os with
      | nil => intro vs fp j h e; simp at e
      | cons q os ih =>
        intro vs fp j h e
        cases h with
        | cons h1 h2 =>
          cases j with
          | zero => simp at e; subst e; exact ⟨_, _, rfl, h1⟩
          | succ j =>
            obtain ⟨v, fo, a, b⟩ := ih h2 (by simpa using e)
            exact ⟨v, fo, by simpa using a, b⟩
    exact this h e
theorem dl_dp {f : Ev → R Ow} (h : DP X W e f) : DL X W e (eB f shD) := by
  obtain ⟨t, p, s⟩ := h
  refine ⟨t, p, fun F H σ env fp Q sat h => s F H σ env fp Q sat (Post.thru h fun d _ h' v F' H' x ⟨fp, q⟩ => ?_)⟩
  obtain ⟨r, e2⟩ := shD_ok h'
  rw [e2] at h'
  exact h' v F' H' x (own_seq x.fh q e2)
theorem dv_dp {f : Ev → R Ow} (h : DP X W e f) : DV X W e (eM f viewD) := by
  obtain ⟨t, p, s⟩ := h
  refine ⟨t, p, Sm.map s fun H o v F' H' sm ⟨fp, q⟩ => ⟨viewD o, rfl, OwnAt.view sm o v fp q⟩⟩

def repO : Ow → D → R Ow
  | .l os, .int k => match unDs os with
    | some ds => guard (-(2 ^ 63) ≤ k ∧ k < 2 ^ 63 ∧ os.length * k.toNat ≤ sizeLine) (.ok (.l ((List.replicate k.toNat ds).flatten.map Ow.d)))
    | none => .no
  | _, _ => .no
def eRep (f : Ev → R Ow) (g : Ev → R D) (env : Ev) : R Ow := (f env).bind fun o => (g env).bind fun d => repO o d
def eAug (h : D → D → Option D) (i : Nat) (f : Ev → R D) (env : Ev) : R D := (eVar i env).bind fun x => (f env).bind fun y => R.of (h x y)
def sAug (h : D → D → Option D) (i : Nat) (f : Ev → R D) (env : Ev) : SR := (eAug h i f env).st env fun d => if i < env.length then .nx (env.set i (some (.d d))) else .no
theorem ds_aug {f : Ev → R D} {g : D → D → Option D} {op : Operator} {r : R2} (i : Nat) (ho : OpR X (inplaceOp op) r) (hs : OpS X.KK r g) (hN : X.N.Nodup) (he : DV X W e f) (hi : X.N[i]? = some x := by rfl) (hx : Loc X.env.scope x := by first | exact Or.inl rfl | exact Or.inr rfl)
    (hf : X.fn x = true ∨ X.env.scope.names.lookup x = some .local := by first | exact .inl rfl | exact .inr rfl | assumption) (hS : S i = true := by rfl) : DS X W S (.AugAssign (.Name x npos) op e pos) (sAug g i f) := by
  obtain ⟨t, p, s⟩ := he
  refine ⟨_, ps_aug hN hi hx p ho hf, fun F H σ env fp D sat h => ?_⟩
  unfold sAug eAug at h
  cases e1 : eVar i env with
  | no => rw [e1] at h; exact h.elim
  | ex c => exact absurd e1 (by unfold eVar; split <;> intro z <;> cases z)
  | ok dx =>
    rw [e1] at h
    have e2 : env[i]? = some (some (.d dx)) := by
      unfold eVar at e1
      split at e1
      · rename_i d he; cases e1; exact he
      · cases e1
    obtain ⟨v, fo, h1, h2, _⟩ := sat.en.get e2
    refine ⟨v, h1, ?_⟩
    refine s F H σ env fp _ sat ?_
    cases ef : f env with
    | no => rw [ef] at h; exact h
    | ex c => rw [ef] at h; exact fun C F' H' m x => h C σ F' H' fp m (.refl _ _) (StepS.of_ext x fp) (sat.ext x)
    | ok dy =>
      rw [ef] at h
      have h : PostS X W S σ F H fp D ((R.of (g dx dy)).st env fun d => if i < env.length then .nx (env.set i (some (.d d))) else .no) := h
      intro u F1 H1 x1 q
      cases eg : g dx dy with
      | none => rw [eg] at h; exact h.elim
      | some dz =>
        rw [eg] at h
        have h : PostS X W S σ F H fp D (if i < env.length then .nx (env.set i (some (.d dz))) else .no) := h
        split at h
        · cases h2 with
          | d hd =>
            refine hs H1 v u dx dy dz _ (dpUp (dpUp hd x1.ff) x1.fh) q eg fun z q2 => ?_
            obtain ⟨fp', s1, s2⟩ := put_step sat x1 (.d (q2 F1)) List.nodup_nil (fun _ z => nomatch z) ‹_›
            exact h _ F1 H1 fp' (.set hS _) s1 s2
        · exact h.elim
end
end Mir
end
set_option Elab.async false
set_option linter.all false
set_option maxRecDepth 100000
set_option maxHeartbeats 4000000
noncomputable section
namespace Mir
open PySem PySem.Spec L2

section
variable {K : Kw} {F H : Hp} {σ : L2.St} {env : Ev} {fp : List Addr}
end
section
variable {X : Cx} {W : WX} {S : Nat → Bool} {e k : Expr} {pos cpos apos npos tpos : Pos} {x : Str}
end
end Mir
end
set_option Elab.async false
set_option linter.all false
set_option maxRecDepth 100000
set_option maxHeartbeats 4000000
noncomputable section
namespace Mir
open PySem PySem.Spec PySem.W PySem.Calls PyProof.Rows PySem.SeqAt

section
variable {prog : Program} {w : World} {A : Around} {E : Value → Shared → Prop} {s : Shared}
theorem call_tuple_lt {Q : Value → Shared → Prop} {l b : Addr} {items items2 : Array Value} {e r : Nat → Bool} (hl : s.heap.IsTuple l items) (hb : s.heap.IsTuple b items2)
    (he : ∀ j (h1 : j < items.size) (h2 : j < items2.size), SeqAt.EqAt A.in1 s items[j] items2[j] (e j)) (hr : ∀ j (h1 : j < items.size) (h2 : j < items2.size), e j = false → RcLt A.in1 s items[j] items2[j] (r j))
    (h : Q (.bool (firstLt e r (decide (items.size < items2.size)) (List.range (min items.size items2.size)))) s) : wpAny (model prog w) A (call (.builtin "tuple.__lt__") [.ref l, .ref b]) Q E s := by
  obtain ⟨⟨cls, dd, data, sl⟩, ho, hc, n, hd⟩ := id hl
  obtain ⟨⟨cls2, dd2, data2, sl2⟩, ho2, hc2, n2, hd2⟩ := id hb
  simp only at hc hd hc2 hd2
  subst hc hd hc2 hd2
  exact call_meets F.slot_tuple_lt ⟨_, ho, rfl⟩ F.entry_tuple_lt (F.args_tuple_lt_2 _ _) (tuple_ltAt l b items items2 n n2 dd dd2 sl sl2 e r)
    ⟨ho, ho2, he, hr, h⟩
theorem oneLt_tuples {xs ys : List PyData} {a b : Value} {as bs : List Addr} {Q : Bool → Shared → Prop} (ra : Reads s.heap a (.tuple xs) as) (rb : Reads s.heap b (.tuple ys) bs) (hal : alikeAll xs ys = true)
    (hu : A.units + min (PyData.tuple xs).depth (PyData.tuple ys).depth < cLine) (hq : Q (dataLt (.tuple xs) (.tuple ys)) s) : wpAny (model prog w) A (oneLt' true a b) Q E s := by
  cases ra with
  | @tuple l o vs n _ as₁ h1 h2 h3 h4 =>
    cases rb with
    | @tuple l' o' vs' n' _ bs₁ k1 k2 k3 k4 =>
      have n1 : vs.size = xs.length := by simpa using SeqAt.ReadsAll.length _ _ _ h4
      have n2 : vs'.size = ys.length := by simpa using SeqAt.ReadsAll.length _ _ _ k4
      rw [dataLt_tuple, ← firstLt_toks xs ys hal, ← n1, ← n2] at hq
      rw [oneLt'_eq]
      simp only [if_true]
      refine wpAny_bind (wpAny_cRoomFor (SeqAt.room_here hu) ?_)
      refine wpAny_bind (wpAny_callSpecialIfBound?_slot (T := "tuple") ⟨_, h1, h2⟩ F.slot_tuple_lt (call_tuple_lt (e := SeqAt.pairEq xs ys) (r := fun j => dataLt (xs.getD j .none) (ys.getD j .none)) ⟨_, h1, h2, _, h3⟩ ⟨_, k1, k2, _, k3⟩ (fun j j1 j2 => ?_) (fun j j1 j2 hj => ?_) ?_))
      · have := eqAt_alikeAll xs ys A.in1 s vs.toList vs'.toList _ _ h4 k4 hal (SeqAt.room_in hu) j (by simpa using j1) (by simpa using j2)
        simpa using this
      · have := rcLt_alikeAll xs ys A.in1 s vs.toList vs'.toList _ _ h4 k4 hal (SeqAt.room_in hu) j (by simpa using j1) (by simpa using j2) hj
        simpa using this
      · exact wpAny_truthy_bool hq
end
section
variable {prog : Program} {w : World} {A : Around} {s : Shared}
def neD : PyData → Bool
  | .tuple [] => false
  | _ => true
theorem firsts_tup {M : Model} : ∀ {vs : List Value} {ds : List PyData}, EachIs (fun v d => ∃ as, Reads s.heap v d as) vs ds → (∀ d, d ∈ ds → ∃ xs, d = .tuple xs) → ∃ fs : List (Option Value), fs.map Option.isSome = ds.map neD ∧ ∀ (A : Around) (E : Value → Shared → Prop) (Q : List (Option Value) → Shared → Prop), Q fs s → wpAny M A (vs.mapM firstOfTuple') Q E s
  | _, _, .nil, _ => ⟨[], rfl, fun A E Q h => by rw [List.mapM_nil]; exact wpAny_pure h⟩
  | _, _, .cons (a := v) (b := d) (as := vs) (bs := ds) ⟨as, r⟩ t, ht => by
    obtain ⟨fs, h1, h2⟩ := firsts_tup (M := M) t fun d hd => ht d (List.mem_cons_of_mem _ hd)
    obtain ⟨xs, rfl⟩ := ht d List.mem_cons_self
    cases r with
    | @tuple a o ys n _ _ ho hc hd hr =>
      refine ⟨ys[0]? :: fs, ?_, fun A E Q h => ?_⟩
      · rw [List.map_cons, List.map_cons, h1]
        congr 1
        cases xs with
        | nil =>
          have e : ys.toList = [] := by cases q : ys.toList with | nil => rfl | cons u us => rw [q] at hr; cases hr
          have e2 : ys[0]? = none := by rw [← Array.getElem?_toList, e]; rfl
          rw [e2]; rfl
        | cons x r =>
          cases q : ys.toList with
          | nil => rw [q] at hr; cases hr
          | cons u us =>
            have e2 : ys[0]? = some u := by rw [← Array.getElem?_toList, q]; rfl
            rw [e2]; rfl
      · rw [List.mapM_cons]
        refine wpAny_bind ?_
        rw [kas_first_eq]
        refine wpAny_bind (Looks.here (show Looks M s.heap (typeOf (.ref a)) o.cls from (Looks.ld ho).andThen .now) ?_)
        rw [hc, if_neg (by first | decide | simp)]
        refine wpAny_bind (listItems_at ho hd (wpAny_pure ?_))
        exact wpAny_bind (h2 A E (fun bs s' => wpAny M A (pure (ys[0]? :: bs)) Q E s') (wpAny_pure h))
/-- tuples that read as alike data can be sorted -/
theorem sortsAt_tuples {vs : List Value} {ds : List PyData} (e : EachIs (fun v d => ∃ as, Reads s.heap v d as) vs ds) (hal : AllAlike ds) (ht : ∀ d, d ∈ ds → ∃ xs, d = .tuple xs) (hu : ∀ d, d ∈ ds → A.units + d.depth < cLine) : SortsAt prog w A s (dataKind s.heap ds) vs := by
  by_cases hne : ∀ d, d ∈ ds → ∃ x r, d = .tuple (x :: r)
  · exact SortsAt.data e hal (.inl hne) hu
  have room : ∀ {d d' : PyData}, d ∈ ds → A.units + min d.depth d'.depth < cLine := fun {d d'} hd => Nat.lt_of_le_of_lt (Nat.add_le_add_left (Nat.min_le_left _ _) _) (hu d hd)
  obtain ⟨fs, h1, h2⟩ := firsts_tup (M := model prog w) e ht
  have hnall : (fs.toArray.all fun x => x.isSome) = false := by
    rw [List.all_toArray, Bool.eq_false_iff]
    intro hall
    refine hne fun d hd => ?_
    obtain ⟨xs, rfl⟩ := ht d hd
    cases xs with
    | cons x r => exact ⟨x, r, rfl⟩
    | nil =>
      have : neD (.tuple []) ∈ ds.map neD := List.mem_map_of_mem hd
      rw [← h1] at this
      obtain ⟨f, f1, f2⟩ := List.mem_map.mp this
      have := List.all_eq_true.mp hall f f1
      rw [f2] at this
      cases this
  have hkeys : ∀ v, v ∈ vs → ∃ a, (dataKind s.heap ds).keyOf v = some a := fun v hv => by
    obtain ⟨d, hd, as, r⟩ := e.left v hv
    exact ⟨_, dataKind_some hal hd r⟩
  have hty : ∀ v ∈ vs, Looks (model prog w) s.heap (typeOf v) (.type "tuple") := fun v hv => by
    obtain ⟨d, hd, as, r⟩ := e.left v hv
    obtain ⟨xs, rfl⟩ := ht d hd
    exact looks_reads r
  by_cases hf : ((fs.toArray)[0]?.bind id).isSome = true
  · refine ⟨hkeys, general', ?_, fun h2' E Q hq => ?_⟩
    · intro E x y a b Q ha hb hq
      obtain ⟨d, as, hd, ra, rfl⟩ := dataKind_inv ha
      obtain ⟨d', as', hd', rb, rfl⟩ := dataKind_inv hb
      obtain ⟨xs, rfl⟩ := ht d hd
      show wpAny (model prog w) A (oneLt' false x y) Q E s
      exact oneLt_alike (fun z => by cases z) ra rb (hal _ hd d' hd') (by intro z; cases z) (room hd) hq
    · rw [kat_kind_eq, List.mapM_toArray, map_eq_pure_bind]
      refine wpAny_bind (wpAny_bind (h2 A E _ (wpAny_pure ?_)))
      rw [if_neg (by rw [hnall]; exact Bool.false_ne_true), if_pos hf]
      exact wpAny_pure hq
  · refine ⟨hkeys, oneType', ?_, fun h2' E Q hq => ?_⟩
    · intro E x y a b Q ha hb hq
      obtain ⟨d, as, hd, ra, rfl⟩ := dataKind_inv ha
      obtain ⟨d', as', hd', rb, rfl⟩ := dataKind_inv hb
      have hdd := hal d hd d' hd'
      have hroom := room (d' := d') hd
      obtain ⟨xs, rfl⟩ := ht d hd
      obtain ⟨ys, rfl⟩ := ht d' hd'
      rw [keyLt'_oneType]
      exact oneLt_tuples ra rb (by simpa [alike] using hdd) hroom hq
    · rw [kat_kind_eq, List.mapM_toArray, map_eq_pure_bind]
      refine wpAny_bind (wpAny_bind (h2 A E _ (wpAny_pure ?_)))
      rw [if_neg (by rw [hnall]; exact Bool.false_ne_true), if_neg hf]
      rw [oneTypeOnly'_eq, List.mapM_toArray, map_eq_pure_bind]
      refine wpAny_bind (wpAny_bind (wpAny_bind (kas_mapM (r := Value.type "tuple") _ (fun v hv Q' hq => (hty v hv).here hq) (wpAny_pure ?_))))
      obtain ⟨v0, vr, rfl⟩ : ∃ v0 vr, vs = v0 :: vr := by
        match vs, h2' with
        | [], h2 => simp at h2
        | v :: r, _ => exact ⟨v, r, rfl⟩
      have hall : ((List.map (fun _ => Value.type "tuple") (v0 :: vr)).toArray.all fun x => x == Value.type "tuple") = true := by
        simp only [List.all_toArray, List.all_map, List.all_eq_true]
        intro _ _
        exact beq_self_eq_true _
      have h0 : (List.map (fun _ => Value.type "tuple") (v0 :: vr)).toArray[0]? = some (Value.type "tuple") := by simp
      rw [h0]
      simp only [hall, if_true]
      exact wpAny_pure (wpAny_pure hq)
end
end Mir
namespace Mir
open PySem PySem.Spec L2
abbrev sortedD (ds : List D) : List D := ds.mergeSort (PySem.W.dataLe false id)
def tupB : D → Bool
  | .tuple _ => true
  | _ => false
def plainB : D → Bool
  | .tuple _ => false
  | .none => false
  | _ => true
def sortOk (ds : List D) : Bool := (ds.all fun d => ds.all fun e => PySem.W.alike d e) && (ds.all tupB || ds.all plainB) && (ds.all fun d => decide (d.depth ≤ 130))
def gSorted : List D → Option Ow
  | [.list ds] => if sortOk ds = true then some (.l ((sortedD ds).map Ow.d)) else none
  | _ => none
def rSortD (K : Kw) : List V → Hp → VK → Prop := fun vs H Q => ∃ (a : Addr) (xs : List V) (ds : List D) (T : V → D → Prop), vs = [V.ref a] ∧ SqL K H a xs ∧ DpAll K H xs ds ∧ sortOk ds = true ∧ PySem.W.EachIs T xs ds ∧
  ∀ (ys : List V) (p : Addr), H p = none → PySem.W.EachIs T ys (sortedD ds) → Q (.ref p) (upd H p (.lst ys))
section
variable {X : Cx} {W : WX}
theorem each_vals {T : V → D → Prop} : ∀ {xs : List V} {vs : List Value} {ds : List D}, Vals xs vs → PySem.W.EachIs T xs ds → PySem.W.EachIs (fun v d => ∃ x, RelV x v ∧ T x d) vs ds
  | _, _, _, .nil, .nil => .nil
  | _, _, _, .cons r t, .cons h g => .cons ⟨_, r, h⟩ (each_vals t g)
theorem vals_each {T : V → D → Prop} : ∀ {vs : List Value} {ds : List D}, PySem.W.EachIs (fun v d => ∃ x, RelV x v ∧ T x d) vs ds → ∃ xs, Vals xs vs ∧ PySem.W.EachIs T xs ds
  | _, _, .nil => ⟨[], .nil, .nil⟩
  | _, _, .cons ⟨x, r, h⟩ g => by
    obtain ⟨xs, a, b⟩ := vals_each g
    exact ⟨x :: xs, .cons r a, .cons h b⟩
mutual
theorem Dp.kit_alike {K : Kw} {H : Hp} : ∀ (d : D) (v : V), Dp K H v d → PySem.W.alike d d = true → L2.Dp K H v d
  | .none, _, h, _ => by cases h; exact .non
  | .bool b, _, h, _ => by cases h; exact .bl b
  | .int b, _, h, _ => by cases h; exact .int b
  | .str b, _, h, _ => by cases h; exact .str b
  | .list ds, _, h, c => by
    cases h with
    | lst hs ha => exact .lst hs (DpAll.kit_alike ds _ ha (by rw [PySem.W.alike] at c; exact c))
  | .tuple ds, _, h, c => by
    cases h with
    | tup hs ha => exact .tup hs (DpAll.kit_alike ds _ ha (by rw [PySem.W.alike] at c; exact c))
  | .dict _, _, _, c => by simp [PySem.W.alike] at c
theorem DpAll.kit_alike {K : Kw} {H : Hp} : ∀ (ds : List D) (vs : List V), DpAll K H vs ds → PySem.W.alikeAll ds ds = true → L2.DpAll K H vs ds
  | [], _, h, _ => by cases h; exact .nil
  | d :: ds, _, h, c => by
    rw [PySem.W.alikeAll, Bool.and_eq_true] at c
    cases h with
    | cons h1 h2 => exact .cons (Dp.kit_alike d _ h1 c.1) (DpAll.kit_alike ds _ h2 c.2)
end
theorem each_reads {pins : List (Addr × Obj)} {s : Shared} {σ : L2.St} {H : Hp} (I : Inv X pins σ H s) : ∀ {xs : List V} {vs : List Value} {ds : List D}, Vals xs vs → DpAll X.KK H xs ds → (∀ d ∈ ds, PySem.W.alike d d = true) → PySem.W.EachIs (fun v d => ∃ as, PySem.Reads s.heap v d as) vs ds
  | _, _, _, .nil, h, _ => by cases h; exact .nil
  | _, _, _, .cons r t, h, c => by
    cases h with
    | cons h1 h2 => exact .cons (L2.Dp.reads I _ _ _ (Dp.kit_alike _ _ h1 (c _ List.mem_cons_self)) r) (each_reads I t h2 fun d hd => c d (List.mem_cons_of_mem _ hd))
theorem sortOk_cases {ds : List D} (h : sortOk ds = true) : PySem.W.AllAlike ds ∧ ((∀ d, d ∈ ds → ∃ xs, d = .tuple xs) ∨ ∀ d, d ∈ ds → d ≠ .none ∧ ∀ xs, d ≠ .tuple xs) ∧ ∀ d, d ∈ ds → d.depth ≤ 130 := by
  unfold sortOk at h
  simp only [Bool.and_eq_true, Bool.or_eq_true, List.all_eq_true, decide_eq_true_eq] at h
  obtain ⟨⟨h1, h2⟩, h3⟩ := h
  refine ⟨h1, h2.imp (fun h d hd => ?_) (fun h d hd => ?_), h3⟩
  · have := h d hd
    cases d <;> first | exact ⟨_, rfl⟩ | cases this
  · have := h d hd
    cases d with
    | none => cases this
    | tuple _ => cases this
    | _ => exact ⟨nofun, nofun⟩
theorem cr_sortD (hu : X.A.units + 140 < cLine) : CallR X (.builtin "sorted") (rSortD X.KK) := by
  intro pins s σ H vs us Q I r h
  obtain ⟨a, xs, ds, T, rfl, hs, hx, ok, hT, q⟩ := h
  obtain ⟨its, rv, hl, hz⟩ := I.list hs
  rw [Vals.ref1 r]
  obtain ⟨hal, hk, hd⟩ := sortOk_cases ok
  have er := each_reads I rv hx fun d hd => hal d hd d hd
  have e := each_vals rv hT
  have hL : its.length ≤ sizeLine := by rw [← rv.length]; exact hz
  have fin : ∀ out, out.length = ds.length → PySem.W.EachIs (fun v d => ∃ x, RelV x v ∧ T x d) out (sortedD ds) → EP X pins σ Q (.ref (s.heap.objs.size + 1)) { s with heap := PyProof.Rows.sortedAll s.heap its out.toArray } := fun out h1 h2 => by
    obtain ⟨ys, h3, h4⟩ := vals_each h2
    have hn : H (s.heap.objs.size + 1) = none := I.hok.fresh (Nat.le_succ _)
    obtain ⟨n, hn2⟩ := PyProof.Rows.sortedAll_at s.heap its out.toArray
    refine ⟨.ref (s.heap.objs.size + 1), upd H (s.heap.objs.size + 1) (.lst ys), I.laid (t' := s.toks) (fun b o e => PyProof.Rows.sortedAll_old e) (Nat.le_succ _) ⟨?_, out, n, h3, hn2⟩, rfl, q ys _ hn h4⟩
    rw [h3.length, h1, ← er.length]
    exact hL
  have er' : PySem.W.EachIs (fun v b => ∃ as, PySem.Reads (PySem.W.sortingHeap (PySem.W.copyHeap s.heap its) (s.heap.objs.size + 1) its) v (id b) as) its ds := er.mono fun _ _ ⟨as, r⟩ => ⟨as, PyProof.Rows.Reads.keeps (fun _ _ => PySem.W.sorting_copy_old) r⟩
  have hb : ∀ d, d ∈ ds → X.A.in1.in1.units + d.depth < cLine := fun d m => by
    have := hd d m
    show X.A.units + 1 + 1 + d.depth < cLine
    omega
  refine PySem.W.sorted_vals (κ := PySem.W.dataKind (PySem.W.sortingHeap (PySem.W.copyHeap s.heap its) (s.heap.objs.size + 1) its) ds) hl.isList ?_ hL (fin _ ?_ ?_)
  · rcases hk with hk | hk
    · exact sortsAt_tuples (s := { s with heap := PySem.W.sortingHeap (PySem.W.copyHeap s.heap its) (s.heap.objs.size + 1) its }) er' hal hk hb
    · exact PySem.W.SortsAt.data (s := { s with heap := PySem.W.sortingHeap (PySem.W.copyHeap s.heap its) (s.heap.objs.size + 1) its }) er' hal (.inr hk) hb
  · rw [PySem.W.sortVals_length false rfl]; exact er.length
  · have z := PySem.W.sortVals_data (enc := (id : D → D)) (bs := ds) false e er' (by simpa using hal)
    simpa using z
theorem each_dpAll {F : Hp} : ∀ {xs : List V} {ds : List D}, DpAll X.KK F xs ds → PySem.W.EachIs (Dp X.KK F) xs ds
  | _, [], h => by cases h; exact .nil
  | _, d :: ds, h => by
    cases h with
    | cons h1 h2 => exact .cons h1 (each_dpAll h2)
theorem dpAll_each {F : Hp} : ∀ {xs : List V} {ds : List D}, PySem.W.EachIs (Dp X.KK F) xs ds → DpAll X.KK F xs ds
  | _, _, .nil => .nil
  | _, _, .cons h g => .cons h (dpAll_each g)
theorem caG_sorted : CaG X.KK (rSortD X.KK) gSorted := by
  intro F H vs ds o Q s h e q
  unfold gSorted at e
  split at e
  · split at e
    · rename_i es c
      cases e
      obtain ⟨v, rfl, p, ws, rfl, p1, p2⟩ := psqs1 h
      refine ⟨p, ws, es, Dp X.KK F, rfl, p1, dpaUp p2 s, c, each_dpAll p2, fun ys a ha hy => ?_⟩
      exact q _ _ _ (Ext.own s ha _) (own_l s ha (dpAll_each hy))
    · cases e
  · cases e
theorem de_sorted {x : Expr} {p pos : Pos} {f : Ev → R (List D)} (hu : X.A.units + 140 < cLine) (hg : Gl X "sorted") (hm : X.mg "sorted" = none) (ha : DAl X W [x] f) (he : starEach [x] X.env = (false, eval x X.env) :: starEach [] X.env := by rfl) : DE X W (.Call (.Name "sorted" p) [x] [] pos) (eCa gSorted f) :=
  de_callB (cr_sortD hu) caG_sorted hg hm (by first | rfl | decide +kernel) ha (he := he)
end
end Mir
end
set_option Elab.async false
set_option linter.all false
set_option maxRecDepth 100000
set_option maxHeartbeats 4000000
noncomputable section
namespace Mir
open PySem PySem.Spec L2

open Classical in
section
variable {X : Cx} {W : WX} {S : Nat → Bool} {pos npos : Pos} {x : Str} {fs : Ev → SR}
end
end Mir
end
set_option Elab.async false
set_option linter.all false
set_option maxRecDepth 100000
set_option maxHeartbeats 4000000
noncomputable section
namespace Mir
open PySem PySem.Spec L2

def spL (K : Kw) (m : List D → R Ow) : Sp := fun vs H Q _ => ∃ F ds r, Same F H ∧ DpAll K F vs ds ∧ ds.length = 1 ∧ m ds = .ok r ∧ ∀ v F' H', Ext F H F' H' → POw K H r v F' H' → Q v H'
theorem fnOk_spL {P : Program} {w : World} {K : PySem.W.Frag} {mg : Str → Option Value} {base : Heap} {CX : CXT} {k : Nat} {f : Addr} {fd : FuncData} {ps : List Str} {m : List D → R Ow} (h : FnOk P w K mg base CX k f fd ps (spM ⟨K, w⟩ mg 1 m)) : FnOk P w K mg base CX k f fd ps (spL ⟨K, w⟩ m) :=
  h.imp fun vs H Q E ⟨F, ds, r, h1, h2, h3, h4, h5⟩ => ⟨F, ds, h1, h2, h3, by rw [h4]; exact h5⟩
theorem law_end {l : PySem.W.OpenLaw} {q : Program} {loose : List Str} {XP : (Str → Option Value) → Heap → Prop} {YP : World → Heap → Prop} {d : DefRec} {K : Params → PySem.W.Frag} {m : List D → R Ow} (k : Nat) (x : Str) (hn : l.most = some 63) (hdf : d.params.defaults = []) (hr : Room k callerA)
    (hY : ∀ (w : World) (h : Heap), YP w h → (K w.params).In h)
    (hm : ∀ ns : List Int, ns.length ≤ 63 → (∀ z ∈ ns, Builtin.Int.intBits z ≤ 1048576) → m [.list (ns.map .int)] = .ok (.d (.bool true)))
    (F : ∀ (w : World) (mg : Str → Option Value) (fa : Addr) (h : Heap), (K w.params).In h → h.Ns PySem.mainGlobals mg → mg d.name = some (.ref fa) →
      ∃ fd : FuncData, (∀ (s : Shared) (u : Value), BindsTo s fd ⟨[u], []⟩ [(x, u)]) ∧ ∀ base : Heap, (K w.params).In base → base.Ns PySem.mainGlobals mg → FnOk l.prog w (K w.params) mg base (L2.CX l.prog w) k fa fd [x] (spM ⟨K w.params, w⟩ mg 1 m)) :
    PySem.W.WalkO q loose XP YP l.row.toRowW d [] (fun f vs => PySem.call f vs) := by
  refine L2.walk_ofB (n := 63) (k := k) (x := x) (CX := fun w => L2.CX l.prog w) (sp := fun w => spL ⟨K w.params, w⟩ m) hn (by decide) hdf hr hY (fun w mg fa h a b c => ?_) (fun w H a ns hl hb _ hS => ?_) fun w H s e s' z => ?_
  · obtain ⟨fd, h1, h2⟩ := F w mg fa h a b c
    exact ⟨fd, h1, fun base p q => fnOk_spL (h2 base p q)⟩
  · refine ⟨H, [.list (ns.map .int)], _, Same.refl _, .cons (.lst hS (DpAll.of_ints ns)) .nil, rfl, hm ns hl hb, fun v F' H' _ ⟨fp, ow, _⟩ => ?_⟩
    cases ow with
    | d h => cases h; rfl
  · obtain ⟨_, _, _, _, _, _, _, _, _, _, _, _, z⟩ := z
    exact z
theorem room_eq {k : Nat} {A : Around} (r : Room k A) : A.units + 140 < cLine := by have := r.un; omega
end Mir
end
set_option Elab.async false
set_option linter.all false
set_option maxRecDepth 100000
set_option maxHeartbeats 4000000
noncomputable section
namespace Mir
open PySem PySem.Spec L2
section
variable {X : Cx} {W : WX} {S : Nat → Bool}
def gAddA : D → D → Option D
  | .int i, .int j => some (.int (i + j))
  | .str x, .str y => if x.length + y.length ≤ sizeLine then some (.str (x ++ y)) else none
  | _, _ => none
theorem iop_addA : OpR X (inplaceOp .Add) (fun x y H Q => rI0 (fun i j => .int (i + j)) x y H Q ∨ ∃ i j, x = .str i ∧ y = .str j ∧ i.length + j.length ≤ sizeLine ∧ Q (.str (i ++ j)) H) := OpR.or iop_add iop_add_str
theorem opS_addA {K : Kw} : OpS K (fun x y H Q => rI0 (fun i j => .int (i + j)) x y H Q ∨ ∃ i j, x = .str i ∧ y = .str j ∧ i.length + j.length ≤ sizeLine ∧ Q (.str (i ++ j)) H) gAddA := by
  intro H x y dx dy d Q hx hy e q
  unfold gAddA at e
  split at e
  · cases e
    cases dp_int hx
    cases dp_int hy
    exact .inl ⟨_, _, rfl, rfl, q _ fun F => .int _⟩
  · split at e
    · cases e
      cases dp_str hx
      cases dp_str hy
      exact .inr ⟨_, _, rfl, rfl, ‹_›, q _ fun F => .str _⟩
    · cases e
  · cases e
/-- name = [..], the list made data -/
theorem ds_setLcF {elt tg iter : Expr} {ifs : List Expr} {scope : Scope} {own : List (Str × Nat)} {g : D → Ev → Option Ev} {fi : Ev → R (List D)} {fc : Ev → R Bool} {fe : Ev → R Ow} {ix : List Nat} {y : Str} {py spos pos : Pos} (i : Nat) (hc : X.calm = true) (hN : X.N.Nodup) (hi : DI X W tg iter fi) (ok : BlkOk X.N X.env.scope scope own)
    (hg : ∀ (s : Shared) (H : Hp) (C : Addr) (cl : List (Str × Addr)) (fp : List Addr), DG (X.blk s H scope (compEnvC scope cl C X.env) fp) tg ix g) (ht : ∀ (s : Shared) (H : Hp) (C : Addr) (cl : List (Str × Addr)) (fp : List Addr), DTs (X.blk s H scope (compEnvC scope cl C X.env) fp) W0 ifs fc)
    (he : ∀ (s : Shared) (H : Hp) (C : Addr) (cl : List (Str × Addr)) (fp : List Addr), DE (X.blk s H scope (compEnvC scope cl C X.env) fp) W0 elt fe) (hix : ∀ i ∈ ix, i ∈ own.map (·.2) := by decide) (hs : ∀ x, foldedSetIterable iter X.env x = pure x := by intro _; rfl)
    (hy : X.N[i]? = some y := by rfl) (hyl : X.env.scope.names.lookup y = some .local := by rfl) (hsw : swapsWith (.ListComp elt [⟨tg, iter, ifs, 0⟩] scope pos) (some (.Name y py)) spos.line X.env = pure true := by exact sw_true rfl rfl rfl (by decide +kernel)) (hS : S i = true := by rfl) :
    DS X W S (.Assign [.Name y py] (.ListComp elt [⟨tg, iter, ifs, 0⟩] scope pos) spos) (sSet i (eM (eM (eLc fi g fc fe (own.map (·.2))) viewD) Ow.d)) := by
  obtain ⟨wi, pi, si⟩ := hi
  refine ⟨_, ps_setLc (g := tgOf X.KK ix g) (tt := tOf X.KK (Post X W0 PTb) fc) (te := tOf X.KK (Post X W0 (POw X.KK)) fe) hc hN hy hyl hsw pi ok (fun s H C cl fp => hg s H C cl fp) (fun s H C cl fp => (ht s H C cl fp).can) (fun s H C cl fp => (he s H C cl fp).can) hs, fun F H σ env fp D sat h => ?_⟩
  refine de_lc_core si hix F H σ env fp _ sat ?_
  unfold sSet eM at h
  cases e : eLc fi g fc fe (own.map (·.2)) env with
  | no => rw [e] at h; exact h
  | ex c => rw [e] at h; exact fun C F' H' m x => h C σ F' H' fp m (.refl _ _) (StepS.of_ext x fp) (sat.ext x)
  | ok r =>
    rw [e] at h
    intro v F' H' x ⟨fx, q, nd, n⟩
    have h' : PostS X W S σ F H fp D (if i < env.length then .nx (env.set i (some (.d (viewD r)))) else .no) := h
    split at h'
    · obtain ⟨F2, x2, q2⟩ := x.freeze q n
      obtain ⟨fp', s1, s2⟩ := put_step sat x2 (.d q2) List.nodup_nil (fun _ z => nomatch z) ‹_›
      exact h' _ F2 H' fp' (.set hS _) s1 s2
    · exact h'.elim
end
end Mir
end
set_option Elab.async false
set_option linter.all false
set_option maxRecDepth 100000
set_option maxHeartbeats 4000000
noncomputable section
namespace Mir
open PySem PySem.Spec L2

section
variable {α β γ : Type} (env : Ev)
@[simp] theorem eB_eq (f : Ev → R α) (g : α → R β) : eB f g env = (f env).bind g := rfl
@[simp] theorem eM_eq (f : Ev → R α) (g : α → β) : eM f g env = (f env).map g := rfl
@[simp] theorem eC_eq (d : D) : eC d env = .ok d := rfl
@[simp] theorem aNil_eq : aNil env = .ok [] := rfl
@[simp] theorem aCons_eq (f : Ev → R D) (g : Ev → R (List D)) : aCons f g env = (f env).bind fun d => (g env).map fun ds => d :: ds := rfl
@[simp] theorem eTup_eq (f : Ev → R (List D)) : eTup f env = (f env).bind fun ds => guard (ds.length ≤ sizeLine) (.ok (.tuple ds)) := rfl
@[simp] theorem eLst_eq (f : Ev → R (List D)) : eLst f env = (f env).bind fun ds => guard (ds.length ≤ sizeLine) (.ok (.l (ds.map Ow.d))) := rfl
@[simp] theorem eBin_eq (g : D → D → Option D) (f h : Ev → R D) : eBin g f h env = (f env).bind fun x => (h env).bind fun y => R.of (g x y) := rfl
@[simp] theorem eBinO_eq (g : D → D → Option Ow) (f h : Ev → R D) : eBinO g f h env = (f env).bind fun x => (h env).bind fun y => R.of (g x y) := rfl
@[simp] theorem eCa_eq (g : List D → Option Ow) (f : Ev → R (List D)) : eCa g f env = (f env).bind fun ds => R.of (g ds) := rfl
@[simp] theorem eNot_eq (f : Ev → R D) : eNot f env = ((f env).bind asB).bind fun b => .ok (.bool !b) := rfl
@[simp] theorem eAnd_eq (f g : Ev → R D) : eAnd f g env = ((f env).bind asB).bind fun b => if b = true then g env else .ok (.bool false) := rfl
@[simp] theorem eOr_eq (f g : Ev → R D) : eOr f g env = ((f env).bind asB).bind fun b => if b = true then .ok (.bool true) else g env := rfl
@[simp] theorem eIf_eq (c : Ev → R Bool) (f g : Ev → R D) : eIf c f g env = (c env).bind fun b => if b = true then f env else g env := rfl
@[simp] theorem tNotE_eq (f : Ev → R Bool) : tNotE f env = (f env).map (!·) := rfl
@[simp] theorem tAndE_eq (f g : Ev → R Bool) : tAndE f g env = (f env).bind fun b => if b = true then g env else .ok false := rfl
@[simp] theorem tOrE_eq (f g : Ev → R Bool) : tOrE f g env = (f env).bind fun b => if b = true then .ok true else g env := rfl
@[simp] theorem eRep_eq (f : Ev → R Ow) (g : Ev → R D) : eRep f g env = (f env).bind fun o => (g env).bind fun d => repO o d := rfl
@[simp] theorem eIxO_eq (f : Ev → R Ow) (g : Ev → R D) : eIxO f g env = (f env).bind fun o => (g env).bind fun d => ixO o d := rfl
@[simp] theorem eSl_eq (f : Ev → R D) (l h : Ev → R (Option Int)) : eSl f l h env = (f env).bind fun x => (l env).bind fun i => (h env).bind fun j => R.of (gSl x i j) := rfl
@[simp] theorem oNone_eq : oNone env = .ok none := rfl
@[simp] theorem asI_eq (i : Int) : asI (.int i) = .ok (some i) := rfl
@[simp] theorem cYes_eq : cYes env = .ok true := rfl
@[simp] theorem eVar_0 (x : D) : eVar 0 (some (.d x) :: env) = .ok x := rfl
@[simp] theorem eVarO_0 (x : Ow) : eVarO 0 (some x :: env) = .ok x := rfl
@[simp] theorem eVar_s (i : Nat) (x : Option Ow) : eVar (i + 1) (x :: env) = eVar i env := by unfold eVar; rw [List.getElem?_cons_succ]
@[simp] theorem eVarO_s (i : Nat) (x : Option Ow) : eVarO (i + 1) (x :: env) = eVarO i env := by unfold eVarO; rw [List.getElem?_cons_succ]
@[simp] theorem eVar_1 (a : Option Ow) (x : D) : eVar 1 (a :: some (.d x) :: env) = .ok x := rfl
@[simp] theorem eVar_2 (a b : Option Ow) (x : D) : eVar 2 (a :: b :: some (.d x) :: env) = .ok x := rfl
@[simp] theorem eVar_3 (a b c : Option Ow) (x : D) : eVar 3 (a :: b :: c :: some (.d x) :: env) = .ok x := rfl
@[simp] theorem eVar_4 (a b c d : Option Ow) (x : D) : eVar 4 (a :: b :: c :: d :: some (.d x) :: env) = .ok x := rfl
@[simp] theorem eVar_5 (a b c d e : Option Ow) (x : D) : eVar 5 (a :: b :: c :: d :: e :: some (.d x) :: env) = .ok x := rfl
@[simp] theorem eVar_6 (a b c d e f : Option Ow) (x : D) : eVar 6 (a :: b :: c :: d :: e :: f :: some (.d x) :: env) = .ok x := rfl
@[simp] theorem eVar_7 (a b c d e f g : Option Ow) (x : D) : eVar 7 (a :: b :: c :: d :: e :: f :: g :: some (.d x) :: env) = .ok x := rfl
@[simp] theorem eVar_8 (a b c d e f g h : Option Ow) (x : D) : eVar 8 (a :: b :: c :: d :: e :: f :: g :: h :: some (.d x) :: env) = .ok x := rfl
@[simp] theorem eVar_9 (a b c d e f g h i : Option Ow) (x : D) : eVar 9 (a :: b :: c :: d :: e :: f :: g :: h :: i :: some (.d x) :: env) = .ok x := rfl
@[simp] theorem eVarO_1 (a : Option Ow) (x : Ow) : eVarO 1 (a :: some x :: env) = .ok x := rfl
@[simp] theorem eVarO_2 (a b : Option Ow) (x : Ow) : eVarO 2 (a :: b :: some x :: env) = .ok x := rfl
@[simp] theorem eVarO_3 (a b c : Option Ow) (x : Ow) : eVarO 3 (a :: b :: c :: some x :: env) = .ok x := rfl
@[simp] theorem eVarO_4 (a b c d : Option Ow) (x : Ow) : eVarO 4 (a :: b :: c :: d :: some x :: env) = .ok x := rfl
@[simp] theorem eVarO_5 (a b c d e : Option Ow) (x : Ow) : eVarO 5 (a :: b :: c :: d :: e :: some x :: env) = .ok x := rfl
@[simp] theorem eVarO_6 (a b c d e f : Option Ow) (x : Ow) : eVarO 6 (a :: b :: c :: d :: e :: f :: some x :: env) = .ok x := rfl
@[simp] theorem eVarO_7 (a b c d e f g : Option Ow) (x : Ow) : eVarO 7 (a :: b :: c :: d :: e :: f :: g :: some x :: env) = .ok x := rfl
@[simp] theorem sSkip_eq : sSkip env = .nx env := rfl
@[simp] theorem sSeq_eq (f g : Ev → SR) : sSeq f g env = (f env).andThen g := rfl
@[simp] theorem sSet_eq (i : Nat) (f : Ev → R Ow) : sSet i f env = (f env).st env fun r => if i < env.length then .nx (env.set i (some r)) else .no := rfl
@[simp] theorem sRet_eq (f : Ev → R Ow) : sRet f env = (f env).st env fun r => .rt r env := rfl
@[simp] theorem sRetN_eq : sRetN env = .rt (.d .none) env := rfl
@[simp] theorem sIf_eq (c : Ev → R Bool) (f g : Ev → SR) : sIf c f g env = (c env).st env fun b => if b = true then f env else g env := rfl
@[simp] theorem sFor_eq (it : Ev → R (List D)) (g : D → Ev → Option Ev) (f : Ev → SR) : sFor it g f env = (it env).st env fun ds => forL g f ds env := rfl
@[simp] theorem sDrop_eq (f : Ev → R D) : sDrop f env = (f env).st env fun _ => .nx env := rfl
@[simp] theorem sAug_eq (h : D → D → Option D) (i : Nat) (f : Ev → R D) : sAug h i f env = (((eVar i env).bind fun x => (f env).bind fun y => R.of (h x y)).st env fun d => if i < env.length then .nx (env.set i (some (.d d))) else .no) := rfl
@[simp] theorem sAsg_eq (g : D → Ev → Option Ev) (f : Ev → R D) : sAsg g f env = (f env).st env fun d => match g d env with
  | some env' => .nx env'
  | none => .no := rfl
@[simp] theorem sApp_eq (i : Nat) (f : Ev → R Ow) : sApp i f env = ownL i env fun os => (f env).st env fun r => if os.length < sizeLine then .nx (env.set i (some (.l (os ++ [r])))) else .no := rfl
@[simp] theorem sExt_eq (i : Nat) (f : Ev → R D) : sExt i f env = ownL i env fun os => (f env).st env fun d => (asL d).st env fun ds => if os.length + ds.length ≤ sizeLine then .nx (env.set i (some (.l (os ++ ds.map Ow.d)))) else .no := rfl
@[simp] theorem sPut_eq (i : Nat) (f : Ev → R Ow) (g : Ev → R D) : sPut i f g env = (f env).st env fun r => ownL i env fun os => (g env).st env (putAt i env os r) := rfl
@[simp] theorem ownL_0 (os : List Ow) (k : List Ow → SR) : ownL 0 (some (.l os) :: env) k = k os := rfl
@[simp] theorem ownL_1 (a : Option Ow) (os : List Ow) (k : List Ow → SR) : ownL 1 (a :: some (.l os) :: env) k = k os := rfl
@[simp] theorem ownL_2 (a b : Option Ow) (os : List Ow) (k : List Ow → SR) : ownL 2 (a :: b :: some (.l os) :: env) k = k os := rfl
@[simp] theorem ownL_3 (a b c : Option Ow) (os : List Ow) (k : List Ow → SR) : ownL 3 (a :: b :: c :: some (.l os) :: env) k = k os := rfl
@[simp] theorem ownL_4 (a b c d : Option Ow) (os : List Ow) (k : List Ow → SR) : ownL 4 (a :: b :: c :: d :: some (.l os) :: env) k = k os := rfl
@[simp] theorem ownL_5 (a b c d e : Option Ow) (os : List Ow) (k : List Ow → SR) : ownL 5 (a :: b :: c :: d :: e :: some (.l os) :: env) k = k os := rfl
@[simp] theorem ownL_6 (a b c d e f : Option Ow) (os : List Ow) (k : List Ow → SR) : ownL 6 (a :: b :: c :: d :: e :: f :: some (.l os) :: env) k = k os := rfl
@[simp] theorem gtName_eq (i : Nat) (d : D) : gtName i d env = if i < env.length then some (env.set i (some (.d d))) else none := rfl
@[simp] theorem gtTup_eq (n : Nat) (h : List D → Ev → Option Ev) (ds : List D) : gtTup n h (.tuple ds) env = if ds.length = n then h ds env else none := rfl
@[simp] theorem gtCons_eq (g : D → Ev → Option Ev) (h : List D → Ev → Option Ev) (d : D) (ds : List D) : gtCons g h (d :: ds) env = (g d env).bind (h ds) := rfl
@[simp] theorem gtNil_eq : gtNil [] env = some env := rfl
theorem guard_ok {c : Prop} {r : R α} (h : c) : guard c r = r := guard_pos h
@[simp] theorem guard_true {r : R α} : guard True r = r := guard_pos trivial
@[simp] theorem guard_small {a : Nat} {r : R α} (h : a ≤ sizeLine) : guard (a ≤ sizeLine) r = r := guard_pos h
end
@[simp] theorem gAddA_int (i j : Int) : gAddA (.int i) (.int j) = some (.int (i + j)) := rfl
@[simp] theorem gEq_int (i j : Int) : gEq (.int i) (.int j) = some (.bool (i == j)) := rfl
@[simp] theorem gNe_int (i j : Int) : gNe (.int i) (.int j) = some (.bool (!(i == j))) := rfl
@[simp] theorem gNeg_int (i : Int) : gNeg (.int i) = .ok (.int (-i)) := rfl
@[simp] theorem gIx_lst (ds : List D) (i : Int) : gIx (.list ds) (.int i) = atI ds i := rfl
@[simp] theorem gIsi_int_int (i : Int) : gIsi "int" (.int i) = .ok (.bool true) := by rfl
@[simp] theorem gIsi_bool_int (i : Int) : gIsi "bool" (.int i) = .ok (.bool false) := by first | rfl | decide +kernel | kernel_rfl
@[simp] theorem gIsi_list_list (ds : List D) : gIsi "list" (.list ds) = .ok (.bool true) := by rfl
@[simp] theorem gIsi_tup_tup (ds : List D) : gIsi "tuple" (.tuple ds) = .ok (.bool true) := by rfl
@[simp] theorem ixO_l (os : List Ow) (k : Int) : ixO (.l os) (.int k) = match atI os k with
    | some o => .ok o
    | none => .no := rfl
@[simp] theorem R.st_no {α : Type} (env : Ev) (f : α → SR) : (R.no : R α).st env f = .no := rfl
theorem atI_natD {α : Type} {xs : List α} {k : Nat} {x : α} (h : xs[k]? = some x) : atI xs (k : Int) = some x := by
  unfold atI ixN
  have hl := (List.getElem?_eq_some_iff.mp h).1
  rw [if_pos (by omega), if_pos (by omega)]
  simpa using h
theorem ixN_nat {n k : Nat} (h : k < n) : ixN n (k : Int) = some k := by
  unfold ixN
  rw [if_pos (by omega), if_pos (by omega)]
  simp
@[simp] theorem atI_0 {α : Type} (x : α) (xs : List α) : atI (x :: xs) 0 = some x := atI_natD (k := 0) rfl
@[simp] theorem atI_1 {α : Type} (x y : α) (xs : List α) : atI (x :: y :: xs) 1 = some y := atI_natD (k := 1) rfl
@[simp] theorem atI_2 {α : Type} (x y z : α) (xs : List α) : atI (x :: y :: z :: xs) 2 = some z := atI_natD (k := 2) rfl
@[simp] theorem atI_3 {α : Type} (x y z u : α) (xs : List α) : atI (x :: y :: z :: u :: xs) 3 = some u := atI_natD (k := 3) rfl
@[simp] theorem atI_4 {α : Type} (x y z u v : α) (xs : List α) : atI (x :: y :: z :: u :: v :: xs) 4 = some v := atI_natD (k := 4) rfl
theorem forL_ind {g : D → Ev → Option Ev} {f : Ev → SR} (items : List D) (I : Nat → Ev → Prop) (step : ∀ i d env, items[i]? = some d → I i env → ∃ env1, g d env = some env1 ∧ ∃ env2, (f env1 = .nx env2 ∨ f env1 = .ct env2) ∧ I (i + 1) env2) :
    ∀ env, I 0 env → ∃ env', forL g f items env = .nx env' ∧ I items.length env' := by
  suffices h : ∀ (ds : List D) (k : Nat) (env : Ev), items.drop k = ds → k ≤ items.length → I k env → ∃ env', forL g f ds env = .nx env' ∧ I items.length env' from fun env h0 => h items 0 env rfl (Nat.zero_le _) h0
  intro ds
  induction ds with
  | nil =>
    intro k env hd hk h
    have : k = items.length := by
      have := congrArg List.length hd
      simp at this
      omega
    subst this
    exact ⟨env, rfl, h⟩
  | cons d ds ih =>
    intro k env hd hk h
    have hk' : k < items.length := by
      have := congrArg List.length hd
      simp at this
      omega
    rw [List.drop_eq_getElem_cons hk'] at hd
    obtain ⟨e1, e2⟩ := List.cons.inj hd
    obtain ⟨env1, g1, env2, g2, g3⟩ := step k d env (by rw [List.getElem?_eq_getElem hk', e1]) h
    obtain ⟨env', r1, r2⟩ := ih (k + 1) env2 e2 hk' g3
    refine ⟨env', ?_, r2⟩
    unfold forL
    rw [g1]
    rcases g2 with g2 | g2 <;> (simp only; rw [g2]; exact r1)
theorem lcR_all {g : D → Ev → Option Ev} {c : Ev → R Bool} {e : Ev → R Ow} {env : Ev} (h : D → Ow) : ∀ ds : List D, (∀ d ∈ ds, ∃ env1, g d env = some env1 ∧ c env1 = .ok true ∧ e env1 = .ok (h d)) → lcR g c e env ds = .ok (ds.map h)
  | [], _ => rfl
  | d :: ds, q => by
    obtain ⟨env1, q1, q2, q3⟩ := q d List.mem_cons_self
    unfold lcR
    rw [q1]
    simp only [q2, q3, noEx_ok, R.bind_ok, if_true]
    rw [lcR_all h ds fun d hd => q d (List.mem_cons_of_mem _ hd)]
    rfl
theorem eLc_of {fi : Ev → R (List D)} {g : D → Ev → Option Ev} {c : Ev → R Bool} {e : Ev → R Ow} {vs : List Nat} {env : Ev} {ds : List D} {rs : List Ow} (h1 : fi env = .ok ds) (hl : ds.length ≤ sizeLine) (h2 : lcR g c e (wipeE env vs) ds = .ok rs) : eLc fi g c e vs env = .ok (.l rs) := by
  unfold eLc
  rw [h1, R.bind_ok, guard_ok hl, h2]
  rfl
def finR : SR → R Ow
  | .nx _ => .ok (.d .none)
  | .rt r _ => .ok r
  | .ex c _ => .ex c
  | _ => .no
theorem runB_fin (k : Nat) (f : Ev → SR) (ds : List D) : runB k f ds = finR (f (envOf k ds)) := by
  unfold runB
  cases f (envOf k ds) <;> rfl
@[simp] theorem finR_nx (env : Ev) : finR (.nx env) = .ok (.d .none) := rfl
@[simp] theorem finR_rt (r : Ow) (env : Ev) : finR (.rt r env) = .ok r := rfl
@[simp] theorem finR_ex (c : Str) (env : Ev) : finR (.ex c env) = .ex c := rfl
@[simp] theorem finR_no : finR .no = .no := rfl
@[simp] theorem envOf_nil (k : Nat) : envOf k [] = List.replicate k none := rfl
@[simp] theorem envOf_cons (k : Nat) (d : D) (ds : List D) : envOf k (d :: ds) = some (.d d) :: envOf k ds := rfl
end Mir
end
set_option Elab.async false
set_option linter.all false
set_option maxRecDepth 100000
set_option maxHeartbeats 4000000
noncomputable section
namespace Mir
open PySem PySem.Spec L2

section
variable {X : Cx} {W : WX} {S : Nat → Bool}
def sNo (_ : Ev) : SR := .no
open Classical in
variable {a b : Expr} {pos : Pos} {f g : Ev → R D}
end
@[simp] theorem sNo_eq (env : Ev) : sNo env = .no := rfl
end Mir
end
set_option Elab.async false
set_option linter.all false
set_option maxRecDepth 100000
noncomputable section
namespace Mir
open PySem PySem.Spec L2
@[simp] theorem ownL_7 (a0 a1 a2 a3 a4 a5 a6 : Option Ow) (os : List Ow) (env : Ev) (k : List Ow → SR) : ownL 7 (a0 :: a1 :: a2 :: a3 :: a4 :: a5 :: a6 :: some (.l os) :: env) k = k os := rfl
@[simp] theorem eVarO_8 (a0 a1 a2 a3 a4 a5 a6 a7 : Option Ow) (x : Ow) (env : Ev) : eVarO 8 (a0 :: a1 :: a2 :: a3 :: a4 :: a5 :: a6 :: a7 :: some x :: env) = .ok x := rfl
@[simp] theorem ownL_8 (a0 a1 a2 a3 a4 a5 a6 a7 : Option Ow) (os : List Ow) (env : Ev) (k : List Ow → SR) : ownL 8 (a0 :: a1 :: a2 :: a3 :: a4 :: a5 :: a6 :: a7 :: some (.l os) :: env) k = k os := rfl
@[simp] theorem eVarO_9 (a0 a1 a2 a3 a4 a5 a6 a7 a8 : Option Ow) (x : Ow) (env : Ev) : eVarO 9 (a0 :: a1 :: a2 :: a3 :: a4 :: a5 :: a6 :: a7 :: a8 :: some x :: env) = .ok x := rfl
@[simp] theorem ownL_9 (a0 a1 a2 a3 a4 a5 a6 a7 a8 : Option Ow) (os : List Ow) (env : Ev) (k : List Ow → SR) : ownL 9 (a0 :: a1 :: a2 :: a3 :: a4 :: a5 :: a6 :: a7 :: a8 :: some (.l os) :: env) k = k os := rfl
@[simp] theorem eVar_10 (a0 a1 a2 a3 a4 a5 a6 a7 a8 a9 : Option Ow) (x : D) (env : Ev) : eVar 10 (a0 :: a1 :: a2 :: a3 :: a4 :: a5 :: a6 :: a7 :: a8 :: a9 :: some (.d x) :: env) = .ok x := rfl
@[simp] theorem eVarO_10 (a0 a1 a2 a3 a4 a5 a6 a7 a8 a9 : Option Ow) (x : Ow) (env : Ev) : eVarO 10 (a0 :: a1 :: a2 :: a3 :: a4 :: a5 :: a6 :: a7 :: a8 :: a9 :: some x :: env) = .ok x := rfl
@[simp] theorem ownL_10 (a0 a1 a2 a3 a4 a5 a6 a7 a8 a9 : Option Ow) (os : List Ow) (env : Ev) (k : List Ow → SR) : ownL 10 (a0 :: a1 :: a2 :: a3 :: a4 :: a5 :: a6 :: a7 :: a8 :: a9 :: some (.l os) :: env) k = k os := rfl
@[simp] theorem eVar_11 (a0 a1 a2 a3 a4 a5 a6 a7 a8 a9 a10 : Option Ow) (x : D) (env : Ev) : eVar 11 (a0 :: a1 :: a2 :: a3 :: a4 :: a5 :: a6 :: a7 :: a8 :: a9 :: a10 :: some (.d x) :: env) = .ok x := rfl
@[simp] theorem eVarO_11 (a0 a1 a2 a3 a4 a5 a6 a7 a8 a9 a10 : Option Ow) (x : Ow) (env : Ev) : eVarO 11 (a0 :: a1 :: a2 :: a3 :: a4 :: a5 :: a6 :: a7 :: a8 :: a9 :: a10 :: some x :: env) = .ok x := rfl
@[simp] theorem ownL_11 (a0 a1 a2 a3 a4 a5 a6 a7 a8 a9 a10 : Option Ow) (os : List Ow) (env : Ev) (k : List Ow → SR) : ownL 11 (a0 :: a1 :: a2 :: a3 :: a4 :: a5 :: a6 :: a7 :: a8 :: a9 :: a10 :: some (.l os) :: env) k = k os := rfl
@[simp] theorem eVar_12 (a0 a1 a2 a3 a4 a5 a6 a7 a8 a9 a10 a11 : Option Ow) (x : D) (env : Ev) : eVar 12 (a0 :: a1 :: a2 :: a3 :: a4 :: a5 :: a6 :: a7 :: a8 :: a9 :: a10 :: a11 :: some (.d x) :: env) = .ok x := rfl
@[simp] theorem eVarO_12 (a0 a1 a2 a3 a4 a5 a6 a7 a8 a9 a10 a11 : Option Ow) (x : Ow) (env : Ev) : eVarO 12 (a0 :: a1 :: a2 :: a3 :: a4 :: a5 :: a6 :: a7 :: a8 :: a9 :: a10 :: a11 :: some x :: env) = .ok x := rfl
@[simp] theorem ownL_12 (a0 a1 a2 a3 a4 a5 a6 a7 a8 a9 a10 a11 : Option Ow) (os : List Ow) (env : Ev) (k : List Ow → SR) : ownL 12 (a0 :: a1 :: a2 :: a3 :: a4 :: a5 :: a6 :: a7 :: a8 :: a9 :: a10 :: a11 :: some (.l os) :: env) k = k os := rfl
@[simp] theorem eVar_13 (a0 a1 a2 a3 a4 a5 a6 a7 a8 a9 a10 a11 a12 : Option Ow) (x : D) (env : Ev) : eVar 13 (a0 :: a1 :: a2 :: a3 :: a4 :: a5 :: a6 :: a7 :: a8 :: a9 :: a10 :: a11 :: a12 :: some (.d x) :: env) = .ok x := rfl
@[simp] theorem eVarO_13 (a0 a1 a2 a3 a4 a5 a6 a7 a8 a9 a10 a11 a12 : Option Ow) (x : Ow) (env : Ev) : eVarO 13 (a0 :: a1 :: a2 :: a3 :: a4 :: a5 :: a6 :: a7 :: a8 :: a9 :: a10 :: a11 :: a12 :: some x :: env) = .ok x := rfl
@[simp] theorem ownL_13 (a0 a1 a2 a3 a4 a5 a6 a7 a8 a9 a10 a11 a12 : Option Ow) (os : List Ow) (env : Ev) (k : List Ow → SR) : ownL 13 (a0 :: a1 :: a2 :: a3 :: a4 :: a5 :: a6 :: a7 :: a8 :: a9 :: a10 :: a11 :: a12 :: some (.l os) :: env) k = k os := rfl
@[simp] theorem eVar_14 (a0 a1 a2 a3 a4 a5 a6 a7 a8 a9 a10 a11 a12 a13 : Option Ow) (x : D) (env : Ev) : eVar 14 (a0 :: a1 :: a2 :: a3 :: a4 :: a5 :: a6 :: a7 :: a8 :: a9 :: a10 :: a11 :: a12 :: a13 :: some (.d x) :: env) = .ok x := rfl
@[simp] theorem eVarO_14 (a0 a1 a2 a3 a4 a5 a6 a7 a8 a9 a10 a11 a12 a13 : Option Ow) (x : Ow) (env : Ev) : eVarO 14 (a0 :: a1 :: a2 :: a3 :: a4 :: a5 :: a6 :: a7 :: a8 :: a9 :: a10 :: a11 :: a12 :: a13 :: some x :: env) = .ok x := rfl
@[simp] theorem ownL_14 (a0 a1 a2 a3 a4 a5 a6 a7 a8 a9 a10 a11 a12 a13 : Option Ow) (os : List Ow) (env : Ev) (k : List Ow → SR) : ownL 14 (a0 :: a1 :: a2 :: a3 :: a4 :: a5 :: a6 :: a7 :: a8 :: a9 :: a10 :: a11 :: a12 :: a13 :: some (.l os) :: env) k = k os := rfl
@[simp] theorem eVar_15 (a0 a1 a2 a3 a4 a5 a6 a7 a8 a9 a10 a11 a12 a13 a14 : Option Ow) (x : D) (env : Ev) : eVar 15 (a0 :: a1 :: a2 :: a3 :: a4 :: a5 :: a6 :: a7 :: a8 :: a9 :: a10 :: a11 :: a12 :: a13 :: a14 :: some (.d x) :: env) = .ok x := rfl
@[simp] theorem eVarO_15 (a0 a1 a2 a3 a4 a5 a6 a7 a8 a9 a10 a11 a12 a13 a14 : Option Ow) (x : Ow) (env : Ev) : eVarO 15 (a0 :: a1 :: a2 :: a3 :: a4 :: a5 :: a6 :: a7 :: a8 :: a9 :: a10 :: a11 :: a12 :: a13 :: a14 :: some x :: env) = .ok x := rfl
@[simp] theorem ownL_15 (a0 a1 a2 a3 a4 a5 a6 a7 a8 a9 a10 a11 a12 a13 a14 : Option Ow) (os : List Ow) (env : Ev) (k : List Ow → SR) : ownL 15 (a0 :: a1 :: a2 :: a3 :: a4 :: a5 :: a6 :: a7 :: a8 :: a9 :: a10 :: a11 :: a12 :: a13 :: a14 :: some (.l os) :: env) k = k os := rfl
@[simp] theorem eVar_16 (a0 a1 a2 a3 a4 a5 a6 a7 a8 a9 a10 a11 a12 a13 a14 a15 : Option Ow) (x : D) (env : Ev) : eVar 16 (a0 :: a1 :: a2 :: a3 :: a4 :: a5 :: a6 :: a7 :: a8 :: a9 :: a10 :: a11 :: a12 :: a13 :: a14 :: a15 :: some (.d x) :: env) = .ok x := rfl
@[simp] theorem eVarO_16 (a0 a1 a2 a3 a4 a5 a6 a7 a8 a9 a10 a11 a12 a13 a14 a15 : Option Ow) (x : Ow) (env : Ev) : eVarO 16 (a0 :: a1 :: a2 :: a3 :: a4 :: a5 :: a6 :: a7 :: a8 :: a9 :: a10 :: a11 :: a12 :: a13 :: a14 :: a15 :: some x :: env) = .ok x := rfl
@[simp] theorem ownL_16 (a0 a1 a2 a3 a4 a5 a6 a7 a8 a9 a10 a11 a12 a13 a14 a15 : Option Ow) (os : List Ow) (env : Ev) (k : List Ow → SR) : ownL 16 (a0 :: a1 :: a2 :: a3 :: a4 :: a5 :: a6 :: a7 :: a8 :: a9 :: a10 :: a11 :: a12 :: a13 :: a14 :: a15 :: some (.l os) :: env) k = k os := rfl
@[simp] theorem eVar_17 (a0 a1 a2 a3 a4 a5 a6 a7 a8 a9 a10 a11 a12 a13 a14 a15 a16 : Option Ow) (x : D) (env : Ev) : eVar 17 (a0 :: a1 :: a2 :: a3 :: a4 :: a5 :: a6 :: a7 :: a8 :: a9 :: a10 :: a11 :: a12 :: a13 :: a14 :: a15 :: a16 :: some (.d x) :: env) = .ok x := rfl
@[simp] theorem eVarO_17 (a0 a1 a2 a3 a4 a5 a6 a7 a8 a9 a10 a11 a12 a13 a14 a15 a16 : Option Ow) (x : Ow) (env : Ev) : eVarO 17 (a0 :: a1 :: a2 :: a3 :: a4 :: a5 :: a6 :: a7 :: a8 :: a9 :: a10 :: a11 :: a12 :: a13 :: a14 :: a15 :: a16 :: some x :: env) = .ok x := rfl
@[simp] theorem ownL_17 (a0 a1 a2 a3 a4 a5 a6 a7 a8 a9 a10 a11 a12 a13 a14 a15 a16 : Option Ow) (os : List Ow) (env : Ev) (k : List Ow → SR) : ownL 17 (a0 :: a1 :: a2 :: a3 :: a4 :: a5 :: a6 :: a7 :: a8 :: a9 :: a10 :: a11 :: a12 :: a13 :: a14 :: a15 :: a16 :: some (.l os) :: env) k = k os := rfl
@[simp] theorem eVar_18 (a0 a1 a2 a3 a4 a5 a6 a7 a8 a9 a10 a11 a12 a13 a14 a15 a16 a17 : Option Ow) (x : D) (env : Ev) : eVar 18 (a0 :: a1 :: a2 :: a3 :: a4 :: a5 :: a6 :: a7 :: a8 :: a9 :: a10 :: a11 :: a12 :: a13 :: a14 :: a15 :: a16 :: a17 :: some (.d x) :: env) = .ok x := rfl
@[simp] theorem eVarO_18 (a0 a1 a2 a3 a4 a5 a6 a7 a8 a9 a10 a11 a12 a13 a14 a15 a16 a17 : Option Ow) (x : Ow) (env : Ev) : eVarO 18 (a0 :: a1 :: a2 :: a3 :: a4 :: a5 :: a6 :: a7 :: a8 :: a9 :: a10 :: a11 :: a12 :: a13 :: a14 :: a15 :: a16 :: a17 :: some x :: env) = .ok x := rfl
@[simp] theorem ownL_18 (a0 a1 a2 a3 a4 a5 a6 a7 a8 a9 a10 a11 a12 a13 a14 a15 a16 a17 : Option Ow) (os : List Ow) (env : Ev) (k : List Ow → SR) : ownL 18 (a0 :: a1 :: a2 :: a3 :: a4 :: a5 :: a6 :: a7 :: a8 :: a9 :: a10 :: a11 :: a12 :: a13 :: a14 :: a15 :: a16 :: a17 :: some (.l os) :: env) k = k os := rfl
@[simp] theorem eVar_19 (a0 a1 a2 a3 a4 a5 a6 a7 a8 a9 a10 a11 a12 a13 a14 a15 a16 a17 a18 : Option Ow) (x : D) (env : Ev) : eVar 19 (a0 :: a1 :: a2 :: a3 :: a4 :: a5 :: a6 :: a7 :: a8 :: a9 :: a10 :: a11 :: a12 :: a13 :: a14 :: a15 :: a16 :: a17 :: a18 :: some (.d x) :: env) = .ok x := rfl
@[simp] theorem eVarO_19 (a0 a1 a2 a3 a4 a5 a6 a7 a8 a9 a10 a11 a12 a13 a14 a15 a16 a17 a18 : Option Ow) (x : Ow) (env : Ev) : eVarO 19 (a0 :: a1 :: a2 :: a3 :: a4 :: a5 :: a6 :: a7 :: a8 :: a9 :: a10 :: a11 :: a12 :: a13 :: a14 :: a15 :: a16 :: a17 :: a18 :: some x :: env) = .ok x := rfl
@[simp] theorem ownL_19 (a0 a1 a2 a3 a4 a5 a6 a7 a8 a9 a10 a11 a12 a13 a14 a15 a16 a17 a18 : Option Ow) (os : List Ow) (env : Ev) (k : List Ow → SR) : ownL 19 (a0 :: a1 :: a2 :: a3 :: a4 :: a5 :: a6 :: a7 :: a8 :: a9 :: a10 :: a11 :: a12 :: a13 :: a14 :: a15 :: a16 :: a17 :: a18 :: some (.l os) :: env) k = k os := rfl
@[simp] theorem eVar_20 (a0 a1 a2 a3 a4 a5 a6 a7 a8 a9 a10 a11 a12 a13 a14 a15 a16 a17 a18 a19 : Option Ow) (x : D) (env : Ev) : eVar 20 (a0 :: a1 :: a2 :: a3 :: a4 :: a5 :: a6 :: a7 :: a8 :: a9 :: a10 :: a11 :: a12 :: a13 :: a14 :: a15 :: a16 :: a17 :: a18 :: a19 :: some (.d x) :: env) = .ok x := rfl
@[simp] theorem eVarO_20 (a0 a1 a2 a3 a4 a5 a6 a7 a8 a9 a10 a11 a12 a13 a14 a15 a16 a17 a18 a19 : Option Ow) (x : Ow) (env : Ev) : eVarO 20 (a0 :: a1 :: a2 :: a3 :: a4 :: a5 :: a6 :: a7 :: a8 :: a9 :: a10 :: a11 :: a12 :: a13 :: a14 :: a15 :: a16 :: a17 :: a18 :: a19 :: some x :: env) = .ok x := rfl
@[simp] theorem ownL_20 (a0 a1 a2 a3 a4 a5 a6 a7 a8 a9 a10 a11 a12 a13 a14 a15 a16 a17 a18 a19 : Option Ow) (os : List Ow) (env : Ev) (k : List Ow → SR) : ownL 20 (a0 :: a1 :: a2 :: a3 :: a4 :: a5 :: a6 :: a7 :: a8 :: a9 :: a10 :: a11 :: a12 :: a13 :: a14 :: a15 :: a16 :: a17 :: a18 :: a19 :: some (.l os) :: env) k = k os := rfl
@[simp] theorem eVar_21 (a0 a1 a2 a3 a4 a5 a6 a7 a8 a9 a10 a11 a12 a13 a14 a15 a16 a17 a18 a19 a20 : Option Ow) (x : D) (env : Ev) : eVar 21 (a0 :: a1 :: a2 :: a3 :: a4 :: a5 :: a6 :: a7 :: a8 :: a9 :: a10 :: a11 :: a12 :: a13 :: a14 :: a15 :: a16 :: a17 :: a18 :: a19 :: a20 :: some (.d x) :: env) = .ok x := rfl
@[simp] theorem eVarO_21 (a0 a1 a2 a3 a4 a5 a6 a7 a8 a9 a10 a11 a12 a13 a14 a15 a16 a17 a18 a19 a20 : Option Ow) (x : Ow) (env : Ev) : eVarO 21 (a0 :: a1 :: a2 :: a3 :: a4 :: a5 :: a6 :: a7 :: a8 :: a9 :: a10 :: a11 :: a12 :: a13 :: a14 :: a15 :: a16 :: a17 :: a18 :: a19 :: a20 :: some x :: env) = .ok x := rfl
@[simp] theorem ownL_21 (a0 a1 a2 a3 a4 a5 a6 a7 a8 a9 a10 a11 a12 a13 a14 a15 a16 a17 a18 a19 a20 : Option Ow) (os : List Ow) (env : Ev) (k : List Ow → SR) : ownL 21 (a0 :: a1 :: a2 :: a3 :: a4 :: a5 :: a6 :: a7 :: a8 :: a9 :: a10 :: a11 :: a12 :: a13 :: a14 :: a15 :: a16 :: a17 :: a18 :: a19 :: a20 :: some (.l os) :: env) k = k os := rfl
@[simp] theorem eVar_22 (a0 a1 a2 a3 a4 a5 a6 a7 a8 a9 a10 a11 a12 a13 a14 a15 a16 a17 a18 a19 a20 a21 : Option Ow) (x : D) (env : Ev) : eVar 22 (a0 :: a1 :: a2 :: a3 :: a4 :: a5 :: a6 :: a7 :: a8 :: a9 :: a10 :: a11 :: a12 :: a13 :: a14 :: a15 :: a16 :: a17 :: a18 :: a19 :: a20 :: a21 :: some (.d x) :: env) = .ok x := rfl
@[simp] theorem eVarO_22 (a0 a1 a2 a3 a4 a5 a6 a7 a8 a9 a10 a11 a12 a13 a14 a15 a16 a17 a18 a19 a20 a21 : Option Ow) (x : Ow) (env : Ev) : eVarO 22 (a0 :: a1 :: a2 :: a3 :: a4 :: a5 :: a6 :: a7 :: a8 :: a9 :: a10 :: a11 :: a12 :: a13 :: a14 :: a15 :: a16 :: a17 :: a18 :: a19 :: a20 :: a21 :: some x :: env) = .ok x := rfl
@[simp] theorem ownL_22 (a0 a1 a2 a3 a4 a5 a6 a7 a8 a9 a10 a11 a12 a13 a14 a15 a16 a17 a18 a19 a20 a21 : Option Ow) (os : List Ow) (env : Ev) (k : List Ow → SR) : ownL 22 (a0 :: a1 :: a2 :: a3 :: a4 :: a5 :: a6 :: a7 :: a8 :: a9 :: a10 :: a11 :: a12 :: a13 :: a14 :: a15 :: a16 :: a17 :: a18 :: a19 :: a20 :: a21 :: some (.l os) :: env) k = k os := rfl
@[simp] theorem eVar_23 (a0 a1 a2 a3 a4 a5 a6 a7 a8 a9 a10 a11 a12 a13 a14 a15 a16 a17 a18 a19 a20 a21 a22 : Option Ow) (x : D) (env : Ev) : eVar 23 (a0 :: a1 :: a2 :: a3 :: a4 :: a5 :: a6 :: a7 :: a8 :: a9 :: a10 :: a11 :: a12 :: a13 :: a14 :: a15 :: a16 :: a17 :: a18 :: a19 :: a20 :: a21 :: a22 :: some (.d x) :: env) = .ok x := rfl
@[simp] theorem eVarO_23 (a0 a1 a2 a3 a4 a5 a6 a7 a8 a9 a10 a11 a12 a13 a14 a15 a16 a17 a18 a19 a20 a21 a22 : Option Ow) (x : Ow) (env : Ev) : eVarO 23 (a0 :: a1 :: a2 :: a3 :: a4 :: a5 :: a6 :: a7 :: a8 :: a9 :: a10 :: a11 :: a12 :: a13 :: a14 :: a15 :: a16 :: a17 :: a18 :: a19 :: a20 :: a21 :: a22 :: some x :: env) = .ok x := rfl
@[simp] theorem ownL_23 (a0 a1 a2 a3 a4 a5 a6 a7 a8 a9 a10 a11 a12 a13 a14 a15 a16 a17 a18 a19 a20 a21 a22 : Option Ow) (os : List Ow) (env : Ev) (k : List Ow → SR) : ownL 23 (a0 :: a1 :: a2 :: a3 :: a4 :: a5 :: a6 :: a7 :: a8 :: a9 :: a10 :: a11 :: a12 :: a13 :: a14 :: a15 :: a16 :: a17 :: a18 :: a19 :: a20 :: a21 :: a22 :: some (.l os) :: env) k = k os := rfl
@[simp] theorem eVar_24 (a0 a1 a2 a3 a4 a5 a6 a7 a8 a9 a10 a11 a12 a13 a14 a15 a16 a17 a18 a19 a20 a21 a22 a23 : Option Ow) (x : D) (env : Ev) : eVar 24 (a0 :: a1 :: a2 :: a3 :: a4 :: a5 :: a6 :: a7 :: a8 :: a9 :: a10 :: a11 :: a12 :: a13 :: a14 :: a15 :: a16 :: a17 :: a18 :: a19 :: a20 :: a21 :: a22 :: a23 :: some (.d x) :: env) = .ok x := rfl
@[simp] theorem eVarO_24 (a0 a1 a2 a3 a4 a5 a6 a7 a8 a9 a10 a11 a12 a13 a14 a15 a16 a17 a18 a19 a20 a21 a22 a23 : Option Ow) (x : Ow) (env : Ev) : eVarO 24 (a0 :: a1 :: a2 :: a3 :: a4 :: a5 :: a6 :: a7 :: a8 :: a9 :: a10 :: a11 :: a12 :: a13 :: a14 :: a15 :: a16 :: a17 :: a18 :: a19 :: a20 :: a21 :: a22 :: a23 :: some x :: env) = .ok x := rfl
@[simp] theorem ownL_24 (a0 a1 a2 a3 a4 a5 a6 a7 a8 a9 a10 a11 a12 a13 a14 a15 a16 a17 a18 a19 a20 a21 a22 a23 : Option Ow) (os : List Ow) (env : Ev) (k : List Ow → SR) : ownL 24 (a0 :: a1 :: a2 :: a3 :: a4 :: a5 :: a6 :: a7 :: a8 :: a9 :: a10 :: a11 :: a12 :: a13 :: a14 :: a15 :: a16 :: a17 :: a18 :: a19 :: a20 :: a21 :: a22 :: a23 :: some (.l os) :: env) k = k os := rfl
@[simp] theorem eVar_25 (a0 a1 a2 a3 a4 a5 a6 a7 a8 a9 a10 a11 a12 a13 a14 a15 a16 a17 a18 a19 a20 a21 a22 a23 a24 : Option Ow) (x : D) (env : Ev) : eVar 25 (a0 :: a1 :: a2 :: a3 :: a4 :: a5 :: a6 :: a7 :: a8 :: a9 :: a10 :: a11 :: a12 :: a13 :: a14 :: a15 :: a16 :: a17 :: a18 :: a19 :: a20 :: a21 :: a22 :: a23 :: a24 :: some (.d x) :: env) = .ok x := rfl
@[simp] theorem eVarO_25 (a0 a1 a2 a3 a4 a5 a6 a7 a8 a9 a10 a11 a12 a13 a14 a15 a16 a17 a18 a19 a20 a21 a22 a23 a24 : Option Ow) (x : Ow) (env : Ev) : eVarO 25 (a0 :: a1 :: a2 :: a3 :: a4 :: a5 :: a6 :: a7 :: a8 :: a9 :: a10 :: a11 :: a12 :: a13 :: a14 :: a15 :: a16 :: a17 :: a18 :: a19 :: a20 :: a21 :: a22 :: a23 :: a24 :: some x :: env) = .ok x := rfl
@[simp] theorem ownL_25 (a0 a1 a2 a3 a4 a5 a6 a7 a8 a9 a10 a11 a12 a13 a14 a15 a16 a17 a18 a19 a20 a21 a22 a23 a24 : Option Ow) (os : List Ow) (env : Ev) (k : List Ow → SR) : ownL 25 (a0 :: a1 :: a2 :: a3 :: a4 :: a5 :: a6 :: a7 :: a8 :: a9 :: a10 :: a11 :: a12 :: a13 :: a14 :: a15 :: a16 :: a17 :: a18 :: a19 :: a20 :: a21 :: a22 :: a23 :: a24 :: some (.l os) :: env) k = k os := rfl
theorem fin_step {f g : Ev → SR} {env env1 : Ev} {o : R Ow} (h1 : f env = .nx env1) (h2 : finR (g env1) = o) : finR (sSeq f g env) = o := by
  rw [sSeq_eq, h1]
  exact h2
end Mir
end
set_option Elab.async false
set_option linter.all false
set_option maxRecDepth 100000
set_option maxHeartbeats 4000000
noncomputable section
namespace Mir
open PySem PySem.Spec L2

def PostX (K : Kw) {α β : Type} (P : Hp → α → β → Prop) (F H : Hp) (fp : List Addr) (σ : L2.St) : R (α × Ev) → (β → Hp → Prop) → Prop
  | .ok (a, env), Q => ∀ v F' H' fp', StepS F H fp F' H' fp' → Sat K F' H' σ env fp' → P F' a v → Q v H'
  | _, _ => False
def SmX (K : Kw) {α β : Type} (P : Hp → α → β → Prop) (t : L2.St → Hp → (β → Hp → Prop) → Prop) (f : Ev → R (α × Ev)) : Prop :=
  ∀ F H σ env fp Q, Sat K F H σ env fp → PostX K P F H fp σ (f env) Q → t σ H Q
def XD (K : Kw) (F : Hp) (d : D) (v : V) : Prop := Dp K F v d
section
variable {K : Kw} {α β γ δ : Type} {P : Hp → α → β → Prop} {P2 : Hp → γ → δ → Prop} {F H F1 H1 : Hp} {fp fp1 : List Addr} {σ : L2.St}
theorem PostX.step {r : R (α × Ev)} {Q : β → Hp → Prop} (h : PostX K P F H fp σ r Q) (s : StepS F H fp F1 H1 fp1) : PostX K P F1 H1 fp1 σ r Q := by
  cases r with
  | no => exact h
  | ex c => exact h
  | ok p => exact fun v F' H' fp' s' => h v F' H' fp' (s.trans s')
theorem SmX.go {t : L2.St → Hp → (β → Hp → Prop) → Prop} {f : Ev → R (α × Ev)} (s : SmX K P t f) {g : α × Ev → R (γ × Ev)} {env : Ev} {Q : δ → Hp → Prop} {T : β → Hp → Prop} (sat : Sat K F H σ env fp) (h : PostX K P2 F H fp σ ((f env).bind g) Q)
    (k : ∀ a env1 v F1 H1 fp1, StepS F H fp F1 H1 fp1 → Sat K F1 H1 σ env1 fp1 → P F1 a v → PostX K P2 F1 H1 fp1 σ (g (a, env1)) Q → T v H1) : t σ H T := by
  refine s F H σ env fp T sat ?_
  cases e : f env with
  | no => rw [e] at h; exact h
  | ex c => rw [e] at h; exact h
  | ok p =>
    obtain ⟨a, env1⟩ := p
    rw [e] at h
    exact fun v F' H' fp' st sat' q => k a env1 v F' H' fp' st sat' q (PostX.step (show PostX K P2 F H fp σ (g (a, env1)) Q from h) st)
end
section
variable (X : Cx)
def DXF (e : Expr) (f : Ev → R (D × Ev)) : Prop := ∃ t, PE X e t ∧ SmX X.KK (XD X.KK) t f
end
section
variable {X : Cx} {W : WX} {e a b : Expr} {es : List Expr} {pos p : Pos} {x : Str}
/-- a plain expression -/
def xP (f : Ev → R D) (env : Ev) : R (D × Ev) := match f env with
  | .ok d => .ok (d, env)
  | _ => .no
def xBin (g : D → D → Option D) (f h : Ev → R (D × Ev)) (env : Ev) : R (D × Ev) := (f env).bind fun p => (h p.2).bind fun q => (R.of (g p.1 q.1)).bind fun d => .ok (d, q.2)
def xNil (env : Ev) : R (List D × Ev) := .ok ([], env)
def xCons (f : Ev → R (D × Ev)) (g : Ev → R (List D × Ev)) (env : Ev) : R (List D × Ev) := (f env).bind fun p => (g p.2).bind fun q => .ok (p.1 :: q.1, q.2)
/-- a def that changes nothing, called -/
def xCall (m : List D → R Ow) (fa : Ev → R (List D × Ev)) (env : Ev) : R (D × Ev) := (fa env).bind fun p => match m p.1 with
  | .ok r => .ok (viewD r, p.2)
  | _ => .no
/-- the own list in slot i, changed by a step within it -/
theorem Sat.chg {K : Kw} {F H : Hp} {σ : L2.St} {env : Ev} {fp : List Addr} (sat : Sat K F H σ env fp) {i : Nat} {dk : List D} (hi : env[i]? = some (some (.l (dk.map Ow.d)))) : ∃ a vs, σ[i]? = some (some (.ref a)) ∧ F a = none ∧ H a = some (.lst vs) ∧ DpAll K F vs dk ∧
    ∀ F' H' vs' dk', StepS F H [a] F' H' [a] → Same F' H' → F' a = none → H' a = some (.lst vs') → DpAll K F' vs' dk' → ∃ fp', StepS F H fp F' H' fp' ∧ Sat K F' H' σ (env.set i (some (.l (dk'.map Ow.d)))) fp' := by
  have hl : i < env.length := (List.getElem?_eq_some_iff.mp hi).1
  obtain ⟨fr, fo0, a1, a2, a3, a3', a4, a5, a6⟩ := sat.en.put hl sat.nd
  obtain ⟨v, e1, e2⟩ := a5 _ hi
  cases e2 with
  | @l a vs _ fo h1 h2 h3 =>
    obtain ⟨dp, rfl⟩ := OwnAll.dp h3
    refine ⟨a, vs, e1, h1, h2, dp, fun F' H' vs' dk' st sf fa ha dp' => ?_⟩
    have na : a ∉ fr := a4 a List.mem_cons_self
    obtain ⟨fp', b1, b2, b3⟩ := (a6 F' H' [a] [a] st fun b hb z => na (by rw [← List.mem_singleton.mp z]; exact hb)).2 (.ref a) (.l (dk'.map Ow.d)) [a] (.l fa ha (OwnAll.of_dp dp')) (by simp) fun b hb => by rw [List.mem_singleton.mp hb]; exact na
    rw [set_self e1] at b3
    refine ⟨fp', ⟨st.ff, fun b o q n => st.fr b o q fun z => n (by rw [List.mem_singleton.mp z]; exact a2 a List.mem_cons_self), fun b o q => (st.fn b o q).imp id (.imp (fun z => by rw [List.mem_singleton.mp z]; exact a2 a List.mem_cons_self) id), fun b hb => ?_⟩, sf, b3, b1⟩
    rcases b2 b hb with q | q
    · rw [List.mem_singleton.mp q]; exact .inl (a2 a List.mem_cons_self)
    · exact .inl (a1 b q)
def lstAt (i : Nat) (env : Ev) : Option (List D) := match env[i]? with
  | some (some (.l os)) => unDs os
  | _ => none
theorem lstAt_eq {i : Nat} {env : Ev} {dk : List D} (h : lstAt i env = some dk) : env[i]? = some (some (.l (dk.map Ow.d))) := by
  unfold lstAt at h
  split at h
  · rename_i os e
    rw [e, unDs_eq h]
  · cases h
/-- x.pop() -/
def xPop (i : Nat) (env : Ev) : R (D × Ev) := match lstAt i env with
  | none => .no
  | some dk => match dk.getLast? with
    | none => .no
    | some d => .ok (d, env.set i (some (.l (dk.dropLast.map Ow.d))))
theorem DpAll.dropLast {H : Hp} {K : Kw} {vs : List V} {ds : List D} (h : DpAll K H vs ds) : DpAll K H vs.dropLast ds.dropLast := by
  rw [List.dropLast_eq_take, List.dropLast_eq_take, DpAll.len h]
  exact Mir.DpAll.take _ h
theorem pop_step {F H : Hp} {a : Addr} {vs vs' : List V} (s : Same F H) (h : H a = some (.lst vs)) : StepS F H [a] F (upd H a (.lst vs')) [a] :=
  ⟨Same.refl _, fun b o e n => by rw [upd_ne (fun z => n (by simp [z]))]; exact e, fun b o e => .inl e, fun b z => .inl z⟩
theorem xf_pop {npos apos cpos : Pos} (i : Nat) (hN : X.N[i]? = some x := by rfl) (hv : Vis X.env.scope x := by first | exact Or.inl rfl | exact Or.inr (Or.inl rfl) | exact Or.inr (Or.inr rfl)) (hd : (x == ("__debug__" : Str)) = false := by decide) (hcd : (x == ("__classdict__" : Str)) = false := by decide)
    (hbase : attributeBase (.Name x npos) "pop" X.env (eval (.Name x npos) X.env) = eval (.Name x npos) X.env := by rfl) (hline : (apos.endLine == cpos.line) = true := by rfl) : DXF X (.Call (.Attribute (.Name x npos) "pop" apos) [] [] cpos) (xPop i) := by
  refine ⟨_, pe_bm0 PySem.F.plainAttrs_list PySem.F.slot_list_pop PySem.F.type_list_pop mt_pop (pe_var hN hv hd hcd) hbase hline, fun F H σ env fp Q sat hp => ?_⟩
  unfold xPop at hp
  cases e0 : lstAt i env with
  | none => rw [e0] at hp; exact hp.elim
  | some dk =>
  rw [e0] at hp
  simp only at hp
  obtain ⟨a, vs, b1, b2, b3, b4, b5⟩ := sat.chg (lstAt_eq e0)
  refine ⟨.ref a, b1, .inl ⟨rfl, vs, SqL.of b3⟩, ?_⟩
  cases el : dk.getLast? with
  | none => rw [el] at hp; exact hp.elim
  | some d =>
  rw [el] at hp
  have hl := DpAll.len b4
  rw [List.getLast?_eq_getElem?] at el
  obtain ⟨v, g1, g2⟩ := Mir.DpAll.get b4 el
  refine ⟨a, vs, v, rfl, rfl, b3, by rw [hl]; exact g1, ?_⟩
  obtain ⟨fp', d1, d2⟩ := b5 F (upd H a (.lst vs.dropLast)) vs.dropLast dk.dropLast (pop_step sat.fh b3) (mut_same sat.fh b2) b2 upd_same (Mir.DpAll.dropLast b4)
  exact hp v F _ fp' d1 d2 g2
end
end Mir
end
set_option Elab.async false
set_option linter.all false
set_option maxRecDepth 100000
set_option maxHeartbeats 4000000
noncomputable section
namespace Mir
open PySem PySem.Spec L2

def tOfX (K : Kw) (f : Ev → R (D × Ev)) : TE := fun σ H Q => ∃ F env fp, Sat K F H σ env fp ∧ PostX K (XD K) F H fp σ (f env) Q
theorem DXF.can {X : Cx} {e : Expr} {f : Ev → R (D × Ev)} (h : DXF X e f) : PE X e (tOfX X.KK f) := by
  obtain ⟨t, p, s⟩ := h
  refine PE.imp p ?_
  rintro σ H Q ⟨F, env, fp, sat, h⟩
  exact s F H σ env fp Q sat h
section
variable {X : Cx} {W : WX} {S : Nat → Bool} {pos : Pos}
def xSet (i : Nat) (r : R (D × Ev)) : SR := match r with
  | .ok (d, env1) => if i < env1.length then .nx (env1.set i (some (.d d))) else .no
  | _ => .no
def sXSet (i : Nat) (f : Ev → R (D × Ev)) (env : Ev) : SR := xSet i (f env)
def sXRet (f : Ev → R (D × Ev)) (env : Ev) : SR := match f env with
  | .ok (d, env1) => .rt (.d d) env1
  | _ => .no
/-- tuple(e), list handed -/
def xCa (g : List D → Option Ow) (fa : Ev → R (List D × Ev)) (env : Ev) : R (D × Ev) := (fa env).bind fun p => match g p.1 with
  | some r => .ok (viewD r, p.2)
  | none => .no
end
section
variable {P : Program} {w : World} {K : PySem.W.Frag} {mg : Str → Option Value} {base : Heap}
end
end Mir
end
set_option Elab.async false
set_option linter.all false
set_option maxRecDepth 100000
set_option maxHeartbeats 4000000
noncomputable section
namespace RT
open PySem PySem.Spec PyProof.Rows
section
variable {prog : Program} {w : World} {A : Around} {E : Value → Shared → Prop} {s : Shared}
end
end RT
namespace Mir
open PySem PySem.Spec PyProof.Rows L2 RT
section
variable {X : Cx} {W : WX}
def gListRev : D → Option Ow
  | .list ds => some (.l (ds.reverse.map Ow.d))
  | _ => none
@[simp] theorem gListRev_list (ds : List D) : gListRev (.list ds) = some (.l (ds.reverse.map Ow.d)) := rfl
theorem DpAll.reverse {K : Kw} {H : Hp} : ∀ {ds : List D} {vs : List V}, DpAll K H vs ds → DpAll K H vs.reverse ds.reverse
  | [], _, h => by cases h; exact .nil
  | d :: ds, _, h => by
    cases h with
    | cons h1 h2 =>
      rw [List.reverse_cons, List.reverse_cons]
      exact Mir.DpAll.append (DpAll.reverse h2) (.cons h1 .nil)
def eListRev (f : Ev → R D) (env : Ev) : R Ow := (f env).bind fun d => R.of (gListRev d)
@[simp] theorem eListRev_eq (f : Ev → R D) (env : Ev) : eListRev f env = (f env).bind fun d => R.of (gListRev d) := rfl
end
end Mir
end
set_option Elab.async false
set_option linter.all false
set_option maxRecDepth 100000
set_option maxHeartbeats 4000000
noncomputable section
namespace Mir
open PySem PySem.Spec PyProof.Rows L2
def repS (z : Str) (n : Nat) : Str := ⟨(List.replicate n z.cps.toList).flatten.toArray⟩
section
variable {X : Cx} {W : WX} {a b : Expr} {pos : Pos} {f g : Ev → R D}
def gMulS : D → D → Option D
  | .int i, .int j => gMul (.int i) (.int j)
  | .str z, .int n => if 1 ≤ n ∧ n ≤ 1000000 ∧ z.length * n.toNat ≤ sizeLine then some (.str (repS z n.toNat)) else none
  | _, _ => none
@[simp] theorem gMulS_int (i j : Int) : gMulS (.int i) (.int j) = gMul (.int i) (.int j) := rfl
def gIsB : D → D → Option D
  | .bool p, .bool q => some (.bool (p == q))
  | _, _ => none
def gNotB : D → D → Option D
  | .bool p, .bool q => some (.bool (!(p == q)))
  | _, _ => none
@[simp] theorem gIsB_bool (p q : Bool) : gIsB (.bool p) (.bool q) = some (.bool (p == q)) := rfl
@[simp] theorem gNotB_bool (p q : Bool) : gNotB (.bool p) (.bool q) = some (.bool (!(p == q))) := rfl
section
variable {F G : Ev → R (D × Ev)}
end
end
end Mir
end
set_option Elab.async false
set_option linter.all false
set_option maxRecDepth 100000
set_option maxHeartbeats 4000000
noncomputable section
namespace Mir
open PySem PySem.Spec L2
section
variable {X : Cx} {W : WX} {S : Nat → Bool} {pos : Pos}
/-- a target stored from an expression that changes own lists -/
def sXAsg (g : D → Ev → Option Ev) (f : Ev → R (D × Ev)) (env : Ev) : SR := match f env with
  | .ok (d, env1) => match g d env1 with
    | some env2 => .nx env2
    | none => .no
  | _ => .no
theorem ds_xasg {e : Expr} {f : Ev → R (D × Ev)} {g : D → Ev → Option Ev} {tg : Expr} {ix : List Nat} (he : DXF X e f) (hg : DG X tg ix g) (hs : swapsWithSole [tg] e pos.line X.env = pure false := by rfl) (hw : swappedStores [tg] e X.env = pure none := by rfl)
    (h1 : (assignEach [tg] X.env).map (·.2) = [assign tg X.env] := by rfl) (hS : ix.all S = true := by rfl) : DS X W S (.Assign [tg] e pos) (sXAsg g f) := by
  obtain ⟨t, p, s⟩ := he
  refine ⟨_, ps_asg p hg hs hw h1, fun F H σ env fp D sat h => ?_⟩
  refine s F H σ env fp _ sat ?_
  unfold sXAsg at h
  cases e : f env with
  | no => rw [e] at h; exact h
  | ex c => rw [e] at h; exact h
  | ok pr =>
    obtain ⟨d, env1⟩ := pr
    rw [e] at h
    intro v F1 H1 fp1 st sat1 q
    have h' : PostS X W S σ F H fp D (match g d env1 with
      | some env2 => .nx env2
      | none => .no) := h
    split at h'
    · rename_i env2 e2
      exact ⟨F1, env1, fp1, d, env2, sat1, q, e2, fun σ' fp' sat' sub off => h' σ' F1 H1 fp' (.of off hS) (st.subset sub) sat'⟩
    · exact h'.elim
end
def flatD : D → Bool
  | .none => true
  | .bool _ => true
  | .int _ => true
  | .str _ => true
  | _ => false
def flatR : R Ow → R D
  | .ok (.d x) => if flatD x = true then .ok x else .no
  | .ex c => .ex c
  | _ => .no
def eCallV (m : List D → R Ow) (fa : Ev → R (List D)) (env : Ev) : R D := (fa env).bind fun ds => flatR (m ds)
@[simp] theorem eCallV_eq (m : List D → R Ow) (fa : Ev → R (List D)) (env : Ev) : eCallV m fa env = (fa env).bind fun ds => flatR (m ds) := rfl
@[simp] theorem flatR_bool (b : Bool) : flatR (.ok (.d (.bool b))) = .ok (.bool b) := rfl
@[simp] theorem flatR_int (b : Int) : flatR (.ok (.d (.int b))) = .ok (.int b) := rfl
@[simp] theorem flatR_none : flatR (.ok (.d .none)) = .ok .none := rfl
section
variable {X : Cx} {W : WX} {e : Expr} {es : List Expr} {pos p : Pos}
end
section
variable (env : Ev)
theorem lstAt_of {i : Nat} {env : Ev} {dk : List D} (h : env[i]? = some (some (.l (dk.map Ow.d)))) : lstAt i env = some dk := by unfold lstAt; rw [h]; exact unDs_map dk
@[simp] theorem lstAt_0 (dk : List D) : lstAt 0 (some (.l (dk.map Ow.d)) :: env) = some dk := lstAt_of rfl
@[simp] theorem lstAt_0n : lstAt 0 (some (.l []) :: env) = some [] := rfl
@[simp] theorem lstAt_s (i : Nat) (x : Option Ow) : lstAt (i + 1) (x :: env) = lstAt i env := by unfold lstAt; rw [List.getElem?_cons_succ]
@[simp] theorem xP_eq (f : Ev → R D) : xP f env = match f env with
  | .ok d => .ok (d, env)
  | _ => .no := rfl
@[simp] theorem xBin_eq (g : D → D → Option D) (f h : Ev → R (D × Ev)) : xBin g f h env = (f env).bind fun p => (h p.2).bind fun q => (R.of (g p.1 q.1)).bind fun d => .ok (d, q.2) := rfl
@[simp] theorem xNil_eq : xNil env = .ok ([], env) := rfl
@[simp] theorem xCons_eq (f : Ev → R (D × Ev)) (g : Ev → R (List D × Ev)) : xCons f g env = (f env).bind fun p => (g p.2).bind fun q => .ok (p.1 :: q.1, q.2) := rfl
@[simp] theorem xCall_eq (m : List D → R Ow) (fa : Ev → R (List D × Ev)) : xCall m fa env = (fa env).bind fun p => match m p.1 with
  | .ok r => .ok (viewD r, p.2)
  | _ => .no := rfl
@[simp] theorem xCa_eq (g : List D → Option Ow) (fa : Ev → R (List D × Ev)) : xCa g fa env = (fa env).bind fun p => match g p.1 with
  | some r => .ok (viewD r, p.2)
  | none => .no := rfl
@[simp] theorem sXSet_eq (i : Nat) (f : Ev → R (D × Ev)) : sXSet i f env = match f env with
  | .ok (d, env1) => if i < env1.length then .nx (env1.set i (some (.d d))) else .no
  | _ => .no := by unfold sXSet xSet; rfl
@[simp] theorem sXRet_eq (f : Ev → R (D × Ev)) : sXRet f env = match f env with
  | .ok (d, env1) => .rt (.d d) env1
  | _ => .no := rfl
@[simp] theorem sXAsg_eq (g : D → Ev → Option Ev) (f : Ev → R (D × Ev)) : sXAsg g f env = match f env with
  | .ok (d, env1) => match g d env1 with
    | some env2 => .nx env2
    | none => .no
  | _ => .no := rfl
theorem xPop_of {i : Nat} {env : Ev} {dk : List D} {d : D} (h : env[i]? = some (some (.l ((dk ++ [d]).map Ow.d)))) : xPop i env = .ok (d, env.set i (some (.l (dk.map Ow.d)))) := by
  unfold xPop
  rw [lstAt_of h]
  simp
end
end Mir
end
set_option Elab.async false
set_option linter.all false
set_option maxRecDepth 100000
set_option maxHeartbeats 4000000
noncomputable section
namespace Mir
open PySem PySem.Spec PyProof.Rows L2
def strsD : List D → Option (List Str)
  | [] => some []
  | .str z :: ds => (strsD ds).map fun zs => z :: zs
  | _ :: _ => none
theorem strsD_map : ∀ zs : List Str, strsD (zs.map PyData.str) = some zs
  | [] => rfl
  | z :: zs => by rw [List.map_cons, strsD, strsD_map zs]; rfl
theorem strsD_dp {K : Kw} {F : Hp} : ∀ {ds : List D} {vs : List V} {zs : List Str}, DpAll K F vs ds → strsD ds = some zs → vs = zs.map V.str
  | [], vs, zs, h, e => by cases h; cases e; rfl
  | d :: ds, vs, zs, h, e => by
    cases h with
    | cons h1 h2 =>
      unfold strsD at e
      split at e
      · rename_i he; cases he
      · rename_i z ds' he
        cases he
        obtain ⟨ws, w1, rfl⟩ := Option.map_eq_some_iff.mp e
        rw [strsD_dp h2 w1, List.map_cons]
        cases dp_str h1
        rfl
      · cases e
def joinS (a : Str) (ys : List Str) : Option D := open Classical in if (ys.map (·.length)).sum + ys.length * a.length ≤ 16777216 then some (.str (Txt.join a ys)) else none
def gJoin : D → D → Option D
  | .str a, .list ds => (strsD ds).bind (joinS a)
  | .str a, .tuple ds => (strsD ds).bind (joinS a)
  | _, _ => none
theorem joinS_ok {a : Str} {ys : List Str} (h : (ys.map (·.length)).sum + ys.length * a.length ≤ 16777216) : joinS a ys = some (.str (Txt.join a ys)) := by
  unfold joinS
  rw [if_pos h]
theorem gJoin_list {a : Str} {ys : List Str} (h : (ys.map (·.length)).sum + ys.length * a.length ≤ 16777216) : gJoin (.str a) (.list (ys.map PyData.str)) = some (.str (Txt.join a ys)) := by
  show (strsD _).bind _ = _
  rw [strsD_map]
  exact joinS_ok h
def eJoin (f g : Ev → R D) (env : Ev) : R D := (f env).bind fun d => match d with
  | .str z => (g env).bind fun d' => R.of (gJoin (.str z) d')
  | _ => .no
theorem eJoin_eq {f g : Ev → R D} {env : Ev} {a : Str} {d : D} (h : f env = .ok (.str a)) (h2 : g env = .ok d) : eJoin f g env = R.of (gJoin (.str a) d) := by
  unfold eJoin
  rw [h, R.bind_ok]
  simp only [h2, R.bind_ok]
section
variable {X : Cx} {W : WX} {o e : Expr} {apos pos : Pos} {f g : Ev → R D}
theorem joinS_some {a : Str} {ys : List Str} {d : D} (h : joinS a ys = some d) : (ys.map (·.length)).sum + ys.length * a.length ≤ 16777216 ∧ d = .str (Txt.join a ys) := by
  unfold joinS at h
  split at h
  · rename_i c
    exact ⟨c, (Option.some.inj h).symm⟩
  · cases h
theorem df_join (ho : DV X W o f) (he : DL X W e g)
    (hs : starEach [e] X.env = [(false, eval e X.env)] := by rfl)
    (hb : attributeBase o (Str.ofString "join") X.env (eval o X.env) = eval o X.env := by rfl)
    (hp : (apos.endLine == pos.line) = true := by rfl) : DF X W (.Call (.Attribute o "join" apos) [e] [] pos) (eJoin f g) := by
  obtain ⟨ta, pa, sa⟩ := ho
  obtain ⟨tb, pb, sb⟩ := he
  refine ⟨_, pe_join pa pb hs hb hp, fun F H σ env fp Q sat hp => ?_⟩
  refine sa.go sat hp fun d v F1 H1 sat1 q _ h1 => ?_
  have key : ∀ z, d = .str z → (∃ a, v = V.str a) := fun z hz => by subst hz; cases dp_str q; exact ⟨_, rfl⟩
  cases d with
  | str z =>
    refine ⟨key z rfl, ?_⟩
    cases dp_str q
    refine sb.go sat1 h1 fun d' v' F2 H2 sat2 q' x2 h2 => ?_
    obtain ⟨r, hr, h3⟩ := post_of h2
    cases d' with
    | list ds =>
      obtain ⟨ys, y1, y2⟩ := Option.bind_eq_some_iff.mp hr
      obtain ⟨c, rfl⟩ := joinS_some y2
      obtain ⟨p, vs, rfl, p1, p2⟩ := q'
      have ev := strsD_dp p2 y1
      subst ev
      exact ⟨z, p, ys, rfl, rfl, .inl p1, c, h3 _ _ _ (.refl sat2.fh) (.str _)⟩
    | tuple ds =>
      obtain ⟨ys, y1, y2⟩ := Option.bind_eq_some_iff.mp hr
      obtain ⟨c, rfl⟩ := joinS_some y2
      obtain ⟨p, vs, rfl, p1, p2⟩ := dp_tup q'
      have ev := strsD_dp p2 y1
      subst ev
      exact ⟨z, p, ys, rfl, rfl, .inr (SqT_mono sat2.fh p1), c, h3 _ _ _ (.refl sat2.fh) (.str _)⟩
    | _ => cases hr
  | _ => exact h1.elim
end
end Mir
end
set_option Elab.async false
set_option linter.all false
set_option maxRecDepth 100000
set_option maxHeartbeats 4000000
noncomputable section
namespace Mir
open PySem PySem.Spec PyProof.Rows L2
section
variable {X : Cx} {W : WX} {S : Nat → Bool} {e a b : Expr} {es : List Expr} {pos p : Pos} {x : Str}
def xTup (f : Ev → R (List D × Ev)) (env : Ev) : R (D × Ev) := (f env).bind fun p => guard (p.1.length ≤ sizeLine) (.ok (.tuple p.1, p.2))
def xBinO (g : D → D → Option Ow) (f h : Ev → R (D × Ev)) (env : Ev) : R (D × Ev) := (f env).bind fun p => (h p.2).bind fun q => (R.of (g p.1 q.1)).bind fun o => .ok (viewD o, q.2)
def xRg1 (f : Ev → R (List D × Ev)) (env : Ev) : R (List D × Ev) := (f env).bind fun p => (rg1 p.1).bind fun ds => .ok (ds, p.2)
end
section
variable {X : Cx} {W : WX} {S : Nat → Bool} {e : Expr} {pos cpos apos npos : Pos} {x : Str}
section
variable (env : Ev)
@[simp] theorem xTup_eq (f : Ev → R (List D × Ev)) : xTup f env = (f env).bind fun p => guard (p.1.length ≤ sizeLine) (.ok (.tuple p.1, p.2)) := rfl
@[simp] theorem xBinO_eq (g : D → D → Option Ow) (f h : Ev → R (D × Ev)) : xBinO g f h env = (f env).bind fun p => (h p.2).bind fun q => (R.of (g p.1 q.1)).bind fun o => .ok (viewD o, q.2) := rfl
@[simp] theorem xRg1_eq (f : Ev → R (List D × Ev)) : xRg1 f env = (f env).bind fun p => (rg1 p.1).bind fun ds => .ok (ds, p.2) := rfl
end
end
end Mir
end
set_option Elab.async false
set_option linter.all false
set_option maxRecDepth 100000
set_option maxHeartbeats 4000000
noncomputable section
namespace Mir
open PySem PySem.Spec PyProof.Rows L2
def pairsD : List D → Option (List (Str × D))
  | [] => some []
  | .tuple [.str k, v] :: ds => (pairsD ds).map fun r => (k, v) :: r
  | _ :: _ => none
/-- the last pair of the key -/
def lastP : List (Str × D) → Str → Option D
  | [], _ => none
  | p :: ps, k => (lastP ps k).or (if p.1 = k then some p.2 else none)
def asPairs : D → Option (List (Str × D))
  | .list ds => pairsD ds
  | _ => none
def lookP (ps : List (Str × D)) : D → Option D
  | .str k => lastP ps k
  | _ => none
def eDictIx (f g : Ev → R D) (env : Ev) : R D := (f env).bind fun d => match asPairs d with
  | none => .no
  | some ps => (g env).bind fun k => R.of (lookP ps k)
def inP (ps : List (Str × D)) (no : Bool) : D → Option D
  | .str k => some (.bool ((lastP ps k).isSome != no))
  | _ => none
def eInDict (no : Bool) (g f : Ev → R D) (env : Ev) : R D := (g env).bind fun k => (f env).bind fun d => match asPairs d with
  | none => .no
  | some ps => R.of (inP ps no k)
@[simp] theorem eDictIx_eq (f g : Ev → R D) (env : Ev) : eDictIx f g env = (f env).bind fun d => match asPairs d with
  | none => .no
  | some ps => (g env).bind fun k => R.of (lookP ps k) := rfl
@[simp] theorem eInDict_eq (no : Bool) (g f : Ev → R D) (env : Ev) : eInDict no g f env = (g env).bind fun k => (f env).bind fun d => match asPairs d with
  | none => .no
  | some ps => R.of (inP ps no k) := rfl
@[simp] theorem lookP_str (ps : List (Str × D)) (k : Str) : lookP ps (.str k) = lastP ps k := rfl
@[simp] theorem inP_str (ps : List (Str × D)) (no : Bool) (k : Str) : inP ps no (.str k) = some (.bool ((lastP ps k).isSome != no)) := rfl
section
variable {X : Cx} {W : WX} {e key : Expr} {p pos cpos : Pos} {f g : Ev → R D}
end
section
variable {X : Cx} {W : WX} {a b c : Expr} {pos : Pos} {f g h : Ev → R D}
end
end Mir
end
set_option Elab.async false
set_option linter.all false
set_option maxRecDepth 100000
set_option maxHeartbeats 4000000
noncomputable section
namespace Mir
open PySem PySem.Spec PyProof.Rows L2
theorem fits (x : Int) (h : -(2 ^ 62) ≤ x) (h' : x < 2 ^ 62) : Builtin.Range.rangeFitsLong x = true := by
  unfold Builtin.Range.rangeFitsLong
  simp only [Bool.and_eq_true, decide_eq_true_eq]
  constructor <;> omega
section
variable {X : Cx} {W : WX} {tg e e2 e3 : Expr} {p pos : Pos} {fa : Ev → R (List D)}
end
end Mir
end
set_option Elab.async false
set_option linter.all false
set_option maxRecDepth 100000
set_option maxHeartbeats 4000000
noncomputable section
namespace Mir
open PySem PySem.Spec PyProof.Rows L2
open AutoSeq1 (wpAny_loadPart')
section
variable {X : Cx} {W : WX} {S : Nat → Bool} {e : Expr} {pos cpos apos npos : Pos} {x : Str}
def asT : D → R (List D)
  | .tuple ds => .ok ds
  | _ => .no
@[simp] theorem asT_tup (ds : List D) : asT (.tuple ds) = .ok ds := rfl
def sExtT (i : Nat) (f : Ev → R D) (env : Ev) : SR := ownL i env fun os => (f env).st env fun d => (asT d).st env fun ds => if os.length + ds.length ≤ sizeLine then .nx (env.set i (some (.l (os ++ ds.map Ow.d)))) else .no
@[simp] theorem sExtT_eq (i : Nat) (f : Ev → R D) (env : Ev) : sExtT i f env = ownL i env fun os => (f env).st env fun d => (asT d).st env fun ds => if os.length + ds.length ≤ sizeLine then .nx (env.set i (some (.l (os ++ ds.map Ow.d)))) else .no := rfl
end
end Mir
end
set_option Elab.async false
set_option linter.all false
set_option maxRecDepth 100000
set_option maxHeartbeats 4000000
noncomputable section
namespace Mir
open PySem PySem.Spec PySem.Calls PyProof.Rows L2
def keyEq : D → D → Bool
  | .int i, .int j => i == j
  | .str x, .str y => x == y
  | _, _ => false
def isKey : D → Bool
  | .int _ => true
  | .str _ => true
  | _ => false
def getP (ps : List (D × D)) (k : D) : Option D := (ps.find? fun p => keyEq p.1 k).map (·.2)
def putP (ps : List (D × D)) (k v : D) : List (D × D) := if (ps.any fun p => keyEq p.1 k) = true then ps.map (fun p => if keyEq p.1 k = true then (p.1, v) else p) else ps ++ [(k, v)]
theorem key_of_data {k : D} (h : isKey k = true) : ∃ q : Key, k = keyD q := by
  cases k <;> first | cases h; done | skip
  · exact ⟨.inl _, rfl⟩
  · exact ⟨.inr _, rfl⟩
theorem keyEq_iff (p q : Key) : keyEq (keyD p) (keyD q) = decide (p = q) := by
  cases p <;> cases q <;> simp [keyD, keyEq] <;> rfl
theorem key_dp {K : Kw} {H : Hp} {v : V} {q : Key} (h : Dp K H v (keyD q)) : v = kV q := by
  cases q with
  | inl i => cases h; rfl
  | inr z => cases h; rfl
theorem dp_key {K : Kw} (H : Hp) (q : Key) : Dp K H (kV q) (keyD q) := by
  cases q with
  | inl i => exact .int i
  | inr z => exact .str z
theorem dpKv_len {K : Kw} {H : Hp} : ∀ {kvs : List (Key × V)} {ps : List (D × D)}, DpKv K H kvs ps → kvs.length = ps.length
  | [], _, h => by cases h; rfl
  | p :: kvs, _, h => by
    cases h with
    | cons h1 h2 => simp [dpKv_len h2]
theorem dpKv_any {K : Kw} {H : Hp} (q : Key) : ∀ {kvs : List (Key × V)} {ps : List (D × D)}, DpKv K H kvs ps → (ps.any fun p => keyEq p.1 (keyD q)) = (kvs.any fun kv => decide (kv.1 = q))
  | [], _, h => by cases h; rfl
  | p :: kvs, _, h => by
    cases h with
    | cons h1 h2 =>
      rw [List.any_cons, List.any_cons, dpKv_any q h2]
      show (keyEq (keyD _) (keyD q) || _) = _
      rw [keyEq_iff]
theorem dpKv_get {K : Kw} {H : Hp} (q : Key) : ∀ {kvs : List (Key × V)} {ps : List (D × D)}, DpKv K H kvs ps → (getP ps (keyD q) = none ∧ valV kvs q = none) ∨ ∃ d v, getP ps (keyD q) = some d ∧ valV kvs q = some v ∧ Dp K H v d
  | [], _, h => by cases h; exact .inl ⟨rfl, rfl⟩
  | p :: kvs, _, h => by
    cases h with
    | @cons k v _ d ps h1 h2 =>
      by_cases c : k = q
      · refine .inr ⟨d, v, ?_, valV_pos c, h1⟩
        unfold getP
        rw [List.find?_cons_of_pos (by rw [keyEq_iff]; simpa using c)]
        rfl
      · have e1 : getP ((keyD k, d) :: ps) (keyD q) = getP ps (keyD q) := by
          unfold getP
          rw [List.find?_cons_of_neg (by rw [keyEq_iff]; simpa using c)]
        have e2 : valV ((k, v) :: kvs) q = valV kvs q := valV_neg c
        rw [e1, e2]
        exact dpKv_get q h2
theorem dpKv_map {K : Kw} {H : Hp} (q : Key) {w : V} {x : D} (hw : Dp K H w x) : ∀ {kvs : List (Key × V)} {ps : List (D × D)}, DpKv K H kvs ps → DpKv K H (kvs.map fun kv => if kv.1 = q then (kv.1, w) else kv) (ps.map fun p => if keyEq p.1 (keyD q) = true then (p.1, x) else p)
  | [], _, h => by cases h; exact .nil
  | p :: kvs, _, h => by
    cases h with
    | @cons k v _ d ps h1 h2 =>
      rw [List.map_cons, List.map_cons]
      have e : keyEq (keyD k) (keyD q) = decide (k = q) := keyEq_iff k q
      simp only [e, decide_eq_true_eq]
      by_cases c : k = q
      · rw [if_pos c, if_pos c]
        exact .cons hw (dpKv_map q hw h2)
      · rw [if_neg c, if_neg c]
        exact .cons h1 (dpKv_map q hw h2)
theorem dpKv_snoc {K : Kw} {H : Hp} {q : Key} {w : V} {x : D} (hw : Dp K H w x) : ∀ {kvs : List (Key × V)} {ps : List (D × D)}, DpKv K H kvs ps → DpKv K H (kvs ++ [(q, w)]) (ps ++ [(keyD q, x)])
  | [], _, h => by cases h; exact .cons hw .nil
  | p :: kvs, _, h => by
    cases h with
    | cons h1 h2 => exact .cons h1 (dpKv_snoc hw h2)
theorem dpKv_put {K : Kw} {H : Hp} {q : Key} {w : V} {x : D} (hw : Dp K H w x) {kvs : List (Key × V)} {ps : List (D × D)} (h : DpKv K H kvs ps) : DpKv K H (putK kvs q w) (putP ps (keyD q) x) := by
  unfold putK putP
  rw [dpKv_any q h]
  split
  · exact dpKv_map q hw h
  · exact dpKv_snoc hw h
section
variable {X : Cx} {W : WX} {S : Nat → Bool} {e k : Expr} {pos tpos npos p2 : Pos} {x : Str} {f g : Ev → R D}
/-- {} -/
def eDictNew (_ : Ev) : R Ow := .ok (.m [])
@[simp] theorem eDictNew_eq (env : Ev) : eDictNew env = .ok (.m []) := rfl
theorem de_dictNew : DE X W (.Dict [] [] pos) eDictNew := by
  refine ⟨_, pe_dnewK, fun F H σ env fp Q sat hp => ?_⟩
  intro p hn
  refine hp _ F _ (Ext.own sat.fh hn _) ⟨[p], .m (free_of sat.fh hn) upd_same .nil, by simp, fun b hb => by rw [List.mem_singleton.mp hb]; exact hn⟩
/-- the own dict at a slot -/
def mAt (i : Nat) (env : Ev) : Option (List (D × D)) := match env[i]? with
  | some (some (.m ps)) => some ps
  | _ => none
theorem mAt_eq {i : Nat} {env : Ev} {ps : List (D × D)} (h : mAt i env = some ps) : env[i]? = some (some (.m ps)) := by
  unfold mAt at h
  split at h
  · cases h; assumption
  · cases h
theorem keyEq_ref {K : Kw} {H : Hp} {b : Addr} {x : D} (q : Key) (h : Dp K H (.ref b) x) : keyEq x (keyD q) = false := by
  cases q <;> (cases h <;> rfl)
theorem getP_dcn {K : Kw} {H : Hp} (q : Key) : ∀ {ps : List (D × D)} {kvs : List (NestedKey × Addr × V)}, DpKn K H kvs ps → getP ps (keyD q) = none
  | [], _, _ => rfl
  | _ :: ps, _, h => by
    cases h with
    | cons h1 h2 h3 h4 =>
      unfold getP
      rw [List.find?_cons_of_neg (by rw [keyEq_ref q h1]; exact Bool.false_ne_true)]
      exact getP_dcn q h4
theorem getP_non {x : D} (q : Key) : getP [(.none, x)] (keyD q) = none := by cases q <;> rfl
/-- d[k], d any data that is a dict -/
def gGetD : D → D → Option D
  | .dict ps, k => if isKey k = true then getP ps k else none
  | _, _ => none
/-- the dict in slot i, and what is left when it is changed -/
theorem mut_stepO {F H F1 H1 : Hp} {a : Addr} {o o' : HO} (x : Ext F H F1 H1) (hf : F a = none) (h : H a = some o) : StepS F H [a] F1 (upd H1 a o') [a] := by
  refine ⟨x.ff, fun b u q n => ?_, fun b u q => (x.fn b u q).imp id .inr, fun b hb => .inl hb⟩
  rw [upd_ne (fun e => n (by rw [e]; exact List.mem_singleton.mpr rfl))]
  exact x.hh _ _ q
theorem mut_freeO {F H F1 H1 : Hp} {a : Addr} {o : HO} (x : Ext F H F1 H1) (hf : F a = none) (h : H a = some o) : F1 a = none := by
  cases q : F1 a with
  | none => rfl
  | some u =>
    rcases x.fn a u q with z | z
    · rw [hf] at z; cases z
    · rw [h] at z; cases z
theorem Sat.mutM {K : Kw} {F H : Hp} {σ : L2.St} {env : Ev} {fp : List Addr} (sat : Sat K F H σ env fp) {i : Nat} {ps : List (D × D)} (hi : env[i]? = some (some (.m ps))) : ∃ a kvs, σ[i]? = some (some (.ref a)) ∧ H a = some (.dK kvs) ∧ DpKv K F kvs ps ∧
    ∀ F1 H1 kvs' ps', Ext F H F1 H1 → DpKv K F1 kvs' ps' → ∃ fp', StepS F H fp F1 (upd H1 a (.dK kvs')) fp' ∧ Sat K F1 (upd H1 a (.dK kvs')) σ (env.set i (some (.m ps'))) fp' := by
  have hl : i < env.length := (List.getElem?_eq_some_iff.mp hi).1
  obtain ⟨fr, fo0, a1, a2, a3, a3', a4, a5, a6⟩ := sat.en.put hl sat.nd
  obtain ⟨v, e1, e2⟩ := a5 _ hi
  cases e2 with
  | @m a kvs _ h1 h2 h3 =>
    refine ⟨a, kvs, e1, h2, h3, fun F1 H1 kvs' ps' x dp' => ?_⟩
    have na : a ∉ fr := a4 a List.mem_cons_self
    have fa := mut_freeO x h1 h2
    have st : StepS F H [a] F1 (upd H1 a (.dK kvs')) [a] := mut_stepO x h1 h2
    obtain ⟨fp', b1, b2, b3⟩ := (a6 F1 (upd H1 a (.dK kvs')) [a] [a] st fun b hb z => na (by rw [← List.mem_singleton.mp z]; exact hb)).2 (.ref a) (.m ps') [a] (.m fa upd_same dp') (by simp) fun b hb => by rw [List.mem_singleton.mp hb]; exact na
    rw [set_self e1] at b3
    refine ⟨fp', ⟨st.ff, fun b o q n => st.fr b o q fun z => n (by rw [List.mem_singleton.mp z]; exact a2 a List.mem_cons_self), fun b o q => (st.fn b o q).imp id (.imp (fun z => by rw [List.mem_singleton.mp z]; exact a2 a List.mem_cons_self) id), fun b hb => ?_⟩, mut_same x.fh fa, b3, b1⟩
    rcases b2 b hb with q | q
    · rw [List.mem_singleton.mp q]; exact .inl (a2 a List.mem_cons_self)
    · exact .inl (a1 b q)
/-- x[k] = e -/
def putM (i : Nat) (v : D) (g : Ev → R D) (env : Ev) : SR := match mAt i env with
  | none => .no
  | some ps => (g env).st env fun k => if isKey k = true ∧ ps.length < sizeLine then .nx (env.set i (some (.m (putP ps k v)))) else .no
def sPutM (i : Nat) (f g : Ev → R D) (env : Ev) : SR := (f env).st env fun v => putM i v g env
theorem ds_putM (i : Nat) (hu : X.A.units + 140 < cLine) (he : DF X W e f) (hk : DV X W k g) (hN : X.N[i]? = some x := by rfl) (hv : Vis X.env.scope x := by first | exact Or.inl rfl | exact Or.inr (Or.inl rfl) | exact Or.inr (Or.inr rfl)) (hd : (x == ("__debug__" : Str)) = false := by decide) (hcd : (x == ("__classdict__" : Str)) = false := by decide)
    (hs : swapsWith e (some (.Subscript (.Name x npos) k tpos)) pos.line X.env = pure false := by rfl) : DS X W S (.Assign [.Subscript (.Name x npos) k tpos] e pos) (sPutM i f g) := by
  obtain ⟨te, pe, se⟩ := he
  obtain ⟨t, pk, sk⟩ := hk
  refine ⟨_, ps_dput (by omega) (pe_var hN hv hd hcd) pk pe hs, fun F H σ env fp D sat h => ?_⟩
  unfold sPutM at h
  refine se.st sat h fun d v F1 H1 sat1 q1 x1 h1 => ?_
  unfold putM at h1
  cases hm : mAt i env with
  | none => rw [hm] at h1; exact h1.elim
  | some ps =>
    rw [hm] at h1
    simp only at h1
    obtain ⟨a, kvs, e1, m2, m3, fin⟩ := sat1.mutM (mAt_eq hm)
    refine ⟨_, e1, ?_⟩
    refine sk.st sat1 h1 fun dk u F2 H2 sat2 q2 x2 h2 => ?_
    split at h2
    · rename_i c
      obtain ⟨q, rfl⟩ := key_of_data c.1
      obtain ⟨a2, kvs2, e1', m2', m3', fin'⟩ := sat2.mutM (mAt_eq hm)
      rw [e1] at e1'
      cases e1'
      have ll := dpKv_len m3'
      obtain ⟨fp', st, sat'⟩ := fin' F2 H2 (putK kvs2 q v) (putP ps (keyD q) d) (.refl sat2.fh) (dpKv_put (dpUp q1 x2.ff) m3')
      refine ⟨a, upd H2 a (.dK (putK kvs2 q v)), rfl, ?_, h2 σ F2 _ fp' (.refl _ _) st sat'⟩
      rw [key_dp q2]
      exact DPut.k m2' (by rw [ll]; exact c.2)
    · exact h2.elim
def rSortM : List V → Hp → VK → Prop := fun vs H Q => ∃ (a : Addr) (kvs : List (Key × V)), vs = [V.ref a] ∧ H a = some (.dK kvs) ∧ sortOk (kvs.map fun p => keyD p.1) = true ∧
  ∀ (ys : List V) (p : Addr), H p = none → (∀ F, PySem.W.EachIs (Dp X.KK F) ys (sortedD (kvs.map fun p => keyD p.1))) → Q (.ref p) (upd H p (.lst ys))
theorem key_reads {h : Heap} {q : Key} {v : Value} (e : keyIs q v = true) : (∃ as, PySem.Reads h v (keyD q) as) ∧ RelV (kV q) v := by
  rcases keyIs_shape e with ⟨i, t, rfl, rfl⟩ | ⟨z, t, rfl, rfl⟩
  · exact ⟨⟨_, PySem.Reads.int i t⟩, ⟨t, rfl⟩⟩
  · exact ⟨⟨_, PySem.Reads.str z t⟩, ⟨t, rfl⟩⟩
theorem eachIs_of {α β : Type} {T : α → β → Prop} : ∀ {as : List α} {bs : List β}, as.length = bs.length → (∀ (i : Nat) (a : α) (b : β), as[i]? = some a → bs[i]? = some b → T a b) → PySem.W.EachIs T as bs
  | [], [], _, _ => .nil
  | [], _ :: _, h, _ => by simp at h
  | _ :: _, [], h, _ => by simp at h
  | a :: as, b :: bs, h, q => .cons (q 0 a b rfl rfl) (eachIs_of (by simpa using h) fun i x y h1 h2 => q (i + 1) x y (by simpa using h1) (by simpa using h2))
theorem paired_get {α β : Type} {F : α → β → Prop} : ∀ {l₁ : List α} {l₂ : List β} {j : Nat} {x : β}, Paired F l₁ l₂ → l₂[j]? = some x → ∃ y, l₁[j]? = some y ∧ F y x
  | _, _, j, x, .nil, h => by simp at h
  | _, _, 0, x, .cons h t, e => by simp at e; subst e; exact ⟨_, rfl, h⟩
  | _, _, j + 1, x, .cons h t, e => by
    obtain ⟨y, a, b⟩ := paired_get (j := j) t (by simpa using e)
    exact ⟨y, by simpa using a, b⟩
theorem cr_sortM (hc : X.calm = true) (hu : X.A.units + 140 < cLine) : CallR X (.builtin "sorted") (rSortM (X := X)) := by
  intro pins s σ H vs us Q I r h
  obtain ⟨a, kvs, rfl, ha, ok, q⟩ := h
  obtain rfl := Vals.ref1 r
  obtain ⟨hz, lo, xs, rel, dd⟩ := dk_rd I.hok (.inl ha)
  obtain ⟨ep, hat⟩ := dd.dictAt
  have hh : X.A.handled = none := I.ok.hd hc
  have hlx : kvs.length = xs.length := Paired.length rel
  obtain ⟨hal, hk, hd⟩ := sortOk_cases ok
  refine call_function_entry kind_sorted plain_sorted entry_sorted (args_sorted1 _) ?_
  unfold Builtin.«sorted»
  refine wpAny_bind (m := checkCount "sorted" 1 1 _) (wpAny_pure ?_)
  refine wpAny_bind (PySem.W.kdu_collect (A := X.A.in1) (PySem.W.kdl_dict lo) hh hat (by omega) fun h' tk acc hkeep hacc => ?_)
  have hl : acc.toList.length = xs.length := by rw [Array.length_toList]; exact hacc.1
  have hL : acc.toList.length ≤ sizeLine := by omega
  refine wpAny_bind (wpAny_newList ?_ hL)
  have hitem : ∀ (i : Nat) (v : Value) (d : D), acc.toList[i]? = some v → (kvs.map fun p => keyD p.1)[i]? = some d → ∃ p : Key, keyIs p v = true ∧ d = keyD p := fun i v d h1 h2 => by
    obtain ⟨k, x, e1, e2⟩ := hacc.2 i v (by rw [← Array.getElem?_toList]; exact h1)
    obtain ⟨y, e3, e4, _⟩ := paired_get rel e1
    rw [List.getElem?_map, e3] at h2
    refine ⟨k, e2, ?_⟩
    rw [← Option.some.inj h2]
    show keyD y.1 = keyD k
    rw [e4]
  have hlen : acc.toList.length = (kvs.map fun p => keyD p.1).length := by rw [List.length_map, hl, hlx]
  have er : ∀ hp : Heap, PySem.W.EachIs (fun v d => ∃ as, PySem.Reads hp v (id d) as) acc.toList (kvs.map fun p => keyD p.1) := fun hp => eachIs_of hlen fun i v d h1 h2 => by
    obtain ⟨p, e, rfl⟩ := hitem i v d h1 h2
    exact (key_reads e).1
  have e : PySem.W.EachIs (fun v d => ∃ x, RelV x v ∧ ∀ F, Dp X.KK F x d) acc.toList (kvs.map fun p => keyD p.1) := eachIs_of hlen fun i v d h1 h2 => by
    obtain ⟨p, e, rfl⟩ := hitem i v d h1 h2
    exact ⟨kV p, (key_reads (h := s.heap) e).2, fun F => dp_key F p⟩
  have hok' : HOk X.prog X.w H h' := I.hok.kept hkeep
  have hn : H h'.objs.size = none := hok'.fresh (Nat.le_refl _)
  have hne : ∀ b u, s.heap.get? b = some u → b ≠ h'.objs.size := fun b u q => Nat.ne_of_lt (Heap.lt_size (hkeep _ _ q))
  have hat2 : (h'.push { cls := .type "list", data := .seq acc.toList.toArray }).get? h'.objs.size = some (seqObj "list" acc.toList.toArray 0) := Heap.get?_push_size _ rfl
  have hb : ∀ d, d ∈ (kvs.map fun p => keyD p.1) → X.A.in1.in1.units + d.depth < cLine := fun d m => by
    have := hd d m
    show X.A.units + 1 + 1 + d.depth < cLine
    omega
  refine wpAny_bind (wpAny_holding (wpAny_call_entry_kw PyProof.Rows.slot_list_sort ⟨_, hat2, rfl⟩ PyProof.Rows.entry_list_sort ?body (PyProof.Rows.args_list_sort _)))
  case body =>
    refine wpAny_mono (PySem.W.list_sort_vals (A := X.A.in1.in1) (P := fun f s' => f = .done (.ret .none) ∧ EP X pins σ Q (.ref h'.objs.size) s') hat2 (PySem.W.SortsAt.data (er _) hal (.inr ?_) hb) hL ⟨rfl, ?_⟩) (fun f s' hf => ?_) fun _ _ e => e
    · rcases hk with hk | hk
      · cases kvs with
        | nil => intro d hd'; cases hd'
        | cons p kvs =>
          obtain ⟨xs', e'⟩ := hk _ List.mem_cons_self
          obtain ⟨q | q, v⟩ := p <;> cases e'
      · exact hk
    · have hsort : ((PySem.W.sortVals (PySem.W.dataKind (PySem.W.sortingHeap (h'.push { cls := .type "list", data := .seq acc.toList.toArray }) h'.objs.size acc.toList) (kvs.map fun p => keyD p.1)) false acc.toList acc.toList)).length = acc.toList.length := PySem.W.sortVals_length false rfl
      have hz2 := PySem.W.sortVals_data (R := fun v d => ∃ x, RelV x v ∧ ∀ F, Dp X.KK F x d) (h' := PySem.W.sortingHeap (h'.push { cls := .type "list", data := .seq acc.toList.toArray }) h'.objs.size acc.toList) (enc := (id : D → D)) (bs := kvs.map fun p => keyD p.1) false e (er _) (by simpa using hal)
      rw [List.map_id] at hz2
      generalize (PySem.W.sortVals (PySem.W.dataKind (PySem.W.sortingHeap (h'.push { cls := .type "list", data := .seq acc.toList.toArray }) h'.objs.size acc.toList) (kvs.map fun p => keyD p.1)) false acc.toList acc.toList) = out at hsort hz2 ⊢
      obtain ⟨ys, h3, h4⟩ := vals_each (T := fun x d => ∀ F, Dp X.KK F x d) hz2
      obtain ⟨n2, hn2⟩ := PyProof.Rows.sortedHeap_at (out := out.toArray) hat2
      have hkeep2 : ∀ b o, h'.get? b = some o → (PyProof.Rows.sortedHeap (h'.push { cls := .type "list", data := .seq acc.toList.toArray }) h'.objs.size acc.toList out.toArray).get? b = some o := fun b o e => by
        have hlt := Heap.lt_size e
        rw [PyProof.Rows.sortedHeap_old (Nat.ne_of_lt hlt) (by rw [size_push']; exact Nat.lt_succ_of_lt hlt)]
        exact Heap.get?_push_of_some _ e
      have hyl : ys.length ≤ sizeLine := by rw [h3.length, hsort]; exact hL
      have hnew : HOk X.prog X.w (upd H h'.objs.size (.lst ys)) (PyProof.Rows.sortedHeap (h'.push { cls := .type "list", data := .seq acc.toList.toArray }) h'.objs.size acc.toList out.toArray) :=
        hok'.laid hkeep2 (Nat.le_refl _) ⟨hyl, out, n2, h3, hn2⟩
      refine ⟨.ref h'.objs.size, upd H h'.objs.size (.lst ys), I.un ⟨fun b u q _ _ _ => hkeep2 _ _ (hkeep _ _ q), fun b u q _ _ _ => ⟨u.slots, hkeep2 _ _ (hkeep _ _ q)⟩, fun b u q n _ => by rw [upd_ne (hne b u q)]; exact n, fun b u q _ => ⟨u, hkeep2 _ _ (hkeep _ _ q)⟩, fun b xs q => by rw [upd_ne (ne_of_none q hn)]; exact q, fun b u xs q => by rw [upd_ne (ne_of_none q hn)]; exact q, fun b ps q => ⟨#[], by rw [upd_ne (ne_of_none q hn), q]; simp⟩⟩ hnew, rfl, q ys _ hn fun F => ?_⟩
      exact h4.mono fun _ _ h => h F
    · obtain ⟨rfl, hq⟩ := hf
      exact ⟨_, rfl, wpAny_pure ⟨_, rfl, hq⟩⟩
theorem dpKv_keys {K : Kw} {H : Hp} : ∀ {kvs : List (Key × V)} {ps : List (D × D)}, DpKv K H kvs ps → (kvs.map fun p => keyD p.1) = ps.map (·.1)
  | [], _, h => by cases h; rfl
  | p :: kvs, _, h => by
    cases h with
    | cons h1 h2 => rw [List.map_cons, List.map_cons, dpKv_keys h2]
def eSortM (i : Nat) (env : Ev) : R Ow := match mAt i env with
  | none => .no
  | some ps => if sortOk (ps.map (·.1)) = true then .ok (.l ((sortedD (ps.map (·.1))).map Ow.d)) else .no
theorem de_sortM {p : Pos} (i : Nat) (hc : X.calm = true) (hu : X.A.units + 140 < cLine) (hg : Gl X "sorted") (hm : X.mg "sorted" = none) (hN : X.N[i]? = some x := by rfl) (hv : Vis X.env.scope x := by first | exact Or.inl rfl | exact Or.inr (Or.inl rfl) | exact Or.inr (Or.inr rfl)) (hd : (x == ("__debug__" : Str)) = false := by decide) (hcd : (x == ("__classdict__" : Str)) = false := by decide)
    (he : starEach [.Name x npos] X.env = (false, eval (.Name x npos) X.env) :: starEach [] X.env := by rfl) (hpl : (backTo pos (starEach [] X.env)).any (·.1) = false := by rfl) : DE X W (.Call (.Name "sorted" p) [.Name x npos] [] pos) (eSortM i) := by
  refine ⟨_, pe_callB (cr_sortM hc hu) hg hm (by first | rfl | decide +kernel) (pa_cons (pe_var hN hv hd hcd) pa_nil he) (he := he) (hpl := hpl), fun F H σ env fp Q sat hp => ?_⟩
  unfold eSortM at hp
  cases hm : mAt i env with
  | none => rw [hm] at hp; exact hp.elim
  | some ps =>
    rw [hm] at hp
    simp only at hp
    obtain ⟨v, fo, e1, e2, _⟩ := sat.en.get (mAt_eq hm)
    cases e2 with
    | @m a kvs _ m1 m2 m3 =>
      split at hp
      · rename_i c
        refine ⟨_, e1, a, kvs, rfl, m2, by rw [dpKv_keys m3]; exact c, fun ys b hb hy => ?_⟩
        have hy' := dpAll_each (hy F)
        rw [dpKv_keys m3] at hy'
        exact hp _ _ _ (Ext.own sat.fh hb _) (own_l sat.fh hb hy')
      · exact hp.elim
end
@[simp] theorem mAt_0 (ps : List (D × D)) (env : Ev) : mAt 0 (some (.m ps) :: env) = some ps := rfl
@[simp] theorem mAt_s (i : Nat) (x : Option Ow) (env : Ev) : mAt (i + 1) (x :: env) = mAt i env := by unfold mAt; rw [List.getElem?_cons_succ]
@[simp] theorem mAt_1 (a0 : Option Ow) (ps : List (D × D)) (env : Ev) : mAt 1 (a0 :: some (.m ps) :: env) = some ps := rfl
@[simp] theorem mAt_2 (a0 a1 : Option Ow) (ps : List (D × D)) (env : Ev) : mAt 2 (a0 :: a1 :: some (.m ps) :: env) = some ps := rfl
@[simp] theorem mAt_3 (a0 a1 a2 : Option Ow) (ps : List (D × D)) (env : Ev) : mAt 3 (a0 :: a1 :: a2 :: some (.m ps) :: env) = some ps := rfl
@[simp] theorem mAt_4 (a0 a1 a2 a3 : Option Ow) (ps : List (D × D)) (env : Ev) : mAt 4 (a0 :: a1 :: a2 :: a3 :: some (.m ps) :: env) = some ps := rfl
theorem mAt_of {i : Nat} {env : Ev} {ps : List (D × D)} (h : env[i]? = some (some (.m ps))) : mAt i env = some ps := by unfold mAt; rw [h]
theorem eSortM_of {i : Nat} {env : Ev} {ps : List (D × D)} (h : env[i]? = some (some (.m ps))) : eSortM i env = if sortOk (ps.map (·.1)) = true then .ok (.l ((sortedD (ps.map (·.1))).map Ow.d)) else .no := by unfold eSortM; rw [mAt_of h]
theorem putM_of {i : Nat} {v : D} {g : Ev → R D} {env : Ev} {ps : List (D × D)} (h : env[i]? = some (some (.m ps))) : putM i v g env = (g env).st env fun k => if isKey k = true ∧ ps.length < sizeLine then .nx (env.set i (some (.m (putP ps k v)))) else .no := by unfold putM; rw [mAt_of h]
theorem sPutM_eq (i : Nat) (f g : Ev → R D) (env : Ev) : sPutM i f g env = (f env).st env fun v => putM i v g env := rfl
@[simp] theorem gGetD_dict (ps : List (D × D)) (k : D) : gGetD (.dict ps) k = if isKey k = true then getP ps k else none := rfl
@[simp] theorem isKey_int (i : Int) : isKey (.int i) = true := rfl
@[simp] theorem isKey_str (z : Str) : isKey (.str z) = true := rfl
end Mir
end
set_option Elab.async false
set_option linter.all false
set_option maxRecDepth 100000
set_option maxHeartbeats 4000000
noncomputable section
namespace Mir
open PySem PySem.Spec L2
section
variable {X : Cx} {W : WX} {S : Nat → Bool} {e k : Expr} {pos tpos npos p2 : Pos} {x : Str} {f g : Ev → R D}
/-- d[k], d data that stays and is a dict -/
theorem df_getD (hu : X.A.units + 140 < cLine) (he : DF X W e f) (hk : DV X W k g) (hs : NoSl k := by exact fun _ _ => rfl) : DF X W (.Subscript e k pos) (eBin gGetD f g) := by
  obtain ⟨te, pe, se⟩ := he
  obtain ⟨t, pk, sk⟩ := hk
  refine ⟨_, pe_dget (by omega) pe pk hs, fun F H σ env fp Q sat hp => ?_⟩
  refine se.go sat hp fun d u F1 H1 sat1 q1 x1 h1 => ?_
  refine sk.go sat1 h1 fun d2 u2 F2 H2 sat2 q2 x2 h2 => ?_
  obtain ⟨z, hz, h3⟩ := post_of h2
  have q1 : Dp X.KK F1 u d := q1
  cases d with
  | dict ps =>
    have hz' : (if isKey d2 = true then getP ps d2 else none) = some z := hz
    clear hz
    split at hz'
    · rename_i c
      have hz := hz'
      clear hz'
      obtain ⟨q, rfl⟩ := key_of_data c
      cases q1 with
      | @dct a kvs _ m2 m3 =>
        rcases dpKv_get q (DpKv.mono x2.ff _ _ m3) with ⟨g1, _⟩ | ⟨d, w, g1, g2, g3⟩
        · rw [g1] at hz; cases hz
        · rw [g1] at hz; cases hz
          have hg : DGet H2 a (kV q) (valV kvs q) := .inl ⟨kvs, q, Same.rd sat2.fh (Same.rd x2.ff m2), rfl, rfl⟩
          rw [g2] at hg
          refine ⟨a, w, rfl, ?_, h3 _ F2 H2 (.refl sat2.fh) g3⟩
          rw [key_dp q2]
          exact hg
      | @dcn a kvs _ m2 m3 => rw [getP_dcn q m3] at hz; cases hz
      | exc _ => rw [getP_non q] at hz; cases hz
      | ins _ => rw [getP_non q] at hz; cases hz
    · cases hz'
  | _ => cases hz
/-- what a stateful expression tells, walked: a list -/
def xSeq (f : Ev → R (D × Ev)) (env : Ev) : R (List D × Ev) := (f env).bind fun p => match p.1 with
  | .list ds => .ok (ds, p.2)
  | _ => .no
@[simp] theorem xSeq_eq (f : Ev → R (D × Ev)) (env : Ev) : xSeq f env = (f env).bind fun p => match p.1 with
  | .list ds => .ok (ds, p.2)
  | _ => .no := rfl
end
end Mir
end
set_option Elab.async false
set_option linter.all false
set_option maxRecDepth 100000
set_option maxHeartbeats 4000000
noncomputable section
namespace Mir
open PySem PySem.Spec PyProof.Rows L2
/-- what is to be known of an own class over ValueError -/
structure ExcT (K : PySem.W.Frag) (mg : Str → Option Value) (x : Str) (C : Addr) : Prop where
  gC : mg x = some (.ref C)
  ex : PySem.W.excIn K C [.type "ValueError", .type "Exception", .type "BaseException", .type "object"] "ValueError.__new__" = true
  kC : PySem.W.keepIn K (.ref C) = true
  bP : PySem.W.subIn K (.ref C) (.type "BaseException") = some true
  tP : PySem.W.typeIn K (.ref C) = some (.type "type")
def sRaise (x : Str) (env : Ev) : SR := .ex x env
@[simp] theorem sRaise_eq (x : Str) (env : Ev) : sRaise x env = .ex x env := rfl
section
variable {X : Cx} {W : WX} {S : Nat → Bool} {pos p p2 np pos' : Pos} {x m : Str} {j : Nat} {C : Addr}
theorem ds_raise (hc : X.calm = true) (tk : Takes X W) (T : ExcT X.K X.mg x C) (hg : Gl X x) (hdb : (x == ("__debug__" : Str)) = false := by decide) : DS X W S (.Raise (some (.Call (.Name x p) [.Constant (.str m) j p2] [] pos')) none pos) (sRaise x) := by
  refine ⟨_, ps_raise hc tk (pmk_own PySem.F.excBase_ValueError T.ex T.gC T.kC (raises_own T.bP T.tP) hg hdb), fun F H σ env fp D sat h => ?_⟩
  exact h C σ F H fp T.gC (.refl _ _) (StepS.of_ext (.refl sat.fh) fp) sat
theorem PSs.imp {st : List Stmt} {t t' : TS} (h : PSs X st t) (k : ∀ D σ H, t' D σ H → t D σ H) : PSs X st t' := ⟨fun pins s σ H D I q => h.run pins s σ H D I (k D σ H q)⟩
/-- canonical: what a block's mirror asks -/
def tsOf (X : Cx) (W : WX) (S : Nat → Bool) (f : Ev → SR) : TS := fun D σ H => ∃ F env fp, Sat X.KK F H σ env fp ∧ PostS X W S σ F H fp D (f env)
theorem DSs.can {st : List Stmt} {f : Ev → SR} (h : DSs X W S st f) : PSs X st (tsOf X W S f) := by
  obtain ⟨t, p, s⟩ := h
  refine PSs.imp p ?_
  rintro D σ H ⟨F, env, fp, sat, h⟩
  exact s F H σ env fp D sat h
end
section
variable {X : Cx} {W : WX} {S : Nat → Bool} {i : Nat} {a : Addr} {pos p p2 np pos' : Pos} {x n T : Str} {e e1 e2 : Expr} {g g1 g2 : Ev → R D}
/-- a flat name -/
def eFlat (k : Nat) (env : Ev) : R D := (eVar k env).bind fun d => if flatD d = true then .ok d else .no
@[simp] theorem eFlat_eq (k : Nat) (env : Ev) : eFlat k env = (eVar k env).bind fun d => if flatD d = true then .ok d else .no := rfl
/-- int(a truth) -/
def eIntB (g : Ev → R D) (env : Ev) : R D := (g env).bind fun d => match d with
  | .bool b => .ok (.int (if b = true then 1 else 0))
  | _ => .no
@[simp] theorem eIntB_eq (g : Ev → R D) (env : Ev) : eIntB g env = (g env).bind fun d => match d with
  | .bool b => .ok (.int (if b = true then 1 else 0))
  | _ => .no := rfl
/-- + of whole numbers -/
def eAddI (g1 g2 : Ev → R D) (env : Ev) : R D := (g1 env).bind fun x => (g2 env).bind fun y => match x, y with
  | .int i, .int j => .ok (.int (i + j))
  | _, _ => .no
@[simp] theorem eAddI_eq (g1 g2 : Ev → R D) (env : Ev) : eAddI g1 g2 env = (g1 env).bind fun x => (g2 env).bind fun y => match x, y with
  | .int i, .int j => .ok (.int (i + j))
  | _, _ => .no := rfl
theorem sat_set {K : Kw} {F H : Hp} {σ : L2.St} {env : Ev} {fp : List Addr} (sat : Sat K F H σ env fp) {i : Nat} (hi : i < env.length) (x : Option V) : ∃ fr, (∀ b ∈ fr, b ∈ fp) ∧ Sat K F H (σ.set i x) (env.set i none) fr := by
  obtain ⟨fr, fo, a1, a2, a3, a3', a4, a5, a6⟩ := sat.en.put hi sat.nd
  exact ⟨fr, a1, sat.fh, (a6 F H [] [] (StepS.of_ext (.refl sat.fh) []) fun b _ z => nomatch z).1 x, a3⟩
end
end Mir
end
set_option Elab.async false
set_option linter.all false
set_option maxRecDepth 100000
set_option maxHeartbeats 4000000
noncomputable section
namespace Mir
open PySem PySem.Spec PyProof.Rows L2
section
variable {X : Cx} {W : WX} {S : Nat → Bool} {i : Nat} {a : Addr} {pos p p2 np pos' : Pos} {x n T : Str} {e e1 e2 : Expr} {g g1 g2 : Ev → R D}
end
section
variable {K : PySem.W.Frag}
theorem kit_ref {D A : Addr} {b : Bool} (hd : PySem.W.hasDictIn K A = true) (ht : PySem.W.typeIn K (.ref A) = some (.type "type")) (hs : PySem.W.subIn K (.ref D) (.ref A) = some b) (hr : PySem.W.subIn K (.ref D) (.ref D) = some true) : PySem.W.kitOne K (.ref D) (.ref A) = some b := by
  obtain ⟨cd, hc, _⟩ := PySem.W.any_some hd
  show (if ((Value.ref D == Value.ref A) = true) then some true else PySem.W.kitCls K (.ref D) (.ref A)) = some b
  by_cases e : (Value.ref D == Value.ref A) = true
  · rw [if_pos e]
    have : D = A := Value.ref.inj (beq_iff_eq.mp e)
    subst this
    exact hr.symm.trans hs
  · rw [if_neg e]
    have e2 : ((PySem.W.clsIn K A).isSome && PySem.W.typeIn K (.ref A) == some (.type "type")) = true := by rw [hc, ht] <;> rfl
    show (if ((PySem.W.clsIn K A).isSome && PySem.W.typeIn K (.ref A) == some (.type "type")) = true then PySem.W.subIn K (.ref D) (.ref A) else none) = some b
    rw [if_pos e2]
    exact hs
theorem kit_type {D : Addr} {T : String} {b : Bool} (hm : PySem.W.kitMeta T = true) (hs : PySem.W.subIn K (.ref D) (.type T) = some b) : PySem.W.kitOne K (.ref D) (.type T) = some b := by
  show (if ((Value.ref D == Value.type T) = true) then some true else if PySem.W.kitMeta T = true then PySem.W.subIn K (.ref D) (.type T) else none) = some b
  rw [if_neg (fun e => by cases (beq_iff_eq.mp e)), if_pos hm]
  exact hs
end
end Mir
end
set_option Elab.async false
set_option linter.all false
set_option maxRecDepth 100000
set_option maxHeartbeats 4000000
noncomputable section
namespace Mir
open PySem PySem.Spec PyProof.Rows L2
def gLtS : D → D → Option D
  | .str x, .str y => some (.bool (decide (x.cps.toList < y.cps.toList)))
  | _, _ => none
@[simp] theorem gLtS_str (x y : Str) : gLtS (.str x) (.str y) = some (.bool (decide (x.cps.toList < y.cps.toList))) := rfl
theorem opS_LtS {K : Kw} : OpS K (fun x y H Q => ∃ i j, x = .str i ∧ y = .str j ∧ Q (.bl (decide (i.cps.toList < j.cps.toList))) H) gLtS := by
  intro H x y dx dy d Q hx hy e q
  unfold gLtS at e
  split at e
  · cases e
    cases dp_str hx
    cases dp_str hy
    exact ⟨_, _, rfl, rfl, q _ fun _ => .bl _⟩
  · cases e
section
variable {X : Cx} {W : WX} {a b : Expr} {f g : Ev → R D} {pos : Pos}
theorem dt_ltS (ha : DV X W a f) (hb : DV X W b g) : DT X W (.Compare a [.Lt] [b] pos) (eB (eBin gLtS f g) asB) := dt_cmp op_lt_str opS_LtS ha hb
end
end Mir
end
set_option Elab.async false
set_option linter.all false
set_option maxRecDepth 100000
set_option maxHeartbeats 4000000
noncomputable section
namespace Mir
open PySem PySem.Spec PyProof.Rows L2
section
variable {X : Cx} {W : WX} {S : Nat → Bool} {e k : Expr} {pos cpos apos npos tpos : Pos} {x : Str}
end
end Mir
end
set_option Elab.async false
set_option linter.all false
set_option maxRecDepth 100000
set_option maxHeartbeats 4000000
noncomputable section
namespace Mir
open PySem PySem.Spec PyProof.Rows L2
section
variable {K : Kw} {F H : Hp} {σ : L2.St} {env : Ev} {fp : List Addr}
end
section
variable {X : Cx} {W : WX} {S : Nat → Bool} {e k k2 : Expr} {pos cpos apos npos tpos tpos2 : Pos} {x : Str}
end
end Mir
end
set_option Elab.async false
set_option linter.all false
set_option maxRecDepth 100000
set_option maxHeartbeats 4000000
noncomputable section
namespace Mir
open PySem PySem.Spec PyProof.Rows L2
section
variable {X : Cx} {W : WX} {S : Nat → Bool} {e k : Expr} {es : List Expr} {pos cpos apos npos p p2 pos2 : Pos} {x : Str} {tg : Expr}
def mergeD (acc : List (D × D)) (ps : List (Str × D)) : List (D × D) := ps.foldl (fun acc p => putP acc (.str p.1) p.2) acc
def eDictOf (f : Ev → R D) (env : Ev) : R Ow := (f env).bind fun d => match asPairs d with
  | none => .no
  | some ps => .ok (.m (mergeD [] ps))
@[simp] theorem eDictOf_eq (f : Ev → R D) (env : Ev) : eDictOf f env = (f env).bind fun d => match asPairs d with
  | none => .no
  | some ps => .ok (.m (mergeD [] ps)) := rfl
def oNil (_ : Ev) : R (List Ow) := .ok []
def oCons (f : Ev → R Ow) (g : Ev → R (List Ow)) (env : Ev) : R (List Ow) := (f env).bind fun o => (g env).map fun os => o :: os
@[simp] theorem oNil_eq (env : Ev) : oNil env = .ok [] := rfl
@[simp] theorem oCons_eq (f : Ev → R Ow) (g : Ev → R (List Ow)) (env : Ev) : oCons f g env = (f env).bind fun o => (g env).map fun os => o :: os := rfl
def eLstO (f : Ev → R (List Ow)) (env : Ev) : R Ow := (f env).bind fun os => guard (os.length ≤ sizeLine) (.ok (.l os))
@[simp] theorem eLstO_eq (f : Ev → R (List Ow)) (env : Ev) : eLstO f env = (f env).bind fun os => guard (os.length ≤ sizeLine) (.ok (.l os)) := rfl
def eLenO (f : Ev → R Ow) (env : Ev) : R D := (f env).bind fun o => match o with
  | .l os => .ok (.int (os.length : Nat))
  | _ => .no
@[simp] theorem eLenO_eq (f : Ev → R Ow) (env : Ev) : eLenO f env = (f env).bind fun o => match o with
  | .l os => .ok (.int (os.length : Nat))
  | _ => .no := rfl
end
end Mir
end
set_option Elab.async false
set_option linter.all false
set_option maxRecDepth 100000
set_option maxHeartbeats 4000000
noncomputable section
namespace Mir
open PySem PySem.Spec PyProof.Rows L2
section
variable {K : Kw} {F H : Hp} {σ : L2.St} {env : Ev} {fp : List Addr}
end
section
variable {X : Cx} {W : WX} {S : Nat → Bool} {e k k2 : Expr} {pos npos tpos tpos2 : Pos} {x : Str}
end

section
variable {X : Cx} {W : WX} {S : Nat → Bool} {e : Expr} {st : Stmt} {fs : Ev → SR}
/-- an item of an own list, which is data -/
def asD : Ow → R D
  | .d x => .ok x
  | _ => .no
@[simp] theorem asD_d (x : D) : asD (.d x) = .ok x := rfl
end
end Mir
end
set_option Elab.async false
set_option linter.all false
set_option maxRecDepth 100000
set_option maxHeartbeats 4000000
noncomputable section
namespace Mir
open PySem PySem.Spec PyProof.Rows L2
section
variable {X : Cx} {W : WX} {S : Nat → Bool} {pos npos ypos : Pos} {x y : Str} {fs : Ev → SR}
end
end Mir
end
set_option Elab.async false
set_option linter.all false
set_option maxRecDepth 100000
set_option maxHeartbeats 4000000
noncomputable section
namespace Mir
open PySem PySem.Spec L2
section
variable {X : Cx} {es : List Expr} {pos : Pos}
def xLst (f : Ev → R (List D × Ev)) (env : Ev) : R (D × Ev) := (f env).bind fun p => guard (p.1.length ≤ sizeLine) (.ok (.list p.1, p.2))
@[simp] theorem xLst_eq (f : Ev → R (List D × Ev)) (env : Ev) : xLst f env = (f env).bind fun p => guard (p.1.length ≤ sizeLine) (.ok (.list p.1, p.2)) := rfl
end
end Mir
end
set_option Elab.async false
set_option linter.all false
set_option maxRecDepth 100000
set_option maxHeartbeats 4000000
noncomputable section
namespace Mir
open PySem PySem.Spec L2
section
variable {X : Cx} {W : WX} {S : Nat → Bool} {pos : Pos} {e a b : Expr} {x : Str} {npos : Pos}
end
end Mir
end
set_option Elab.async false
set_option linter.all false
set_option maxRecDepth 100000
set_option maxHeartbeats 4000000
noncomputable section
namespace Mir
open PySem PySem.Spec PyProof.Rows L2
section
variable {X : Cx} {W : WX} {o e : Expr} {apos cpos : Pos} {f g : Ev → R D}
end
end Mir
end
set_option Elab.async false
set_option linter.all false
set_option maxRecDepth 100000
set_option maxHeartbeats 4000000
noncomputable section
namespace Mir
open PySem PySem.Spec PyProof.Rows L2
section
variable {X : Cx} {W : WX}
end
end Mir
end
set_option Elab.async false
set_option linter.all false
set_option maxRecDepth 100000
set_option maxHeartbeats 4000000
noncomputable section
namespace Mir
open PySem PySem.Spec PyProof.Rows L2
/-- an object that stood untracked is tracked -/
theorem Inv.track {X : Cx} {pins : List (Addr × Obj)} {σ : L2.St} {H : Hp} {s : Shared} (I : Inv X pins σ H s) {a : Addr} {φ : Heap → Prop} (na : H a = none) (np : ∀ p ∈ X.pn ++ pins, p.1 ≠ a) (nL : a ≠ X.env.locals) (nC : ∀ x c, X.env.cells.lookup x = some c → c ≠ a) (n0 : X.s_0.heap.get? a = none)
    (ok : ObjOk X.prog X.w (upd H a (.ext φ)) s.heap a (.ext φ)) : Inv X pins σ (upd H a (.ext φ)) s := by
  have ne : ∀ b o, H b = some o → b ≠ a := fun b o e z => by rw [z, na] at e; cases e
  refine ⟨I.ok, I.os, I.bare, ⟨I.base.keep, I.base.slot, fun b o e n x => ?_, I.base.there, fun b xs e => ?_, fun b o u e => ?_, fun b ps e => ?_⟩, I.loc, I.cell, by rw [upd_ne (Ne.symm nL)]; exact I.free, fun x c e => by rw [upd_ne (nC x c e)]; exact I.freeC x c e, fun p hp => ?_, fun b o e => ?_, I.len⟩
  · have : b ≠ a := fun z => by rw [z, n0] at e; cases e
    rw [upd_ne this]
    exact I.base.free b o e n x
  · have := I.base.tups b xs e
    rw [upd_ne (ne _ _ this)]; exact this
  · have := I.base.frzs b o u e
    rw [upd_ne (ne _ _ this)]; exact this
  · obtain ⟨m, q⟩ := I.base.tbls b ps e
    exact ⟨m, by rw [upd_ne (ne _ _ q)]; exact q⟩
  · obtain ⟨p1, p2, p3⟩ := I.pin p hp
    exact ⟨p1, by rw [upd_ne (np p hp)]; exact p2, p3⟩
  · by_cases z : b = a
    · subst z
      rw [upd_same] at e
      cases e
      exact ok
    · rw [upd_ne z] at e
      exact (I.hok b o e).stay (fun c u _ q => q) (fun c q => by rw [upd_ne (ne _ _ q)]; exact q) (fun c xs q => by rw [upd_ne (ne _ _ q)]; exact q)
/-- what an exception at hand may be tracked as -/
structure ExH (φ : Heap → Prop) (cls : Value) (d : Option Addr) (a : Addr) : Prop where
  of : ∀ (h : Heap) (oe : Obj) (vs : Array Value), h.get? a = some oe → Zc cls d oe → oe.data = .fields vs → φ h
  st : ∀ h1 h2 : Heap, φ h1 → (∀ o, h1.get? a = some o → h2.get? a = some o) → φ h2
def wAsT (K : PySem.W.Frag) (c : Value) (i : Nat) (ts : TS) (Wout : WX) (D : Ends) : WX := fun cls d σ H =>
  ∃ b, PySem.W.exmOne K cls c = some b ∧ (b = true → ∀ a, H a = none → ∃ φ, ExH φ cls d a ∧ ts { nx := fun σ' H' => D.nx (σ'.set i none) H', rt := D.rt, bk := fun σ' H' => D.bk (σ'.set i none) H', ct := fun σ' H' => D.ct (σ'.set i none) H' } (σ.set i (some (.ref a))) (upd H a (.ext φ))) ∧
    (b = false → Wout cls d σ H)
section
variable {X : Cx} {x n : Str} {c : Value} {i : Nat} {body suite : List Stmt} {b₀ : Stmt} {np pos pos' : Pos} {tb : WX → TS} {ts : TS} {Wout : WX}
theorem ps_try_asT (hx : X.ex = []) (hs : X.stack = X.env :: X.outer) (hf : X.env.frame = some X.env.locals) (hN : X.N.Nodup) (hi : X.N[i]? = some n) (hln : X.env.kindOf n = some .local) (hc : Names X x c) (tk : Takes X Wout)
    (hb : ∀ (W : WX) (pn : List (Addr × Obj)) (xe : Value → Shared → Prop), Takes (X.tr pn xe) W → PassesOwn (model X.prog X.w) X.A X.env xe → PSs (X.tr pn xe) body (tb W))
    (hsu : ∀ (a : Addr) (pn : List (Addr × Obj)), PSs (X.suite a pn) (b₀ :: suite) ts) :
    PS X (.Try body [.ExceptHandler (some (.Name x np)) (some n) (b₀ :: suite) pos'] [] [] pos) (fun D σ H => tb (wAsT X.K c i ts Wout D) D σ H) := by
  refine ⟨fun pins s σ H D I h => ?_⟩
  have ok := I.ok
  have hfr : X.A.frames = some (X.env :: X.outer) := by rw [ok.frames, hs]
  have hloc : Loc X.env.scope n := .inl hln
  refine wpAny_Try_except ?_
  refine wpAny_mono ((hb (wAsT X.K c i ts Wout D) (X.pn ++ pins) (fun e s₁ => wpAny (model X.prog X.w) X.A (noteFrame e X.env) (fun _ s₂ => wpAny (model X.prog X.w) X.A (setFlight e none) (fun _ s₃ =>
    wpAny (model X.prog X.w) X.A (handleBy e X.env [.ExceptHandler (some (.Name x np)) (some n) (b₀ :: suite) pos']) (SP X pins D) X.xe s₃) X.xe s₂) X.xe s₁) (fun u s' xx => ?_) PassesOwn.looking).run [] s σ H D (I.toTry _) h) (fun f s1 hsp => ?_) (fun e s1 he => he)
  · -- the catch
    obtain ⟨a, B, sI, pins', σ', H', cls, d, rfl, J', nb, up, sky, na, os, ag, b, hb1, hyes, hno⟩ := xx
    have J : Inv X pins σ' H' sI := J'.ofTry ok
    have hBa : B.get? a = none := by
      rcases sky with z | z | z
      · exact z.2.1
      · exact z.2.1
      · exact z.2.1
    have sky' : Sky B (X.env :: X.outer) a (Zc cls d) X.env.locals s'.heap := by rw [← hs]; exact sky
    show wpAny (model X.prog X.w) X.A (noteFrame (.ref a) X.env) _ _ _
    refine Sky.land Zc.steady hfr hf sky' fun h3 fl3 up3 => ?_
    have J3 : Inv X pins σ' H' { s' with heap := h3 } := J.landed nb fl3.1 (up.trans up3) os ag
    obtain ⟨oe3, vs3, he3, hz3, hd3⟩ := fl3.there
    have notFr : ∀ {h : Heap} {o : Obj} {vs : Array Value}, h.FunFrames B (X.env :: X.outer) → h.get? a = some o → o.data = .fields vs → a ∉ frs (X.env :: X.outer) := fun {h o vs} ff e dd hm => by
      obtain ⟨_, o', e', hnf⟩ := ff.mem hm
      rw [e] at e'; cases e'
      exact hnf _ dd
    have nfr := notFr fl3.2.2.1 he3 hd3
    have nL : a ≠ X.env.locals := fun z => nfr (List.mem_filterMap.mpr ⟨X.env, List.mem_cons_self, by rw [hf, z]⟩)
    have nF : a ∉ X.fs := fun hm => by
      obtain ⟨e, he, q⟩ := List.mem_filterMap.mp hm
      exact nfr (List.mem_filterMap.mpr ⟨e, List.mem_cons_of_mem _ he, q⟩)
    have fresh : sI.heap.get? a = none := by
      cases q : sI.heap.get? a with
      | none => rfl
      | some o =>
        have := nb a o q (by rw [hs]; exact nfr)
        rw [hBa] at this; cases this
    have n0 : X.s_0.heap.get? a = none := by
      cases q : X.s_0.heap.get? a with
      | none => rfl
      | some o =>
        obtain ⟨o', q'⟩ := J.base.there a o q (by rw [hx]; simp)
        rw [fresh] at q'; cases q'
    have nP : ∀ p ∈ X.pn ++ pins, p.1 ≠ a := fun p hp z => by
      have := (J.pin p hp).1
      rw [z, fresh] at this; cases this
    have nCl : ∀ y k, X.env.cells.lookup y = some k → k ≠ a := fun y k e z => by
      obtain ⟨v, o, q, _⟩ := J.cell y k e
      rw [z, fresh] at q; cases q
    have S3 := J3.suite he3 hd3 na nL nF
    refine wpAny_handleBy_cons (codeAny_handlers_test ?_) (by intro q; cases q)
    have LT : PySem.W.Looks (model X.prog X.w) h3 (typeOf (.ref a)) cls := fun A Q E s k q => wpAny_typeOf_ref (k _ _ he3) (by rw [hz3.1]; exact q)
    have LM := PySem.W.exm_one (M := model X.prog X.w) (J3.kIn) LT hb1
    have test : ∀ {Q : Value → Shared → Prop} {E : Value → Shared → Prop}, Q c { s' with heap := h3 } → wpAny (model X.prog X.w) (X.A.mark (some (.ref a))) (eval (.Name x np) X.env) Q E { s' with heap := h3 } := fun {Q E} q => by
      obtain ⟨hg, hdbg, hm | ⟨hm, hv, hnn⟩⟩ := hc
      · exact ld_glob (X := X.suite a ((a, oe3) :: (X.pn ++ pins))) S3 hg hm q hdbg
      · exact ld_blt (X := X.suite a ((a, oe3) :: (X.pn ++ pins))) S3 hg hm hv q hnn hdbg
    refine test (LM.here ?_)
    cases b with
    | true =>
      refine codeAny_handlers_suite_as ?_
      refine HandSPX.lands_againZ fl3 fun h4 fl4 up4 => ?_
      have J4 : Inv X pins σ' H' { s' with heap := h4 } := J.landed nb fl4.1 ((up.trans up3).trans up4) os ag
      obtain ⟨oe4, vs4, he4, hz4, hd4⟩ := fl4.there
      obtain ⟨φ, hφ, hq⟩ := hyes rfl a na
      have J5 : Inv X pins σ' (upd H' a (.ext φ)) { s' with heap := h4 } := Inv.track J4 na nP nL nCl n0 ⟨hφ.of h4 oe4 vs4 he4 hz4 hd4, ⟨oe4, he4⟩, hφ.st⟩
      have S4 : Inv (X.suite a (X.pn ++ pins)) [] σ' (upd H' a (.ext φ)) { s' with heap := h4 } :=
        ⟨J5.ok.suite _ _, J5.os, J5.bare, J5.base, J5.loc, J5.cell, J5.free, J5.freeC, fun p hp => J5.pin p (by rw [List.append_nil] at hp; exact hp), J5.hok, J5.len⟩
      refine store_ok (X := X.suite a (X.pn ++ pins)) (v := .ref a) S4 hN hi hloc rfl (fun s5 S5 => ?_) (.inr hln)
      refine wpAny_mono ((hsu a (X.pn ++ pins)).run [] s5 _ _ _ S5 hq) (fun f s6 hsp => ?_) (fun _ _ z => False.elim z)
      have end_ : ∀ {σ6 : L2.St} {H6 : Hp} {Q : Shared → Prop}, Inv (X.suite a (X.pn ++ pins)) [] σ6 H6 s6 → (∀ s7, Inv X pins (σ6.set i none) H6 s7 → Q s7) →
          wpAny (model X.prog X.w) X.A (do bindName X.env n .none; unbindBehindTheSuite X.env n pos') (fun _ s7 => Q s7) X.xe s6 := fun {σ6 H6 Q} S6 hq => gone_ok (X := X) (pins := pins) ⟨ok, S6.os, S6.bare, S6.base, S6.loc, S6.cell, S6.free, S6.freeC, fun p hp => S6.pin p (by rw [List.append_nil]; exact hp), S6.hok, S6.len⟩ hN hi hln hq
      cases f with
      | next =>
        obtain ⟨σ6, H6, S6, q6⟩ := hsp
        exact end_ S6 fun s7 J7 => ⟨_, _, J7, q6⟩
      | brk =>
        obtain ⟨σ6, H6, S6, q6⟩ := hsp
        exact end_ S6 fun s7 J7 => ⟨_, _, J7, q6⟩
      | cont =>
        obtain ⟨σ6, H6, S6, q6⟩ := hsp
        exact end_ S6 fun s7 J7 => ⟨_, _, J7, q6⟩
      | ret u =>
        obtain ⟨v6, σ6, H6, S6, r6, q6⟩ := hsp
        exact end_ S6 fun s7 J7 => ⟨_, _, _, J7, r6, q6⟩
    | false =>
      show wpAny _ X.A (handleBy (.ref a) X.env []) _ _ _
      refine wpAny_handleBy_nil ?_
      obtain ⟨k1, k2, k3, oe, vs, T, oT, ts', he, hz, hd, h1, hr⟩ := id fl3
      unfold PySem.passOn
      refine wpAny_bind (wpAny_field he hd h1 ?_)
      rw [if_neg (show ¬ ((Value.ref T == Value.none) = true) from by simp)]
      have fin : wpAny (model X.prog X.w) X.A (setFlight (.ref a) X.env.frame) (fun _ s4 => wpAny (model X.prog X.w) X.A (throw (.ref a) : Sem Flow) (SP X pins D) X.xe s4) X.xe { s' with heap := h3 } := by
        rw [hf]
        refine HandSPX.setFlight_upZ fl3 fun h4 hh4 up4 => wpAny_throw (tk _ _ ?_)
        exact ⟨a, B, sI, pins, σ', H', cls, d, rfl, J, nb, (up.trans up3).trans up4, .inr (.inr (by rw [hs]; exact hh4)), na, os, ag, hno rfl⟩
      first
        | exact wpAny_bind (wpAny_pure (wpAny_bind fin))
        | exact wpAny_bind fin
  · cases f with
    | next =>
      obtain ⟨σ', H', J', q⟩ := hsp
      exact wpAny_execs_nil ⟨σ', H', J'.ofTry ok, q⟩
    | brk =>
      obtain ⟨σ', H', J', q⟩ := hsp
      exact ⟨σ', H', J'.ofTry ok, q⟩
    | cont =>
      obtain ⟨σ', H', J', q⟩ := hsp
      exact ⟨σ', H', J'.ofTry ok, q⟩
    | ret u =>
      obtain ⟨v, σ', H', J', r, q⟩ := hsp
      exact ⟨v, σ', H', J'.ofTry ok, r, q⟩
end
theorem excO_ext {K : Kw} {a : Addr} {c : Str} {C : Addr} (hc : PySem.W.nsIn K.K mainGlobals c = some (some (.ref C))) : ∃ φ, ExH φ (.ref C) none a ∧ excO K a c = .ext φ := by
  refine ⟨_, ⟨fun h oe vs h1 h2 h3 => ⟨C, oe, vs, hc, h1, h2, h3⟩, ?_⟩, rfl⟩
  rintro h1 h2 ⟨C', oe, vs, k1, k2, k3, k4⟩ e
  exact ⟨C', oe, vs, k1, e _ k2, k3, k4⟩
/-- what each class is, where it is caught: true, let out: false; else not mirrored -/
def lookE : List (Str × Bool) → Str → Option Bool
  | [], _ => none
  | p :: ps, c => if p.1 = c then some p.2 else lookE ps c
/-- the own classes of a program, where they stand -/
structure OwnC (K : PySem.W.Frag) (mg : Str → Option Value) (c : Str) (C : Addr) : Prop where
  ns : PySem.W.nsIn K mainGlobals c = some (some (.ref C))
  gC : mg c = some (.ref C)
inductive CatchT (K : PySem.W.Frag) (mg : Str → Option Value) (x : Addr) : List (Str × Bool) → Prop
  | nil : CatchT K mg x []
  | cons {c : Str} {C : Addr} {b : Bool} {l : List (Str × Bool)} : OwnC K mg c C → PySem.W.exmOne K (.ref C) (.ref x) = some b → CatchT K mg x l → CatchT K mg x ((c, b) :: l)
theorem CatchT.look {K : PySem.W.Frag} {mg : Str → Option Value} {x : Addr} : ∀ {l : List (Str × Bool)} {c : Str} {b : Bool}, CatchT K mg x l → lookE l c = some b → ∃ C, OwnC K mg c C ∧ PySem.W.exmOne K (.ref C) (.ref x) = some b
  | _, _, _, .nil, h => by cases h
  | _, c, b, .cons (c := c') h1 h2 h3, h => by
    unfold lookE at h
    split at h
    · rename_i e
      have e : c' = c := e
      subst e
      cases h
      exact ⟨_, h1, h2⟩
    · exact h3.look h
/-- slot i holds nothing behind the suite -/
def dropT (i : Nat) : SR → SR
  | .nx env => .nx (env.set i none)
  | .rt r env => .rt r env
  | _ => .no
def sTryT (l : List (Str × Bool)) (i : Nat) (fb fs : Ev → SR) (env : Ev) : SR := match fb env with
  | .ex c env1 => match lookE l c with
    | some true => if i < env1.length then dropT i (fs (env1.set i (some (.d (excD c))))) else .no
    | some false => .ex c env1
    | none => .no
  | r => r
theorem sTryT_rt {l : List (Str × Bool)} {i : Nat} {fb fs : Ev → SR} {env env1 : Ev} {r : Ow} (h : fb env = .rt r env1) : sTryT l i fb fs env = .rt r env1 := by unfold sTryT; rw [h]
theorem sTryT_ex {l : List (Str × Bool)} {i : Nat} {fb fs : Ev → SR} {env env1 : Ev} {c : Str} (h : fb env = .ex c env1) (hl : lookE l c = some true) (hi : i < env1.length) : sTryT l i fb fs env = dropT i (fs (env1.set i (some (.d (excD c))))) := by unfold sTryT; rw [h]; simp only [hl, if_pos hi]
section
variable {X : Cx} {W : WX} {S : Nat → Bool} {x n : Str} {np pos pos' : Pos}
theorem ds_tryT {C : Addr} {body suite : List Stmt} {b₀ : Stmt} {fb fs : Ev → SR} {l : List (Str × Bool)} (i : Nat) (hx : X.ex = []) (hs : X.stack = X.env :: X.outer) (hf : X.env.frame = some X.env.locals) (hN : X.N.Nodup) (hi : X.N[i]? = some n) (hln : X.env.kindOf n = some .local) (hS : S i = true)
    (hc : Names X x (.ref C)) (ct : CatchT X.K X.mg C l) (tk : Takes X W)
    (hb : ∀ (W' : WX) (pn : List (Addr × Obj)) (xe : Value → Shared → Prop), Takes (X.tr pn xe) W' → PassesOwn (model X.prog X.w) X.A X.env xe → DSs (X.tr pn xe) W' S body fb)
    (hsu : ∀ (a : Addr) (pn : List (Addr × Obj)), DSs (X.suite a pn) W0 S (b₀ :: suite) fs) :
    DS X W S (.Try body [.ExceptHandler (some (.Name x np)) (some n) (b₀ :: suite) pos'] [] [] pos) (sTryT l i fb fs) := by
  refine ⟨_, ps_try_asT (i := i) (tb := fun W' => tsOf X W' S fb) (ts := tsOf X W0 S fs) hx hs hf hN hi hln hc tk (fun W' pn xe tk' po => (hb W' pn xe tk' po).can) (fun a pn => (hsu a pn).can), fun F H σ env fp D sat h => ?_⟩
  refine ⟨F, env, fp, sat, ?_⟩
  unfold sTryT at h
  cases e : fb env with
  | no => rw [e] at h; exact h
  | nx env1 => rw [e] at h; exact h
  | bk env1 => rw [e] at h; exact h
  | ct env1 => rw [e] at h; exact h
  | rt r env1 => rw [e] at h; exact h
  | ex c env1 =>
    rw [e] at h
    simp only at h
    intro Cc σ' F' H' fp' mc off st sat'
    cases el : lookE l c with
    | none => rw [el] at h; exact h.elim
    | some b =>
    rw [el] at h
    obtain ⟨C', oc, xm⟩ := ct.look el
    have : Cc = C' := by
      rw [oc.gC] at mc
      cases mc; rfl
    subst this
    cases b with
    | false => exact ⟨false, xm, (fun z => nomatch z), fun _ => h Cc σ' F' H' fp' mc off st sat'⟩
    | true =>
      simp only at h
      split at h
      · rename_i hil
        refine ⟨true, xm, fun _ a na => ?_, fun z => nomatch z⟩
        obtain ⟨φ, hφ, eφ⟩ := excO_ext (K := X.KK) (a := a) oc.ns
        refine ⟨φ, hφ, ?_⟩
        rw [← eφ]
        have ex : Ext F' H' (upd F' a (excO X.KK a c)) (upd H' a (excO X.KK a c)) := Ext.frz sat'.fh na _
        have hl : i < σ'.length := by rw [sat'.en.len]; exact hil
        obtain ⟨fp2, s2, sat2⟩ := put_step (v := .ref a) (r := .d (excD c)) sat' ex (.d (.exc (.inl upd_same))) List.nodup_nil (fun b z => nomatch z) hil
        refine ⟨_, env1.set i (some (.d (excD c))), fp2, sat2, ?_⟩
        have h2 := h.step (off.trans (.set hS (some (.ref a)))) (st.trans s2)
        cases ef : fs (env1.set i (some (.d (excD c)))) with
        | no => rw [ef] at h2; exact h2
        | bk env2 => rw [ef] at h2; exact h2.elim
        | ct env2 => rw [ef] at h2; exact h2.elim
        | ex c2 env2 => rw [ef] at h2; exact h2.elim
        | rt r env2 => rw [ef] at h2; exact h2
        | nx env2 =>
          rw [ef] at h2
          intro σ3 F3 H3 fp3 o3 s3 sat3
          by_cases hi2 : i < env2.length
          · obtain ⟨fr3, sub3, sat4⟩ := sat_set sat3 hi2 none
            exact h2 _ F3 H3 fr3 (o3.trans (.set hS none)) (s3.subset sub3) sat4
          · have hs3 : σ3.length ≤ i := by rw [sat3.en.len]; omega
            rw [show dropT i (.nx env2) = .nx (env2.set i none) from rfl] at h2
            show D.nx (σ3.set i none) H3
            rw [List.set_eq_of_length_le hs3]
            have e5 : env2.set i none = env2 := List.set_eq_of_length_le (by omega)
            rw [e5] at h2
            exact h2 _ F3 H3 fp3 o3 s3 sat3
      · exact h.elim
end
inductive TyE (K : Kw) (H : Hp) (x : V) (t : Value) : Prop
  | ty (h : TyX K.K H x t) : TyE K H x t
  | exc {a : Addr} {c : Str} {C : Addr} (hx : x = .ref a) (ht : t = .ref C) (ha : Rd H a (excO K a c)) (hc : PySem.W.nsIn K.K mainGlobals c = some (some (.ref C))) (ec : ExcC K.K C) : TyE K H x t
theorem kit_of2 {X : Cx} {pins : List (Addr × Obj)} {σ : L2.St} {H : Hp} {s : Shared} {x : V} {u t : Value} (I : Inv X pins σ H s) (rx : RelV x u) (ty : TyE X.KK H x t) : ∃ P : Heap → Prop, PySem.W.KitX X.K u t P ∧ P s.heap ∧ u ≠ .builtin "__main__.__loader__#opaque" := by
  cases ty with
  | ty h => exact kit_of I rx h
  | @exc a c C hx ht ha hc ec =>
    subst hx ht
    cases (show u = Value.ref a from rx)
    obtain ⟨⟨C', oe, vs, k1, k2, k3, k4⟩, _⟩ := (show ObjOk X.prog X.w H s.heap a (excO X.KK a c) from Rd.ok ha I.hok)
    rw [hc] at k1
    cases k1
    have J : PySem.W.InstAt s.heap a oe C none := by
      obtain ⟨oc, od, oda, osl⟩ := oe
      obtain ⟨h1, h2⟩ := k3
      dsimp only at h1 h2 k4
      subst h1 h2 k4
      exact ⟨k2, rfl, rfl, trivial⟩
    exact ⟨_, PySem.W.handS_kitx_exc ec.hg ec.hk ec.hs ec.hd ec.ha ec.hn ec.ht ec.hm, J, fun z => nomatch z⟩
def rIsi2 (K : Kw) : List V → Hp → VK → Prop := fun xs H Q => ∃ (x c : V) (t u : Value) (b : Bool), xs = [x, c] ∧ ClsV c u ∧ TyE K H x t ∧ PySem.W.kitOne K.K t u = some b ∧ Q (.bl b) H
section
variable {X : Cx}
theorem call_isi2 : CallR X (.builtin "isinstance") (rIsi2 X.KK) := by
  intro pins s σ H xs us Q I r h
  obtain ⟨x, c, t, u, b, rfl, k, ty, e, q⟩ := h
  obtain ⟨u1, u2, rfl, r1, r2⟩ := vals2 r
  have e2 := k.eq r2
  subst e2
  obtain ⟨P, Z, p, hx⟩ := kit_of2 I r1 ty
  exact PySem.W.kia_one Z I.kIn p e hx fun tk => ⟨.bl b, H, I.tok tk, rfl, q⟩
end
/-- a class asked of each own class, and of None -/
inductive AskT (K : PySem.W.Frag) (us : List Value) : List (Str × Bool) → Prop
  | nil : AskT K us []
  | cons {c : Str} {C : Addr} {b : Bool} {l : List (Str × Bool)} : PySem.W.nsIn K mainGlobals c = some (some (.ref C)) → ExcC K C → PySem.W.kitAny K (.ref C) us = some b → AskT K us l → AskT K us ((c, b) :: l)
theorem AskT.look {K : PySem.W.Frag} {us : List Value} : ∀ {l : List (Str × Bool)} {c : Str} {b : Bool}, AskT K us l → lookE l c = some b → ∃ C, PySem.W.nsIn K mainGlobals c = some (some (.ref C)) ∧ ExcC K C ∧ PySem.W.kitAny K (.ref C) us = some b
  | _, _, _, .nil, h => by cases h
  | _, c, b, .cons (c := c') h1 h2 h3 h4, h => by
    unfold lookE at h
    split at h
    · rename_i e
      have e : c' = c := e
      subst e
      cases h
      exact ⟨_, h1, h2, h3⟩
    · exact h4.look h
theorem kitAny_one {K : PySem.W.Frag} {t c : Value} {b : Bool} (h : PySem.W.kitAny K t [c] = some b) : PySem.W.kitOne K t c = some b := by
  unfold PySem.W.kitAny at h
  cases e : PySem.W.kitOne K t c with
  | none => rw [e] at h; cases h
  | some r =>
    rw [e] at h
    cases r with
    | true => exact h
    | false => exact h
/-- isinstance(e, X), e an exception or None -/
def gIsE (l : List (Str × Bool)) : D → R D
  | .none => .ok (.bool false)
  | .dict [(.none, .str c)] => match lookE l c with
    | some b => .ok (.bool b)
    | none => .no
  | _ => .no
@[simp] theorem gIsE_none (l : List (Str × Bool)) : gIsE l .none = .ok (.bool false) := rfl
theorem gIsE_exc {l : List (Str × Bool)} {c : Str} {b : Bool} (h : lookE l c = some b) : gIsE l (excD c) = .ok (.bool b) := by
  show (match lookE l c with
    | some b => .ok (.bool b)
    | none => .no : R D) = _
  rw [h]
/-- how an exception stands -/
theorem dp_exc {K : Kw} {H : Hp} {v : V} {c : Str} (h : Dp K H v (.dict [(.none, .str c)])) : ∃ a, v = .ref a ∧ Rd H a (excO K a c) := by
  cases h with
  | dct h1 h2 =>
    exfalso
    generalize hd : (PyData.none, PyData.str c) = p at h2
    cases h2 with
    | @cons k =>
      cases k <;> cases hd
  | dcn h1 h2 =>
    exfalso
    generalize hd : (PyData.none, PyData.str c) = p at h2
    cases h2 with
    | @cons k b v kvs d ps g1 g2 g3 g4 =>
      injection hd with e1 e2
      rw [← e1] at g1
      cases g1
  | exc h1 => exact ⟨_, rfl, h1⟩
section
variable {X : Cx} {W : WX} {a : Expr} {pos p p2 : Pos} {T : Str} {f : Ev → R D}
theorem isE_core {l : List (Str × Bool)} {us : List Value} {b : Bool} {H : Hp} {F : Hp} {v : V} {d : D} (at_ : AskT X.K us l) (hn : PySem.W.kitAny X.K (.type "NoneType") us = some false) (q : Dp X.KK H v d) (h : gIsE l d = .ok (.bool b)) : ∃ t, TyE X.KK H v t ∧ PySem.W.kitAny X.K t us = some b := by
  unfold gIsE at h
  split at h
  · cases h
    rw [dp_none q]
    exact ⟨_, .ty (.base .non), hn⟩
  · rename_i c
    split at h
    · rename_i b' e
      cases h
      obtain ⟨a, rfl, ha⟩ := dp_exc q
      obtain ⟨C, h1, h2, h3⟩ := at_.look e
      exact ⟨_, .exc rfl rfl ha h1 h2, h3⟩
    · cases h
  · cases h
theorem gIsE_bool {l : List (Str × Bool)} {d r : D} (h : gIsE l d = .ok r) : ∃ b, r = .bool b := by
  unfold gIsE at h
  split at h
  · cases h; exact ⟨_, rfl⟩
  · split at h
    · cases h; exact ⟨_, rfl⟩
    · cases h
  · cases h
theorem df_isE {l : List (Str × Bool)} {A : Addr} (ha : DV X W a f) (hg : Gl X "isinstance") (hm : X.mg "isinstance" = none) (gT : Gl X T) (mT : X.mg T = some (.ref A)) (at_ : AskT X.K [.ref A] l) (hn : PySem.W.kitOne X.K (.type "NoneType") (.ref A) = some false)
    (he : starEach [a, .Name T p2] X.env = (false, eval a X.env) :: starEach [.Name T p2] X.env := by rfl) (he2 : starEach [.Name T p2] X.env = (false, eval (.Name T p2) X.env) :: starEach [] X.env := by rfl) (hpl : (backTo pos (starEach [.Name T p2] X.env)).any (·.1) = false := by rfl)
    (hd : (T == ("__debug__" : Str)) = false := by decide) : DF X W (.Call (.Name "isinstance" p) [a, .Name T p2] [] pos) (eB f (gIsE l)) := by
  obtain ⟨t, pa, s⟩ := ha
  refine ⟨_, pe_callB call_isi2 hg hm (by decide +kernel) (pa_cons pa (pa_cons (pe_glob (v := .ref A) gT mT rfl hd) pa_nil he2) he) (he := he) (hpl := hpl), fun F H σ env fp Q sat hp => ?_⟩
  refine s.go sat hp fun d v F1 H1 sat1 q _ h1 => ?_
  cases e : gIsE l d with
  | no => rw [e] at h1; exact h1.elim
  | ex c =>
    exfalso
    unfold gIsE at e
    split at e
    · cases e
    · split at e <;> cases e
    · cases e
  | ok r =>
    obtain ⟨b, rfl⟩ := gIsE_bool e
    rw [e] at h1
    obtain ⟨t, ty, k⟩ := isE_core (F := F1) at_ (by unfold PySem.W.kitAny; rw [hn]; rfl) q e
    exact ⟨v, .ref A, t, .ref A, b, rfl, .own A, ty, kitAny_one k, h1 _ F1 H1 (.refl sat1.fh) (.bl b)⟩
theorem df_isEB {l : List (Str × Bool)} {T0 : String} (ha : DV X W a f) (hg : Gl X "isinstance") (hm : X.mg "isinstance" = none) (gT : Gl X T) (mT : X.mg T = none) (bT : bootBuiltins T = some (.type T0)) (at_ : AskT X.K [.type T0] l) (hn : PySem.W.kitOne X.K (.type "NoneType") (.type T0) = some false)
    (he : starEach [a, .Name T p2] X.env = (false, eval a X.env) :: starEach [.Name T p2] X.env := by rfl) (he2 : starEach [.Name T p2] X.env = (false, eval (.Name T p2) X.env) :: starEach [] X.env := by rfl) (hpl : (backTo pos (starEach [.Name T p2] X.env)).any (·.1) = false := by rfl)
    (hn2 : T ≠ "__name__" := by decide) (hd : (T == ("__debug__" : Str)) = false := by decide) : DF X W (.Call (.Name "isinstance" p) [a, .Name T p2] [] pos) (eB f (gIsE l)) := by
  obtain ⟨t, pa, s⟩ := ha
  refine ⟨_, pe_callB call_isi2 hg hm (by decide +kernel) (pa_cons pa (pa_cons (pe_bltn (v := .ty T0) gT mT bT rfl hn2 hd) pa_nil he2) he) (he := he) (hpl := hpl), fun F H σ env fp Q sat hp => ?_⟩
  refine s.go sat hp fun d v F1 H1 sat1 q _ h1 => ?_
  cases e : gIsE l d with
  | no => rw [e] at h1; exact h1.elim
  | ex c =>
    exfalso
    unfold gIsE at e
    split at e
    · cases e
    · split at e <;> cases e
    · cases e
  | ok r =>
    obtain ⟨b, rfl⟩ := gIsE_bool e
    rw [e] at h1
    obtain ⟨t, ty, k⟩ := isE_core (F := F1) at_ (by unfold PySem.W.kitAny; rw [hn]; rfl) q e
    exact ⟨v, .ty T0, t, .type T0, b, rfl, .ty T0, ty, kitAny_one k, h1 _ F1 H1 (.refl sat1.fh) (.bl b)⟩
theorem kitAny_of1 {K : PySem.W.Frag} {t c : Value} {b : Bool} (h : PySem.W.kitOne K t c = some b) : PySem.W.kitAny K t [c] = some b := by
  unfold PySem.W.kitAny
  rw [h]
  cases b <;> rfl
theorem kit_refN {K : PySem.W.Frag} {n : String} {A : Addr} {b : Bool} (hd : PySem.W.hasDictIn K A = true) (ht : PySem.W.typeIn K (.ref A) = some (.type "type")) (hs : PySem.W.subIn K (.type n) (.ref A) = some b) : PySem.W.kitOne K (.type n) (.ref A) = some b := by
  obtain ⟨cd, hc, _⟩ := PySem.W.any_some hd
  show (if ((Value.type n == Value.ref A) = true) then some true else PySem.W.kitCls K (.type n) (.ref A)) = some b
  rw [if_neg (fun e => by cases (beq_iff_eq.mp e))]
  have e2 : ((PySem.W.clsIn K A).isSome && PySem.W.typeIn K (.ref A) == some (.type "type")) = true := by rw [hc, ht] <;> rfl
  show (if ((PySem.W.clsIn K A).isSome && PySem.W.typeIn K (.ref A) == some (.type "type")) = true then PySem.W.subIn K (.type n) (.ref A) else none) = some b
  rw [if_pos e2]
  exact hs
end
end Mir
end
set_option Elab.async false
set_option linter.all false
set_option maxRecDepth 100000
set_option maxHeartbeats 4000000
noncomputable section
namespace Mir
open PySem PySem.Spec PyProof.Rows L2
section
variable {K : Kw} {F' F'' H' : Hp} (hT : ∀ a xs, SqT K.K F' a xs → SqT K.K F'' a xs)
include hT
variable (hn : ∀ b, F' b = none → F'' b = none)
include hn
end
/-- neither a tuple nor a thing that is held still -/
def notT (u : HO) : Prop := (∀ xs, u ≠ .tup xs) ∧ ∀ o w, u ≠ .frz o w
mutual
theorem OwnAt.kinds {K : Kw} {F H : Hp} : ∀ (o : Ow) (v : V) (fp : List Addr), OwnAt K F H v o fp → ∀ b ∈ fp, ∃ u, H b = some u ∧ notT u
  | .d x, v, fp, h, b, hb => by cases h; cases hb
  | .l os, v, fp, h, b, hb => by
    cases h with
    | l h1 h2 h3 =>
      rcases List.mem_cons.mp hb with e | e
      · subst e; exact ⟨_, h2, (fun _ z => nomatch z), fun _ _ z => nomatch z⟩
      · exact OwnAll.kinds os _ _ h3 b e
  | .m ps, v, fp, h, b, hb => by
    cases h with
    | m h1 h2 h3 =>
      rw [List.mem_singleton] at hb
      subst hb; exact ⟨_, h2, (fun _ z => nomatch z), fun _ _ z => nomatch z⟩
  | .t os, v, fp, h, b, hb => by
    cases h with
    | t h1 h2 => exact OwnAll.kinds os _ _ h2 b hb
  | .k _ os, v, fp, h, b, hb => by
    cases h with
    | k h1 h2 h3 =>
      rcases List.mem_cons.mp hb with e | e
      · subst e; exact ⟨_, h2, (fun _ z => nomatch z), fun _ _ z => nomatch z⟩
      · exact OwnAll.kinds os _ _ h3 b e
  | .n _ os, v, fp, h, b, hb => by
    cases h with
    | n h1 h2 h3 h4 =>
      rcases List.mem_cons.mp hb with e | e
      · subst e; exact ⟨_, h2, (fun _ z => nomatch z), fun _ _ z => nomatch z⟩
      · exact OwnAll.kinds os _ _ h4 b e
  | .o _ _ os, v, fp, h, b, hb => by
    cases h with
    | o h0 h1 h2 h3 h4 h5 =>
      rcases List.mem_cons.mp hb with e | e
      · subst e; exact ⟨_, h3, (fun _ z => nomatch z), fun _ _ z => nomatch z⟩
      · rcases List.mem_cons.mp e with e | e
        · subst e; exact ⟨_, h4, (fun _ z => nomatch z), fun _ _ z => nomatch z⟩
        · exact OwnAll.kinds os _ _ h5 b e
theorem OwnAll.kinds {K : Kw} {F H : Hp} : ∀ (o : List Ow) (v : List V) (fp : List Addr), OwnAll K F H v o fp → ∀ b ∈ fp, ∃ u, H b = some u ∧ notT u
  | [], v, fp, h, b, hb => by cases h; cases hb
  | o :: os, v, fp, h, b, hb => by
    cases h with
    | cons h1 h2 =>
      rcases List.mem_append.mp hb with e | e
      · exact OwnAt.kinds o _ _ h1 b e
      · exact OwnAll.kinds os _ _ h2 b e
end
section
variable {X : Cx} {W : WX} {S : Nat → Bool} {fs : Ev → SR} {st : Stmt}
end
end Mir
end
set_option Elab.async false
set_option linter.all false
set_option maxRecDepth 100000
set_option maxHeartbeats 4000000
noncomputable section
namespace Mir
open PySem PySem.Spec PyProof.Rows L2
section
variable {X : Cx} {W : WX} {S : Nat → Bool} {e a b : Expr} {es : List Expr} {pos : Pos} {f g : Ev → R Ow}
theorem OwnAll.append {K : Kw} {F H : Hp} : ∀ {os os' : List Ow} {vs ws : List V} {fp fp' : List Addr}, OwnAll K F H vs os fp → OwnAll K F H ws os' fp' → OwnAll K F H (vs ++ ws) (os ++ os') (fp ++ fp')
  | [], _, _, _, _, _, h, g => by cases h; exact g
  | o :: os, _, _, _, _, _, h, g => by
    cases h with
    | cons h1 h2 =>
      rw [List.append_assoc]
      exact .cons h1 (OwnAll.append h2 g)
/-- + of two new lists with own items -/
def eAddO (f g : Ev → R Ow) (env : Ev) : R Ow := (f env).bind fun x => (g env).bind fun y => match x, y with
  | .l xs, .l ys => guard (xs.length + ys.length ≤ sizeLine) (.ok (.l (xs ++ ys)))
  | _, _ => .no
@[simp] theorem eAddO_eq (f g : Ev → R Ow) (env : Ev) : eAddO f g env = (f env).bind fun x => (g env).bind fun y => match x, y with
  | .l xs, .l ys => guard (xs.length + ys.length ≤ sizeLine) (.ok (.l (xs ++ ys)))
  | _, _ => .no := rfl
/-- a tuple with own things in it -/
def eTupO (f : Ev → R (List Ow)) (env : Ev) : R Ow := (f env).bind fun os => guard (os.length ≤ sizeLine) (.ok (.t os))
@[simp] theorem eTupO_eq (f : Ev → R (List Ow)) (env : Ev) : eTupO f env = (f env).bind fun os => guard (os.length ≤ sizeLine) (.ok (.t os)) := rfl
end
end Mir
end
set_option Elab.async false
set_option linter.all false
set_option maxRecDepth 100000
set_option maxHeartbeats 4000000
noncomputable section
namespace Mir
open PySem PySem.Spec PyProof.Rows L2
/-- an exception that has come to the clauses -/
structure Air (X : Cx) (pins : List (Addr × Obj)) (a : Addr) (B : Heap) (sI s' : Shared) (h3 : Heap) (σ : L2.St) (H : Hp) (cls : Value) (d : Option Addr) : Prop where
  J : Inv X pins σ H sI
  nb : ∀ b o, sI.heap.get? b = some o → b ∉ frs X.stack → B.get? b = some o
  fl : HandSPX.FlyingZ B (X.env :: X.outer) a (Zc cls d) h3
  up : sI.heap.UpToSlots h3
  na : H a = none
  os : s'.os = sI.os
  ag : AllBare s'.gens
def HdsT (X : Cx) (hds : List ExceptHandler) (w : WX → Ends → WX) : Prop := ∀ (Wout : WX), Takes X Wout → ∀ pins D a B sI s' h3 σ H cls d, Air X pins a B sI s' h3 σ H cls d → w Wout D cls d σ H →
  wpAny (model X.prog X.w) X.A (handleBy (.ref a) X.env hds) (SP X pins D) X.xe { s' with heap := h3 }
section
variable {X : Cx} {x n : Str} {c : Value} {i : Nat} {suite : List Stmt} {b₀ : Stmt} {np pos pos' : Pos} {ts : TS} {hds : List ExceptHandler} {w : WX → Ends → WX}
end
abbrev Cl := List (Str × Bool) × Option Nat × (Ev → SR)
def noX : SR → SR
  | .ex _ _ => .no
  | r => r
def sHds : List Cl → Str → Ev → SR
  | [], c, env => .ex c env
  | h :: hs, c, env => match lookE h.1 c with
    | some true => match h.2.1 with
      | some i => if i < env.length then dropT i (h.2.2 (env.set i (some (.d (excD c))))) else .no
      | none => noX (h.2.2 env)
    | some false => sHds hs c env
    | none => .no
section
variable {X : Cx} {W : WX} {S : Nat → Bool} {x n : Str} {np pos pos' : Pos} {hds : List ExceptHandler} {hs : List Cl}
structure HdsD (X : Cx) (W : WX) (S : Nat → Bool) (hds : List ExceptHandler) (hs : List Cl) (w : WX → Ends → WX) : Prop where
  run : HdsT X hds w
  sem : ∀ c C σ F H fp env D, X.mg c = some (.ref C) → Sat X.KK F H σ env fp → PostS X W S σ F H fp D (sHds hs c env) → w W D (.ref C) none σ H
end
section
variable {X : Cx} {W : WX} {S : Nat → Bool} {e : Expr} {pos : Pos} {f : Ev → R (D × Ev)}
end
end Mir
end
set_option Elab.async false
set_option linter.all false
set_option maxRecDepth 100000
set_option maxHeartbeats 4000000
noncomputable section
namespace HT
open PySem PySem.Spec PyProof.Rows
section
variable {prog : Program} {w : World} {A : Around} {E : Value → Shared → Prop} {s : Shared}
end
end HT
namespace Mir
open PySem PySem.Spec PyProof.Rows L2
section
variable {X : Cx} {W : WX}
def gRevA : D → Option Ow
  | .list ds => some (.l (ds.reverse.map Ow.d))
  | .tuple ds => some (.d (.tuple ds.reverse))
  | _ => none
@[simp] theorem gRevA_list (ds : List D) : gRevA (.list ds) = some (.l (ds.reverse.map Ow.d)) := rfl
@[simp] theorem gRevA_tup (ds : List D) : gRevA (.tuple ds) = some (.d (.tuple ds.reverse)) := rfl
def eRevA (f : Ev → R D) (env : Ev) : R Ow := (f env).bind fun d => R.of (gRevA d)
@[simp] theorem eRevA_eq (f : Ev → R D) (env : Ev) : eRevA f env = (f env).bind fun d => R.of (gRevA d) := rfl
end
end Mir
end
set_option Elab.async false
set_option linter.all false
set_option maxRecDepth 100000
set_option maxHeartbeats 4000000
noncomputable section
namespace Mir
open PySem PySem.Spec PyProof.Rows L2
def noFrz (u : HO) : Prop := ∀ o v, u ≠ .frz o v
/-- what F tells F' tells, but for locks -/
structure Rl (F F' : Hp) : Prop where
  rd : ∀ a u, noFrz u → Rd F a u → Rd F' a u
  ins : ∀ a C dx fs, F a = some (.ins C dx fs) → F' a = some (.ins C dx fs)
theorem Rl.seq {K : PySem.W.Frag} {F F' : Hp} (r : Rl F F') {a : Addr} {xs : List V} (h : SqL K F a xs) : SqL K F' a xs := h.imp (r.rd a _ fun _ _ z => nomatch z) id
theorem Rl.seqT {K : PySem.W.Frag} {F F' : Hp} (r : Rl F F') {a : Addr} {xs : List V} (h : SqT K F a xs) : SqT K F' a xs := h.imp (r.rd a _ fun _ _ z => nomatch z) id
section
variable {K : Kw}
mutual
theorem Dp.rl {H H' : Hp} (e : Rl H H') : ∀ (d : D) (v : V), Dp K H v d → Dp K H' v d
  | .none, _, h => by cases h; exact .non
  | .bool b, _, h => by cases h; exact .bl b
  | .int b, _, h => by cases h; exact .int b
  | .str b, _, h => by cases h; exact .str b
  | .list ds, _, h => by
    cases h with
    | lst hs ha => exact .lst (e.seq hs) (DpAll.rl e ds _ ha)
  | .tuple ds, _, h => by
    cases h with
    | tup hs ha => exact .tup (e.seqT hs) (DpAll.rl e ds _ ha)
  | .dict ps, _, h => by
    cases h with
    | dct hs ha => exact .dct (e.rd _ _ (fun _ _ z => nomatch z) hs) (DpKv.rl e ps _ ha)
    | dcn hs ha => exact .dcn (e.rd _ _ (fun _ _ z => nomatch z) hs) (DpKn.rl e ps _ ha)
    | exc hs => exact .exc (e.rd _ _ (fun _ _ z => nomatch z) hs)
    | ins hs => exact .ins (e.ins _ _ _ _ hs)
theorem DpAll.rl {H H' : Hp} (e : Rl H H') : ∀ (ds : List D) (vs : List V), DpAll K H vs ds → DpAll K H' vs ds
  | [], _, h => by cases h; exact .nil
  | d :: ds, _, h => by
    cases h with
    | cons h1 h2 => exact .cons (Dp.rl e d _ h1) (DpAll.rl e ds _ h2)
theorem DpKv.rl {H H' : Hp} (e : Rl H H') : ∀ (ps : List (D × D)) (kvs : List (Key × V)), DpKv K H kvs ps → DpKv K H' kvs ps
  | [], _, h => by cases h; exact .nil
  | (x, d) :: ps, _, h => by
    cases h with
    | cons h1 h2 => exact .cons (Dp.rl e d _ h1) (DpKv.rl e ps _ h2)
theorem DpKn.rl {H H' : Hp} (e : Rl H H') : ∀ (ps : List (D × D)) (kvs : List (NestedKey × Addr × V)), DpKn K H kvs ps → DpKn K H' kvs ps
  | [], _, h => by cases h; exact .nil
  | (x, d) :: ps, _, h => by
    cases h with
    | cons h0 h1 h2 h3 => exact .cons (Dp.rl e _ _ h0) h1 (Dp.rl e d _ h2) (DpKn.rl e ps _ h3)
end
/-- .. and what stands beside F stays -/
structure Rlh (F H F' H' : Hp) : Prop where
  rl : Rl F F'
  fn : ∀ a, F a = none → F' a = none
  hh : ∀ a x, F a = none → H a = some x → H' a = some x
mutual
theorem OwnAt.rl {F H F' H' : Hp} (e : Rlh F H F' H') : ∀ (o : Ow) (v : V) (fp : List Addr), OwnAt K F H v o fp → OwnAt K F' H' v o fp
  | .d x, _, _, h => by cases h with | d h => exact .d (Dp.rl e.rl _ _ h)
  | .l os, _, _, h => by cases h with | l h1 h2 h3 => exact .l (e.fn _ h1) (e.hh _ _ h1 h2) (OwnAll.rl e os _ _ h3)
  | .m ps, _, _, h => by cases h with | m h1 h2 h3 => exact .m (e.fn _ h1) (e.hh _ _ h1 h2) (DpKv.rl e.rl _ _ h3)
  | .t os, _, _, h => by cases h with | t h1 h2 => exact .t (e.rl.seqT h1) (OwnAll.rl e os _ _ h2)
  | .k ks os, _, _, h => by cases h with | k h1 h2 h3 => exact .k (e.fn _ h1) (e.hh _ _ h1 h2) (OwnAll.rl e os _ _ h3)
  | .n ks os, _, _, h => by cases h with | n h1 h2 h3 h4 => exact .n (e.fn _ h1) (e.hh _ _ h1 h2) (fun p hp => ⟨Dp.rl e.rl _ _ (h3 p hp).1, (h3 p hp).2⟩) (OwnAll.rl e os _ _ h4)
  | .o c ns os, _, _, h => by cases h with | o h1 h2 h3 h4 h5 h6 => exact .o h1 (e.fn _ h2) (e.fn _ h3) (e.hh _ _ h2 h4) (e.hh _ _ h3 h5) (OwnAll.rl e os _ _ h6)
theorem OwnAll.rl {F H F' H' : Hp} (e : Rlh F H F' H') : ∀ (os : List Ow) (vs : List V) (fp : List Addr), OwnAll K F H vs os fp → OwnAll K F' H' vs os fp
  | [], _, _, h => by cases h; exact .nil
  | o :: os, _, _, h => by
    cases h with
    | cons h1 h2 => exact .cons (OwnAt.rl e o _ _ h1) (OwnAll.rl e os _ _ h2)
end
theorem EnvAt.rl {F H F' H' : Hp} (e : Rlh F H F' H') {σ : L2.St} {env : Ev} {fp : List Addr} (h : EnvAt K F H σ env fp) : EnvAt K F' H' σ env fp := by
  induction h with
  | nil => exact .nil
  | non h ih => exact .non ih
  | som h1 h2 ih => exact .som (OwnAt.rl e _ _ _ h1) ih
end
section
variable {X : Cx} {pins : List (Addr × Obj)} {σ : L2.St} {H : Hp} {s : Shared} {d : Addr} {o : Obj}
end
section
variable {X : Cx} {W : WX} {S : Nat → Bool} {tg e : Expr} {td : TE}
theorem PS.or {st : Stmt} {t t' : TS} (h : PS X st t) (h' : PS X st t') : PS X st (fun D σ H => t D σ H ∨ t' D σ H) := ⟨fun pins s σ H D I q => by
  rcases q with q | q
  · exact h.run pins s σ H D I q
  · exact h'.run pins s σ H D I q⟩
end
end Mir
end
set_option Elab.async false
set_option linter.all false
set_option maxRecDepth 100000
set_option maxHeartbeats 4000000
noncomputable section
namespace Mir
open PySem PySem.Spec PyProof.Rows L2
abbrev NKvs := List (NestedKey × Addr × V)
section
variable {X : Cx} {pins : List (Addr × Obj)} {σ : L2.St} {H : Hp} {s : Shared}
variable {A : Around} {E : Value → Shared → Prop} {d b : Addr} {kvs : NKvs} {k : NestedKey}
end
def eqD (a b : D) : Bool := @decide (a = b) (Classical.propDecidable _)
theorem eqD_iff {a b : D} : eqD a b = true ↔ a = b := @decide_eq_true_iff _ (Classical.propDecidable _)
@[simp] theorem eqD_self (a : D) : eqD a a = true := eqD_iff.mpr rfl
section
variable {X : Cx} {W : WX} {a b e k : Expr} {f g : Ev → R D} {pos : Pos}
end
def nO (ps : List (D × D)) : Ow := .n (ps.map (·.1)) (ps.map fun p => .d p.2)
theorem zip_fs : ∀ ps : List (D × D), (ps.map (·.1)).zip (ps.map (·.2)) = ps
  | [] => rfl
  | p :: ps => by rw [List.map_cons, List.map_cons, List.zip_cons_cons, zip_fs ps]
@[simp] theorem viewD_nO (ps : List (D × D)) : viewD (nO ps) = .dict ps := by
  unfold nO
  rw [viewD_n]
  have : viewAll (ps.map fun p => Ow.d p.2) = ps.map (·.2) := by
    have := viewAll_mapd (ps.map (·.2))
    rw [List.map_map] at this
    exact this
  rw [this, zip_fs]
section
variable {X : Cx} {W : WX} {S : Nat → Bool} {e k : Expr} {pos tpos npos : Pos} {x : Str} {f g : Ev → R D}
def eDictNewN (_ : Ev) : R Ow := .ok (nO [])
@[simp] theorem eDictNewN_eq (env : Ev) : eDictNewN env = .ok (nO []) := rfl
end
end Mir
end
set_option Elab.async false
set_option linter.all false
set_option maxRecDepth 100000
set_option maxHeartbeats 4000000
noncomputable section
namespace Mir
open PySem PySem.Spec PyProof.Rows L2
section
variable {K : Kw} {F H : Hp} {σ : L2.St} {env : Ev} {fp : List Addr}
end
section
variable {X : Cx} {W : WX} {S : Nat → Bool} {e k : Expr} {pos tpos npos apos cpos : Pos} {x : Str} {f : Ev → R Ow} {g : Ev → R D}
end
end Mir
end
set_option Elab.async false
set_option linter.all false
set_option maxRecDepth 100000
set_option maxHeartbeats 4000000
noncomputable section
namespace Mir
open PySem PySem.Spec PyProof.Rows L2
section
variable {X : Cx} {W : WX} {a b : Expr} {pos : Pos} {f g : Ev → R D}
end
end Mir
set_option Elab.async false
set_option linter.all false
set_option maxRecDepth 100000
set_option maxHeartbeats 4000000
noncomputable section
namespace Mir
open PySem PySem.Spec PyProof.Rows L2
section
variable {X : Cx} {W : WX}
end
end Mir
set_option Elab.async false
set_option linter.all false
set_option maxRecDepth 100000
set_option maxHeartbeats 4000000
noncomputable section
namespace Mir
open PySem PySem.Spec PyProof.Rows L2
section
variable {X : Cx} {W : WX} {a b : Expr} {pos : Pos} {f g : Ev → R D}
end
def gMulZ : D → D → Option D
  | .int i, .int j => gMul (.int i) (.int j)
  | .str z, .int n => if 0 ≤ n ∧ n ≤ 1000000 ∧ z.length * n.toNat ≤ sizeLine then some (.str (repS z n.toNat)) else none
  | _, _ => none
@[simp] theorem gMulZ_int (i j : Int) : gMulZ (.int i) (.int j) = gMul (.int i) (.int j) := rfl
section
variable {X : Cx} {W : WX} {a b : Expr} {pos : Pos} {f g : Ev → R D}
end
section
variable {K : Kw} {F H : Hp} {σ : L2.St} {env : Ev} {fp : List Addr}
end
section
variable {X : Cx} {x : Str}
end
end Mir
set_option Elab.async false
set_option linter.all false
set_option maxRecDepth 100000
set_option maxHeartbeats 4000000
noncomputable section
namespace RT
open PySem PySem.Spec PyProof.Rows
open PySem.Sem (wp)
section
variable {prog : Program} {w : World} {A : Around} {E : Value → Shared → Prop} {s : Shared} {z TI TO i1 i2 T : Addr} {fp1 fp2 : List Addr} {n1 n2 i : Nat} {P1 P2 : Nat → Value → Prop} {St1 St2 : Nat → Heap → Prop} {f : Bool} {oT : Obj}
theorem zipH_next_item {Q : Value → Shared → Prop} (S : ZipSep2 z TI TO i1 i2 fp1 fp2) (D1 : Draws prog w A i1 fp1 n1 P1 St1) (D2 : Draws prog w A i2 fp2 n2 P2 St2)
    (hz : IsZipHeld s.heap z TI TO T f) (hT : s.heap.get? T = some oT) (hTI : IsTupOf2 s.heap TI (.ref i1) (.ref i2)) (st1 : St1 i s.heap) (st2 : St2 i s.heap) (hlt1 : i < n1) (hlt2 : i < n2)
    (hQ : ∀ x1 x2 h' tk, P1 i x1 → P2 i x2 → IsZipHeld h' z TI TO T true → St1 (i + 1) h' → St2 (i + 1) h' → IsTupOf2 h' s.heap.objs.size x1 x2 → h'.objs.size = s.heap.objs.size + 1 →
      (∀ c o, c ≠ z → c ≠ i1 → c ≠ i2 → s.heap.get? c = some o → h'.get? c = some o) → Q (.ref s.heap.objs.size) { s with heap := h', toks := tk }) :
    wpAny (model prog w) A (Builtin.«zip.__next__» ⟨[.ref z], []⟩) (fun fin s' => ∃ v, fin = .done (.ret v) ∧ Q v s') E s := by
  obtain ⟨hp, g, d, tk0, os⟩ := s
  show wpAny _ _ (field (.ref z) 2 >>= _) _ _ _
  refine wpAny_bind (wpAny_field hz rfl (x := .bool false) rfl ?_)
  show wpAny _ _ (field (.ref z) 3 >>= _) _ _ _
  refine wpAny_bind (wpAny_field hz rfl (x := .ref TI) rfl ?_)
  refine wpAny_bind (wpAny_seqItems hTI rfl ?_)
  show wpAny _ _ (Builtin.SmallTypes.ownedTupleIsFree (.ref z) >>= _) _ _ _
  refine wpAny_bind (wpAny_tupleHeld_zip hz hT fun g0 hz0 hs0 => ?_)
  replace hs0 : Heap.SameBut z hp g0 := hs0
  simp only [Bool.false_eq_true, if_false]
  refine wpAny_bind ?_
  rw [← Array.forIn_toList]
  simp only [List.forIn_cons, List.forIn_nil]
  refine wpAny_bind (wpAny_bind (wpAny_holding ?_))
  show wpAny _ _ (Builtin.SmallTypes.nextOf (.ref i1) >>= _) _ _ ⟨g0, g, d, tk0, os⟩
  refine wpAny_bind (D1.item i _ _ _ hlt1 (D1.over st1 hs0 S.zf1) fun x1 p1 tk1 hx1 sn1 hp1 => wpAny_pure ?_)
  replace hp1 : Heap.SameBut i1 g0 p1 := hp1
  refine wpAny_pure ?_
  refine wpAny_bind (wpAny_bind (wpAny_holding ?_))
  show wpAny _ _ (Builtin.SmallTypes.nextOf (.ref i2) >>= _) _ _ ⟨p1, g, d, tk1, os⟩
  refine wpAny_bind (D2.item i _ _ _ hlt2 (D2.over (D2.over st2 hs0 S.zf2) hp1 S.sep1_2) fun x2 p2 tk2 hx2 sn2 hp2 => wpAny_pure ?_)
  replace hp2 : Heap.SameBut i2 p1 p2 := hp2
  refine wpAny_pure (wpAny_pure ?_)
  show wpAny _ _ (newTuple [x1, x2] >>= _) _ _ _
  refine wpAny_bind (wpAny_newTuple ?_)
  have hsz : p2.objs.size = hp.objs.size := by rw [hp2.1, hp1.1, hs0.1]
  have hz2 : IsZipHeld p2 z TI TO T true := hp2.extBut _ _ S.zi2 (hp1.extBut _ _ S.zi1 hz0)
  have hk : ∀ c o, c ≠ z → c ≠ i1 → c ≠ i2 → hp.get? c = some o → p2.get? c = some o := fun c o c1 c2 c3 e => hp2.extBut _ _ c3 (hp1.extBut _ _ c2 (hs0.extBut _ _ c1 e))
  have hj1 : St1 (i + 1) p2 := D1.over sn1 hp2 S.sep2_1
  refine wpAny_pure ⟨_, rfl, ?_⟩
  show Q (.ref p2.objs.size) ⟨p2.push { cls := .type "tuple", data := .seq #[x1, x2] }, g, d, tk2, os⟩
  have hp : IsTupOf2 (p2.push { cls := .type "tuple", data := .seq #[x1, x2] }) p2.objs.size x1 x2 := Heap.get?_push_size _ rfl
  have hz4 : (p2.push { cls := .type "tuple", data := .seq #[x1, x2] }).objs.size = p2.objs.size + 1 := Heap.size_push ..
  rw [hsz] at hp hz4 ⊢
  exact hQ x1 x2 _ tk2 hx1 hx2 (Heap.get?_push_of_some _ hz2) (D1.frame _ _ _ hj1 fun b hb o e => Heap.get?_push_of_some _ e) (D2.frame _ _ _ sn2 fun b hb o e => Heap.get?_push_of_some _ e) hp hz4 fun c o c1 c2 c3 e => Heap.get?_push_of_some _ (hk c o c1 c2 c3 e)
theorem zipH_next_end {Q : Fin → Shared → Prop} (S : ZipSep2 z TI TO i1 i2 fp1 fp2) (D1 : Draws prog w A i1 fp1 n1 P1 St1) (D2 : Draws prog w A i2 fp2 n2 P2 St2)
    (hz : IsZipHeld s.heap z TI TO T f) (hT : s.heap.get? T = some oT) (hTI : IsTupOf2 s.heap TI (.ref i1) (.ref i2)) (st1 : St1 i s.heap) (st2 : St2 i s.heap) (hle1 : i ≤ n1) (hle2 : i ≤ n2) (hend : i = n1 ∨ i = n2)
    (hE : ∀ h' tk e, (∀ c o, c ≠ z → c ≠ i1 → c ≠ i2 → s.heap.get? c = some o → h'.get? c = some o) → (∃ o, h'.get? e = some o ∧ o.cls = .type "StopIteration") → E (.ref e) { s with heap := h', toks := tk }) :
    wpAny (model prog w) A (Builtin.«zip.__next__» ⟨[.ref z], []⟩) Q E s := by
  obtain ⟨hp, g, d, tk0, os⟩ := s
  show wpAny _ _ (field (.ref z) 2 >>= _) _ _ _
  refine wpAny_bind (wpAny_field hz rfl (x := .bool false) rfl ?_)
  show wpAny _ _ (field (.ref z) 3 >>= _) _ _ _
  refine wpAny_bind (wpAny_field hz rfl (x := .ref TI) rfl ?_)
  refine wpAny_bind (wpAny_seqItems hTI rfl ?_)
  show wpAny _ _ (Builtin.SmallTypes.ownedTupleIsFree (.ref z) >>= _) _ _ _
  refine wpAny_bind (wpAny_tupleHeld_zip hz hT fun g0 hz0 hs0 => ?_)
  replace hs0 : Heap.SameBut z hp g0 := hs0
  simp only [Bool.false_eq_true, if_false]
  refine wpAny_bind ?_
  rw [← Array.forIn_toList]
  simp only [List.forIn_cons, List.forIn_nil]
  refine wpAny_bind (wpAny_bind (wpAny_holding ?_))
  show wpAny _ _ (Builtin.SmallTypes.nextOf (.ref i1) >>= _) _ _ ⟨g0, g, d, tk0, os⟩
  by_cases hlt1 : i < n1
  · refine wpAny_bind (D1.item i _ _ _ hlt1 (D1.over st1 hs0 S.zf1) fun x1 p1 tk1 hx1 sn1 hp1 => wpAny_pure ?_)
    replace hp1 : Heap.SameBut i1 g0 p1 := hp1
    have hi2 : i = n2 := by omega
    refine wpAny_pure ?_
    refine wpAny_bind (wpAny_bind (wpAny_holding ?_))
    show wpAny _ _ (Builtin.SmallTypes.nextOf (.ref i2) >>= _) _ _ ⟨p1, g, d, tk1, os⟩
    refine wpAny_bind (D2.done ⟨p1, g, d, tk1, os⟩ _ _ (by rw [← hi2]; exact (D2.over (D2.over st2 hs0 S.zf2) hp1 S.sep1_2)) fun q e hq he => ?_)
    replace hq : Heap.ExtBut i2 p1 q := hq
    exact hE q tk1 e (fun c o cz c1 c2 x => hq _ _ c2 (hp1.extBut _ _ c1 (hs0.extBut _ _ cz x))) he
  · have hi1 : i = n1 := by omega
    refine wpAny_bind (D1.done ⟨g0, g, d, tk0, os⟩ _ _ (by rw [← hi1]; exact (D1.over st1 hs0 S.zf1)) fun q e hq he => ?_)
    replace hq : Heap.ExtBut i1 g0 q := hq
    exact hE q tk0 e (fun c o cz c1 c2 x => hq _ _ c1 (hs0.extBut _ _ cz x)) he
theorem pyNext_zipH_item {Q : Option Value → Shared → Prop} (S : ZipSep2 z TI TO i1 i2 fp1 fp2) (D1 : Draws prog w A.in1 i1 fp1 n1 P1 St1) (D2 : Draws prog w A.in1 i2 fp2 n2 P2 St2)
    (hz : IsZipHeld s.heap z TI TO T f) (hT : s.heap.get? T = some oT) (hTI : IsTupOf2 s.heap TI (.ref i1) (.ref i2)) (st1 : St1 i s.heap) (st2 : St2 i s.heap) (hlt1 : i < n1) (hlt2 : i < n2)
    (hQ : ∀ x1 x2 h' tk, P1 i x1 → P2 i x2 → IsZipHeld h' z TI TO T true → St1 (i + 1) h' → St2 (i + 1) h' → IsTupOf2 h' s.heap.objs.size x1 x2 → h'.objs.size = s.heap.objs.size + 1 →
      (∀ c o, c ≠ z → c ≠ i1 → c ≠ i2 → s.heap.get? c = some o → h'.get? c = some o) → Q (some (.ref s.heap.objs.size)) { s with heap := h', toks := tk }) :
    wpAny (model prog w) A (pyNext (.ref z)) Q E s := by
  have hTy : s.TypeIs (.ref z) "zip" := ⟨_, hz, rfl⟩
  unfold pyNext
  exact wpAny_bind (wpAny_attempt (wpAny_callSpecial?_slot (name := Str.ofString "__next__") hTy F.slot_zip_next
    (wpAny_call_entry F.slot_zip_next hTy F.entry_zip_next
      (zipH_next_item S D1 D2 hz hT hTI st1 st2 hlt1 hlt2 fun x1 x2 h' tk y1 y2 b1 d1 d2 b5 b6 b7 => wpAny_pure (hQ x1 x2 h' tk y1 y2 b1 d1 d2 b5 b6 b7)) (F.args_zip_next_1 _))))
theorem pyNext_zipH_end {Q : Option Value → Shared → Prop} (S : ZipSep2 z TI TO i1 i2 fp1 fp2) (D1 : Draws prog w A.in1 i1 fp1 n1 P1 St1) (D2 : Draws prog w A.in1 i2 fp2 n2 P2 St2)
    (hz : IsZipHeld s.heap z TI TO T f) (hT : s.heap.get? T = some oT) (hTI : IsTupOf2 s.heap TI (.ref i1) (.ref i2)) (st1 : St1 i s.heap) (st2 : St2 i s.heap) (hle1 : i ≤ n1) (hle2 : i ≤ n2) (hend : i = n1 ∨ i = n2)
    (hQ : ∀ h' tk, (∀ c o, c ≠ z → c ≠ i1 → c ≠ i2 → s.heap.get? c = some o → h'.get? c = some o) → Q none { s with heap := h', toks := tk }) : wpAny (model prog w) A (pyNext (.ref z)) Q E s := by
  have hTy : s.TypeIs (.ref z) "zip" := ⟨_, hz, rfl⟩
  unfold pyNext
  refine wpAny_bind (wpAny_attempt (wpAny_callSpecial?_slot (name := Str.ofString "__next__") hTy F.slot_zip_next
    (wpAny_call_entry F.slot_zip_next hTy F.entry_zip_next (zipH_next_end S D1 D2 hz hT hTI st1 st2 hle1 hle2 hend fun h' tk e hk he => ?_) (F.args_zip_next_1 _))))
  obtain ⟨o, ho, hc⟩ := he
  refine wpAny_bind (wpAny_isInstance (T := "StopIteration") (b := true) ⟨o, ho, hc⟩ isSubtype_stop ?_)
  exact wpAny_pure (hQ _ _ hk)
/-- a zip at turn i, with no tuple out or with one that is held -/
def ZipSt (h : Heap) (z TI TO S i1 i2 : Addr) (i : Nat) : Prop :=
  (i = 0 ∧ IsZip h z TI TO .none ∧ ∃ a1 a2, IsTupOf2 h TO a1 a2) ∨ ∃ T f oT, IsZipHeld h z TI TO T f ∧ h.get? T = some oT ∧ T ≠ z ∧ T ≠ i1 ∧ T ≠ i2 ∧ T ≠ S
theorem ZipSt.keep {h h' : Heap} {z TI TO S i1 i2 : Addr} {i : Nat} (q : ZipSt h z TI TO S i1 i2 i) (up : ∀ b o, b ≠ S → h.get? b = some o → h'.get? b = some o) (zs : z ≠ S) (ts : TO ≠ S) : ZipSt h' z TI TO S i1 i2 i := by
  rcases q with ⟨a, b, c, d, e⟩ | ⟨T, f, oT, a, b, c, d, e, g⟩
  · exact .inl ⟨a, up _ _ zs b, c, d, up _ _ ts e⟩
  · exact .inr ⟨T, f, oT, up _ _ zs a, up _ _ g b, c, d, e, g⟩
theorem zip_step_item {Q : Option Value → Shared → Prop} {Sl : Addr} (S : ZipSep2 z TI TO i1 i2 fp1 fp2) (D1 : Draws prog w A.in1 i1 fp1 n1 P1 St1) (D2 : Draws prog w A.in1 i2 fp2 n2 P2 St2)
    (hz : ZipSt s.heap z TI TO Sl i1 i2 i) (hSl : Sl < s.heap.objs.size) (hTI : IsTupOf2 s.heap TI (.ref i1) (.ref i2)) (st1 : St1 i s.heap) (st2 : St2 i s.heap) (hlt1 : i < n1) (hlt2 : i < n2)
    (hQ : ∀ x1 x2 h' tk, P1 i x1 → P2 i x2 → ZipSt h' z TI TO Sl i1 i2 (i + 1) → St1 (i + 1) h' → St2 (i + 1) h' → IsTupOf2 h' s.heap.objs.size x1 x2 → h'.objs.size = s.heap.objs.size + 1 →
      (∀ c o, c ≠ z → c ≠ TO → c ≠ i1 → c ≠ i2 → s.heap.get? c = some o → h'.get? c = some o) → Q (some (.ref s.heap.objs.size)) { s with heap := h', toks := tk }) :
    wpAny (model prog w) A (pyNext (.ref z)) Q E s := by
  obtain ⟨o1, q1⟩ := D1.live i _ st1
  obtain ⟨o2, q2⟩ := D2.live i _ st2
  rcases hz with ⟨rfl, b, c, d, e⟩ | ⟨T, f, oT, a, b, c, d, e, g⟩
  · exact wpAny_pyNext_zipD2_item S D1 D2 b hTI e st1 st2 hlt1 hlt2 fun x1 x2 h' tk y1 y2 u1 u2 d1 d2 b5 b6 b7 =>
      hQ x1 x2 h' tk y1 y2 (.inr ⟨_, false, _, u1, b5, Nat.ne_of_gt (Heap.lt_size b), Nat.ne_of_gt (Heap.lt_size q1), Nat.ne_of_gt (Heap.lt_size q2), Nat.ne_of_gt hSl⟩) d1 d2 b5 b6 b7
  · exact pyNext_zipH_item S D1 D2 a b hTI st1 st2 hlt1 hlt2 fun x1 x2 h' tk y1 y2 u1 d1 d2 b5 b6 b7 =>
      hQ x1 x2 h' tk y1 y2 (.inr ⟨T, true, oT, u1, b7 T oT c d e b, c, d, e, g⟩) d1 d2 b5 b6 fun c o h1 _ h3 h4 => b7 c o h1 h3 h4
theorem zip_step_end {Q : Option Value → Shared → Prop} {Sl : Addr} (S : ZipSep2 z TI TO i1 i2 fp1 fp2) (D1 : Draws prog w A.in1 i1 fp1 n1 P1 St1) (D2 : Draws prog w A.in1 i2 fp2 n2 P2 St2)
    (hz : ZipSt s.heap z TI TO Sl i1 i2 i) (hTI : IsTupOf2 s.heap TI (.ref i1) (.ref i2)) (st1 : St1 i s.heap) (st2 : St2 i s.heap) (hle1 : i ≤ n1) (hle2 : i ≤ n2) (hend : i = n1 ∨ i = n2)
    (hQ : ∀ h' tk, (∀ c o, c ≠ z → c ≠ TO → c ≠ i1 → c ≠ i2 → s.heap.get? c = some o → h'.get? c = some o) → Q none { s with heap := h', toks := tk }) : wpAny (model prog w) A (pyNext (.ref z)) Q E s := by
  rcases hz with ⟨rfl, b, c, d, e⟩ | ⟨T, f, oT, a, b, c, d, e, g⟩
  · exact wpAny_pyNext_zipD2_end S D1 D2 b hTI e st1 st2 hle1 hle2 hend hQ
  · exact pyNext_zipH_end S D1 D2 a b hTI st1 st2 hle1 hle2 hend fun h' tk hk => hQ h' tk fun c o h1 _ h3 h4 => hk c o h1 h3 h4
end
end RT
set_option Elab.async false
set_option linter.all false
set_option maxRecDepth 100000
set_option maxHeartbeats 4000000
noncomputable section
namespace RT
open PySem PySem.Spec PyProof.Rows
open PySem.Sem (wp)
structure ZipG (P1 P2 : Nat → Value → Prop) (lo : Addr) (h : Heap) (as : List Addr) : Prop where
  rise : as.Pairwise (· < ·)
  above : ∀ a ∈ as, lo < a
  pairs : ∀ (j : Nat) (a : Addr), as[j]? = some a → ∃ x y, P1 j x ∧ P2 j y ∧ h.get? a = some { cls := .type "tuple", data := .seq #[x, y] }
theorem ZipG.there {P1 P2 : Nat → Value → Prop} {lo : Addr} {h : Heap} {as : List Addr} (g : ZipG P1 P2 lo h as) {a : Addr} (ha : a ∈ as) : a < h.objs.size := by
  obtain ⟨j, hj⟩ := List.mem_iff_getElem?.mp ha
  obtain ⟨_, _, _, _, e⟩ := g.pairs j a hj
  exact Heap.lt_size e
theorem zip_no_len : typeLookup (.type "zip") "__len__" = pure none := am_miss_of_fast (by decide +kernel)
theorem zip_no_hint : typeLookup (.type "zip") "__length_hint__" = pure none := am_miss_of_fast (by decide +kernel)
section
variable {prog : Program} {w : World} {A : Around} {E : Value → Shared → Prop} {s : Shared} {R : Result → Shared → Prop} {z TI TO i1 i2 : Addr} {fp1 fp2 : List Addr} {n1 n2 : Nat} {P1 P2 : Nat → Value → Prop} {St1 St2 : Nat → Heap → Prop}
theorem zip_loop {Sl : Addr} (S : ZipSep2 z TI TO i1 i2 fp1 fp2) (D1 : Draws prog w A.in1.in1 i1 fp1 n1 P1 St1) (D2 : Draws prog w A.in1.in1 i2 fp2 n2 P2 St2)
    (lz : z < Sl) (lTI : TI < Sl) (lTO : TO < Sl) (lf1 : ∀ b ∈ fp1, b < Sl) (lf2 : ∀ b ∈ fp2, b < Sl) (hn : min n1 n2 ≤ sizeLine) (res : Value) {h₁ : Heap}
    (hR : ∀ h' tk acc c as, (∀ b o, b ≠ Sl → b ≠ z → b ≠ TO → b ≠ i1 → b ≠ i2 → h₁.get? b = some o → h'.get? b = some o) → h'.get? Sl = some { cls := .type "list", dict := none, data := .seq acc c, slots := #[] } → as.length = min n1 n2 → ZipG P1 P2 Sl h' as →
      acc.toList = as.map Value.ref → R (.ok (.ret res)) { s with heap := h', toks := tk }) :
    ∀ (k i : Nat) (h : Heap) (tk c : Nat) (acc : Array Value) (as : List Addr), min n1 n2 - i = k → i ≤ min n1 n2 → ZipSt h z TI TO Sl i1 i2 i → IsTupOf2 h TI (.ref i1) (.ref i2) → St1 i h → St2 i h → (∀ b o, b ≠ Sl → b ≠ z → b ≠ TO → b ≠ i1 → b ≠ i2 → h₁.get? b = some o → h.get? b = some o) →
      h.get? Sl = some { cls := .type "list", dict := none, data := .seq acc c, slots := #[] } → acc.toList = as.map Value.ref → as.length = i → ZipG P1 P2 Sl h as →
      codeAny (model prog w) A (.builtin "list.extend.loop" ⟨[.ref Sl, .ref z, res], []⟩) R { s with heap := h, toks := tk } := by
  have l1 : i1 < Sl := lf1 _ S.mem1
  have l2 : i2 < Sl := lf2 _ S.mem2
  intro k
  induction k with
  | zero =>
    intro i h tk c acc as hk hi hst hTI st1 st2 hkeep hS hacc hal hG
    have hin : i = min n1 n2 := by omega
    refine codeAny_builtin PySem.F.entry_extend_loop ?_
    rw [Around.under_plainId PySem.F.plain_extend_loop _]
    show wpAny _ A.in1 (pyNext (.ref z) >>= _) _ _ _
    refine wpAny_bind (zip_step_end (s := { s with heap := h, toks := tk }) (A := A.in1) S D1 D2 hst hTI st1 st2 (by omega) (by omega) (by omega) fun h' tk' he => ?_)
    refine wpAny_pure (hR h' tk' acc c as (fun b o h1 h2 h3 h4 h5 e => he b o h2 h3 h4 h5 (hkeep b o h1 h2 h3 h4 h5 e)) (he Sl _ (Nat.ne_of_gt lz) (Nat.ne_of_gt lTO) (Nat.ne_of_gt l1) (Nat.ne_of_gt l2) hS) (by omega) ⟨hG.rise, hG.above, fun j a hj => ?_⟩ hacc)
    obtain ⟨x, y, p, q, e3⟩ := hG.pairs j a hj
    have ha := hG.above a (List.mem_of_getElem? hj)
    exact ⟨x, y, p, q, he a _ (Nat.ne_of_gt (Nat.lt_trans lz ha)) (Nat.ne_of_gt (Nat.lt_trans lTO ha)) (Nat.ne_of_gt (Nat.lt_trans l1 ha)) (Nat.ne_of_gt (Nat.lt_trans l2 ha)) e3⟩
  | succ k ih =>
    intro i h tk c acc as hk hi hst hTI st1 st2 hkeep hS hacc hal hG
    have hlt : i < min n1 n2 := by omega
    have hsz : acc.size = i := by rw [← Array.length_toList, hacc, List.length_map, hal]
    have hSl : Sl < h.objs.size := Heap.lt_size hS
    refine codeAny_builtin PySem.F.entry_extend_loop ?_
    rw [Around.under_plainId PySem.F.plain_extend_loop _]
    show wpAny _ A.in1 (pyNext (.ref z) >>= _) _ _ _
    refine wpAny_bind (zip_step_item (s := { s with heap := h, toks := tk }) (A := A.in1) S D1 D2 hst hSl hTI st1 st2 (by omega) (by omega) fun x1 x2 h' tk' p1 p2 hst' st1' st2' ht hz hkp => ?_)
    dsimp only at ht hz hkp ⊢
    have hS' := hkp Sl _ (Nat.ne_of_gt lz) (Nat.ne_of_gt lTO) (Nat.ne_of_gt l1) (Nat.ne_of_gt l2) hS
    have hTI' := hkp TI _ S.TIz S.TITO S.TIi1 S.TIi2 hTI
    have up : ∀ b o, b ≠ Sl → h'.get? b = some o → (h'.update Sl (Obj.mapSeq (·.push (Value.ref h.objs.size)))).get? b = some o := fun b o hb e => (Heap.get?_update_other _ _ (Ne.symm hb)).trans e
    show wpAny _ A.in1 (updateSeq Sl (·.push (Value.ref h.objs.size)) >>= _) _ _ _
    refine wpAny_bind ?_
    refine wpAny_updateSeq hS' rfl (wpAny_pure ⟨plainId_quiet PySem.F.plain_extend_loop _, ih (i + 1) _ tk' _ (acc.push (Value.ref h.objs.size)) (as ++ [h.objs.size]) (by omega) hlt (hst'.keep up (Nat.ne_of_lt lz) (Nat.ne_of_lt lTO)) (up _ _ (Nat.ne_of_lt lTI) hTI')
      (D1.frame _ _ _ st1' fun b hb o e => up b o (Nat.ne_of_lt (lf1 b hb)) e) (D2.frame _ _ _ st2' fun b hb o e => up b o (Nat.ne_of_lt (lf2 b hb)) e)
      (fun b o h1 h2 h3 h4 h5 e => up b o h1 (hkp b o h2 h3 h4 h5 (hkeep b o h1 h2 h3 h4 h5 e))) (Heap.get?_update_self _ hS' rfl) (by rw [Array.toList_push, hacc, List.map_append]; rfl) (by rw [List.length_append, hal]; rfl) ⟨?_, ?_, ?_⟩⟩) (by rw [hsz]; omega) (by show (acc.push (Value.ref h.objs.size)).size ≤ sizeLine + 1; rw [Array.size_push, hsz]; omega)
    · refine List.pairwise_append.mpr ⟨hG.rise, List.pairwise_singleton _ _, fun a ha b hb => ?_⟩
      rw [List.mem_singleton.mp hb]
      exact hG.there ha
    · intro a ha
      rcases List.mem_append.mp ha with ha | ha
      · exact hG.above a ha
      · rw [List.mem_singleton.mp ha]; exact hSl
    · intro j b hj
      rcases Nat.lt_trichotomy j as.length with h1 | h1 | h1
      · rw [List.getElem?_append_left h1] at hj
        obtain ⟨x, y, p, q, e3⟩ := hG.pairs j b hj
        have hb := hG.above b (List.mem_of_getElem? hj)
        exact ⟨x, y, p, q, up b _ (Nat.ne_of_gt hb) (hkp b _ (Nat.ne_of_gt (Nat.lt_trans lz hb)) (Nat.ne_of_gt (Nat.lt_trans lTO hb)) (Nat.ne_of_gt (Nat.lt_trans l1 hb)) (Nat.ne_of_gt (Nat.lt_trans l2 hb)) e3)⟩
      · subst h1
        have hb : h.objs.size = b := by simpa using hj
        subst hb
        subst hal
        exact ⟨x1, x2, p1, p2, up _ _ (Nat.ne_of_gt hSl) ht⟩
      · have hnone : (as ++ [h.objs.size])[j]? = none := List.getElem?_eq_none (by rw [List.length_append, List.length_singleton]; omega)
        rw [hnone] at hj; cases hj
theorem zip_init {Sl : Addr} (S : ZipSep2 z TI TO i1 i2 fp1 fp2) (D1 : Draws prog w A.in1.in1 i1 fp1 n1 P1 St1) (D2 : Draws prog w A.in1.in1 i2 fp2 n2 P2 St2)
    (lz : z < Sl) (lTI : TI < Sl) (lTO : TO < Sl) (lf1 : ∀ b ∈ fp1, b < Sl) (lf2 : ∀ b ∈ fp2, b < Sl) (hn : min n1 n2 ≤ sizeLine)
    (hz : IsZip s.heap z TI TO .none) (hTO : ∃ a1 a2, IsTupOf2 s.heap TO a1 a2) (hTI : IsTupOf2 s.heap TI (.ref i1) (.ref i2)) (st1 : St1 0 s.heap) (st2 : St2 0 s.heap) (hS : s.heap.get? Sl = some { cls := .type "list", data := .seq #[] })
    (hR : ∀ h' tk acc c as, (∀ b o, b ≠ Sl → b ≠ z → b ≠ TO → b ≠ i1 → b ≠ i2 → s.heap.get? b = some o → h'.get? b = some o) → h'.get? Sl = some { cls := .type "list", dict := none, data := .seq acc c, slots := #[] } → as.length = min n1 n2 → ZipG P1 P2 Sl h' as →
      acc.toList = as.map Value.ref → R (.ok (.ret .none)) { s with heap := h', toks := tk }) :
    wpAny (model prog w) A.in1 (Builtin.«list.__init__» ⟨[.ref Sl, .ref z], []⟩)
      (fun fin s' => match fin with | .done f => R (.ok f) s' | .again c' => c'.quiet = true ∧ codeAny (model prog w) A c' R s') (fun e s' => R (.error e) s') s := by
  have hSz : Sl ≠ z := Nat.ne_of_gt lz
  show wpAny _ A.in1 (do let old ← Builtin.List.listItems (.ref Sl); Builtin.List.listUpdate (.ref Sl) (fun _ => #[]); letGo old.toList.reverse; Builtin.List.listExtendWith (.ref Sl) (.ref z) .none) _ _ s
  refine wpAny_bind ?_
  unfold Builtin.List.listItems
  refine wpAny_bind (wpAny_seqItems hS rfl (wpAny_pure ?_))
  show wpAny _ A.in1 (updateSeq Sl (fun _ => #[]) >>= fun _ => letGo (#[] : Array Value).toList.reverse >>= fun _ => Builtin.List.listExtendWith (.ref Sl) (.ref z) .none) _ _ s
  refine wpAny_bind (wpAny_updateSeq hS rfl ?_)
  have hS₁ := Heap.get?_update_self (Obj.mapSeq (fun _ => (#[] : Array Value))) hS rfl
  have oth1 : ∀ b o, b ≠ Sl → s.heap.get? b = some o → (s.heap.update Sl (Obj.mapSeq (fun _ => (#[] : Array Value)))).get? b = some o :=
    fun b o hb e => (Heap.get?_update_other _ _ (Ne.symm hb)).trans e
  refine wpAny_bind (wpAny_letGo ?_)
  have hz1 : IsZip (s.heap.update Sl (Obj.mapSeq (fun _ => (#[] : Array Value)))) z TI TO .none := oth1 _ _ (Ne.symm hSz) hz
  have hT : ({ s with heap := s.heap.update Sl (Obj.mapSeq (fun _ => (#[] : Array Value))) } : Shared).TypeIs (.ref z) "zip" := ⟨_, hz1, rfl⟩
  have h1 : Builtin.List.listSameRef (.ref Sl) (.ref z) = false := by simp [Builtin.List.listSameRef, hSz]
  have h2 : (Value.type "zip" == Value.type "list") = false := by decide
  have h3 : (Value.type "zip" == Value.type "tuple") = false := by decide
  unfold Builtin.List.listExtendWith
  refine wpAny_bind (wpAny_typeOf hT ?_)
  simp only [h1, h2, h3, Bool.or_false, Bool.false_eq_true, if_false]
  refine wpAny_bind (wpAny_pyIter_zip hz1 ?_)
  refine wpAny_bind (wpAny_holding ?_)
  unfold Builtin.List.listLengthHint
  refine wpAny_bind (wpAny_specialOf hT zip_no_len ?_)
  show wpAny _ A.in1 (specialOf (Value.ref z) (Str.ofString "__length_hint__") >>= _) _ _ _
  refine wpAny_bind (wpAny_specialOf hT zip_no_hint ?_)
  refine wpAny_pure ?_
  show wpAny _ A.in1 (rule "list.extend.makes-room" >>= fun _ => Builtin.List.listTouch (.ref Sl) >>= fun _ =>
    again (.builtin "list.extend.loop" ⟨[.ref Sl, .ref z, .none], []⟩)) _ _ _
  refine wpAny_bind (wpAny_rule ?_)
  refine wpAny_bind ?_
  show wpAny _ A.in1 (updateSeq Sl (·.push .none) >>= fun _ => updateSeq Sl (·.pop)) _ _ _
  refine wpAny_bind (wpAny_updateSeq hS₁ rfl ?_)
  have hS₂ := Heap.get?_update_self (Obj.mapSeq (·.push Value.none)) hS₁ rfl
  refine wpAny_updateSeq (hz := by seq_fits) hS₂ rfl ?_
  have hS₃ := Heap.get?_update_self (Obj.mapSeq (·.pop)) hS₂ rfl
  have oth : ∀ b o, b ≠ Sl → s.heap.get? b = some o → (((s.heap.update Sl (Obj.mapSeq (fun _ => (#[] : Array Value)))).update Sl (Obj.mapSeq (·.push Value.none))).update Sl (Obj.mapSeq (·.pop))).get? b = some o :=
    fun b o hb e => (Heap.get?_update_other _ _ (Ne.symm hb)).trans ((Heap.get?_update_other _ _ (Ne.symm hb)).trans (oth1 b o hb e))
  obtain ⟨a1, a2, hTO⟩ := hTO
  refine wpAny_pure ⟨plainId_quiet PySem.F.plain_extend_loop _, zip_loop (s := s) (h₁ := s.heap) S D1 D2 lz lTI lTO lf1 lf2 hn .none hR (min n1 n2) 0 _ _ _ #[] [] (Nat.sub_zero _) (Nat.zero_le _)
    (.inl ⟨rfl, oth _ _ (Ne.symm hSz) hz, a1, a2, oth _ _ (Nat.ne_of_lt lTO) hTO⟩) (oth _ _ (Nat.ne_of_lt lTI) hTI) (D1.frame _ _ _ st1 fun b hb o e => oth b o (Nat.ne_of_lt (lf1 b hb)) e) (D2.frame _ _ _ st2 fun b hb o e => oth b o (Nat.ne_of_lt (lf2 b hb)) e)
    (fun b o h1 _ _ _ _ e => oth b o h1 e) hS₃ rfl rfl ⟨List.Pairwise.nil, (fun _ ha => nomatch ha), (fun j a hj => by simp at hj)⟩⟩
theorem call_list_zip {Q : Value → Shared → Prop} (S : ZipSep2 z TI TO i1 i2 fp1 fp2) (D1 : Draws prog w A.in1.in1.in1 i1 fp1 n1 P1 St1) (D2 : Draws prog w A.in1.in1.in1 i2 fp2 n2 P2 St2) (hn : min n1 n2 ≤ sizeLine)
    (hz : IsZip s.heap z TI TO .none) (hTO : ∃ a1 a2, IsTupOf2 s.heap TO a1 a2) (hTI : IsTupOf2 s.heap TI (.ref i1) (.ref i2)) (st1 : St1 0 s.heap) (st2 : St2 0 s.heap) (lf1 : ∀ b ∈ fp1, b < s.heap.objs.size) (lf2 : ∀ b ∈ fp2, b < s.heap.objs.size)
    (hQ : ∀ h' tk acc c as, (∀ b o, b ≠ z → b ≠ TO → b ≠ i1 → b ≠ i2 → s.heap.get? b = some o → h'.get? b = some o) → h'.get? s.heap.objs.size = some { cls := .type "list", dict := none, data := .seq acc c, slots := #[] } → as.length = min n1 n2 → ZipG P1 P2 s.heap.objs.size h' as →
      acc.toList = as.map Value.ref → Q (.ref s.heap.objs.size) { s with heap := h', toks := tk }) :
    wpAny (model prog w) A (call (.type "list") [.ref z]) Q E s := by
  obtain ⟨a1, a2, hTO⟩ := hTO
  refine callType_codes (Q₁ := fun obj s₁ => obj = .ref s.heap.objs.size ∧ s₁ = { s with heap := s.heap.push { cls := .type "list", data := .seq #[] } }) PySem.F.called_list (PySem.F.typeCall_list_1 _) PySem.F.entry_list_init
    (code_list_new _ ⟨rfl, rfl⟩) fun obj s₁ h₁ => ?_
  obtain ⟨rfl, rfl⟩ := h₁
  have hS : (s.heap.push { cls := .type "list", data := .seq #[] }).get? s.heap.objs.size = some { cls := .type "list", data := .seq #[] } := Heap.get?_push_size _ rfl
  refine ⟨⟨_, hS, rfl⟩, PySem.F.args_list_init_2 _ _, zip_init (A := A.in1) (s := { s with heap := s.heap.push { cls := .type "list", data := .seq #[] } }) S D1 D2 (Heap.lt_size hz) (Heap.lt_size hTI) (Heap.lt_size hTO) lf1 lf2 hn (Heap.get?_push_of_some _ hz) ⟨a1, a2, Heap.get?_push_of_some _ hTO⟩ (Heap.get?_push_of_some _ hTI)
    (D1.frame _ _ _ st1 fun b _ o e => Heap.get?_push_of_some _ e) (D2.frame _ _ _ st2 fun b _ o e => Heap.get?_push_of_some _ e) hS fun h' tk acc c as hk hS' hl hG hacc => ?_⟩
  exact ⟨rfl, hQ h' tk acc c as (fun b o h2 h3 h4 h5 e => hk b o (Nat.ne_of_lt (Heap.lt_size e)) h2 h3 h4 h5 (Heap.get?_push_of_some _ e)) hS' hl hG hacc⟩
end
end RT
set_option Elab.async false
set_option linter.all false
set_option maxRecDepth 100000
set_option maxHeartbeats 4000000
noncomputable section
namespace Mir
open PySem PySem.Spec PyProof.Rows L2 RT
section
variable {X : Cx} {pins : List (Addr × Obj)} {σ : L2.St} {H : Hp} {s : Shared} {h' : Heap}
theorem turnedMany {t' : Nat} {ch : List Addr} {H' : Hp} (I : Inv X pins σ H s) (k : ∀ b o, b ∉ ch → s.heap.get? b = some o → h'.get? b = some o) (hf : ∀ b ∈ ch, FpOk X pins H b)
    (kh : ∀ b u, H b = some u → H' b = some u) (nf : ∀ b o, s.heap.get? b = some o → H b = none → H' b = none) (new : ∀ b u, H' b = some u → H b = none → ObjOk X.prog X.w H' h' b u) : Inv X pins σ H' { s with heap := h', toks := t' } := by
  have nit : ∀ b u, H b = some u → b ∉ ch := fun b u e z => by
    have q := (hf b z).1
    rw [q] at e; cases e
  refine I.step (g' := s.gens) (d' := s.drawn) (ch := ch) (fun b hb => ⟨(hf b hb).2.2.2.1, (hf b hb).2.1, (hf b hb).2.2.2.2.1, (hf b hb).2.2.2.2.2⟩) (fun b o _ _ hc e _ => k b o hc e) (fun b o _ _ hc e _ => ⟨o.slots, k b o hc e⟩)
    (fun b o _ e n => nf b o e n) (fun b o hc e => ⟨o, k b o hc e⟩) (fun b xs e => kh b _ e) (fun b o u e => kh b _ e) (fun b ps e => ⟨#[], ?_⟩) (fun m hm => ?_) (fun b u e => ?_) I.bare
  · rw [kh b _ e]; simp
  · obtain ⟨o, es, ep, ho, r⟩ := hm
    exact ⟨o, es, ep, k _ o (fun z => (hf _ z).2.1 rfl) ho, r⟩
  · cases hb : H b with
    | none => exact new b u e hb
    | some u' =>
      have := kh b _ hb
      rw [e] at this
      cases this
      refine (I.hok b u hb).stay (fun c v hc q => k c v ?_ q) (fun c q => kh c _ q) fun c xs q => kh c _ q
      rcases hc with z | z
      · rw [z]; exact nit b u hb
      · exact nit c _ z
end
/-- the pairs at their addresses -/
def putPr : Hp → List Addr → List (V × V) → Hp
  | H, a :: as, p :: ps => putPr (upd H a (.tup [p.1, p.2])) as ps
  | H, _, _ => H
theorem putPr_off {b : Addr} : ∀ (as : List Addr) (ps : List (V × V)) (H : Hp), b ∉ as → putPr H as ps b = H b
  | [], _, _, _ => rfl
  | _ :: _, [], _, _ => rfl
  | a :: as, p :: ps, H, h => by
    show putPr (upd H a (.tup [p.1, p.2])) as ps b = H b
    rw [putPr_off as ps _ (fun z => h (List.mem_cons_of_mem _ z)), upd_ne (fun z => h (by rw [z]; exact List.mem_cons_self))]
theorem putPr_at : ∀ (as : List Addr) (ps : List (V × V)) (H : Hp), as.length = ps.length → as.Nodup → ∀ (j : Nat) (t : Addr) (p : V × V), as[j]? = some t → ps[j]? = some p → putPr H as ps t = some (.tup [p.1, p.2])
  | [], [], _, _, _, j, t, p, h, _ => by simp at h
  | [], _ :: _, _, h, _, _, _, _, _, _ => by cases h
  | _ :: _, [], _, h, _, _, _, _, _, _ => by cases h
  | a :: as, p :: ps, H, h, hn, 0, t, q, h1, h2 => by
    simp at h1 h2
    subst h1 h2
    have hn' := List.nodup_cons.mp hn
    show putPr (upd H a (.tup [p.1, p.2])) as ps a = _
    rw [putPr_off as ps _ hn'.1, upd_same]
  | a :: as, p :: ps, H, h, hn, j + 1, t, q, h1, h2 => by
    have hn' := List.nodup_cons.mp hn
    exact putPr_at as ps (upd H a (.tup [p.1, p.2])) (Nat.succ.inj h) hn'.2 j t q (by simpa using h1) (by simpa using h2)
theorem putPr_ext : ∀ (as : List Addr) (ps : List (V × V)) (F H : Hp), Same F H → (∀ t ∈ as, H t = none) → as.Nodup → Ext F H (putPr F as ps) (putPr H as ps)
  | [], _, F, H, s, _, _ => Ext.refl s
  | _ :: _, [], F, H, s, _, _ => Ext.refl s
  | a :: as, p :: ps, F, H, s, h, hn => by
    have hn' := List.nodup_cons.mp hn
    have e := Ext.frz s (h a List.mem_cons_self) (.tup [p.1, p.2])
    refine e.trans (putPr_ext as ps _ _ e.fh (fun t ht => ?_) hn'.2)
    rw [upd_ne (fun z => hn'.1 (by rw [← z]; exact ht))]
    exact h t (List.mem_cons_of_mem _ ht)
def rZipL (x : List V) (H : Hp) (Q : VK) (K : Kw) : Prop := ∃ t u a b xs ys, x = [.ref a, .ref b] ∧ Sqq t K.K H a xs ∧ Sqq u K.K H b ys ∧
  ∀ (p : Addr) (ts : List Addr), H p = none → (∀ t ∈ ts, H t = none) → p ∉ ts → ts.Nodup → ts.length = (xs.zip ys).length → Q (.ref p) (upd (putPr H ts (xs.zip ys)) p (.lst (ts.map V.ref)))
def tListZip (K : Kw) (ta : TA) : TE := fun σ H Q => ta σ H fun x H1 => rZipL x H1 Q K
section
variable {X : Cx} {W : WX}
theorem pe_listZip {e e2 : Expr} {ta : TA} {p p2 pos pos2 : Pos} (hc : X.calm = true) (hg : Gl X "list") (hm : X.mg "list" = none) (hg2 : Gl X "zip") (hm2 : X.mg "zip" = none) (ha : PA X [e, e2] ta)
    (hs2 : starEach [e, e2] X.env = (false, eval e X.env) :: starEach [e2] X.env := by rfl) (hpl : (backTo pos2 (starEach [e2] X.env)).any (·.1) = false := by rfl)
    (hs : starEach [.Call (.Name "zip" p2) [e, e2] [] pos2] X.env = (false, eval (.Call (.Name "zip" p2) [e, e2] [] pos2) X.env) :: starEach [] X.env := by rfl) :
    PE X (.Call (.Name "list" p) [.Call (.Name "zip" p2) [e, e2] [] pos2] [] pos) (tListZip X.KK ta) := by
  refine ⟨fun pins s σ H Q I h => ?_⟩
  refine Call_ (ld_blt I hg hm boot_list (PyProof.Rows.callWith_type1 (args_cons (Call_ (ld_blt I hg2 hm2 PyProof.Rows.boot_zip (PyProof.Rows.callWith_type1 (thn (ha.run pos2 pins s σ H _ I h) fun us s1 ⟨vs, H1, I1, r1, t, u, a, b, xs, ys, ex, hq, hr, q⟩ => ?_) hs2 hpl))) hs) hs rfl))
  subst ex
  cases r1 with
  | cons r rr =>
    cases rr with
    | cons r' rr =>
      cases rr
      cases r
      cases r'
      obtain ⟨its, rv, hco⟩ := hq.at I1
      obtain ⟨jts, rw', hco'⟩ := hr.at I1
      refine zip_begins2 (beginsP t a its.toArray) (beginsP u b jts.toArray) hco hco' fun h1 hz hTI hTO g1 g2 hsz hk => args_nil ?_
      have I2 : Inv X pins σ H1 { s1 with heap := h1 } := I1.kept (t' := s1.toks) hk
      obtain ⟨n, hn⟩ : ∃ n : Nat, n = s1.heap.objs.size := ⟨_, rfl⟩
      rw [← hn] at hz hTI hTO g1 g2 hsz ⊢
      have le5 : ∀ c ∈ [n + 4, n + 2, n + 3, n, n + 1], s1.heap.objs.size ≤ c := fun c hc => by
        simp only [List.mem_cons, List.not_mem_nil, or_false] at hc
        omega
      have FP : ∀ c ∈ [n + 4, n + 2, n + 3, n, n + 1], FpOk X pins H1 c := fun c hc => I1.fpOk (le5 c hc) (I1.hok.fresh (le5 c hc))
      have ha1 := fp_ne I1 (FP n (by simp)) hq
      have ha2 := fp_ne I1 (FP (n + 4) (by simp)) hq
      have ha3 := fp_ne I1 (FP (n + 2) (by simp)) hq
      have ha4 := fp_ne I1 (FP (n + 3) (by simp)) hq
      have ha5 := fp_ne I1 (FP (n + 1) (by simp)) hq
      have hb1 := fp_ne I1 (FP n (by simp)) hr
      have hb2 := fp_ne I1 (FP (n + 4) (by simp)) hr
      have hb3 := fp_ne I1 (FP (n + 2) (by simp)) hr
      have hb4 := fp_ne I1 (FP (n + 3) (by simp)) hr
      have hb5 := fp_ne I1 (FP (n + 1) (by simp)) hr
      have S : ZipSep2 (n + 4) (n + 2) (n + 3) n (n + 1) [n, a] [n + 1, b] := by
        refine ⟨by show @Ne Nat _ _; omega, by show @Ne Nat _ _; omega, by show @Ne Nat _ _; omega, by show @Ne Nat _ _; omega, by simp, ?_, ?_, by show @Ne Nat _ _; omega, by simp, ?_, ?_, ?_, ?_⟩ <;> simp only [List.mem_cons, List.not_mem_nil, or_false, not_or]
        · exact ⟨by show ¬ @Eq Nat _ _; omega, Ne.symm ha2⟩
        · exact ⟨by show ¬ @Eq Nat _ _; omega, Ne.symm ha4⟩
        · exact ⟨by show ¬ @Eq Nat _ _; omega, Ne.symm hb2⟩
        · exact ⟨by show ¬ @Eq Nat _ _; omega, Ne.symm hb4⟩
        · exact ⟨by show ¬ @Eq Nat _ _; omega, Ne.symm hb1⟩
        · exact ⟨by show ¬ @Eq Nat _ _; omega, Ne.symm ha5⟩
      have la : a < h1.objs.size := by
        obtain ⟨o, ho, _⟩ : ∃ o, s1.heap.get? a = some o ∧ True := by
          cases t with
          | true => obtain ⟨o, ho, _⟩ := hco; exact ⟨o, ho, trivial⟩
          | false => obtain ⟨o, ho, _⟩ := hco; exact ⟨o, ho, trivial⟩
        exact Heap.lt_size (hk a o ho)
      have lb : b < h1.objs.size := by
        obtain ⟨o, ho, _⟩ : ∃ o, s1.heap.get? b = some o ∧ True := by
          cases u with
          | true => obtain ⟨o, ho, _⟩ := hco'; exact ⟨o, ho, trivial⟩
          | false => obtain ⟨o, ho, _⟩ := hco'; exact ⟨o, ho, trivial⟩
        exact Heap.lt_size (hk b o ho)
      have c1 : CoP t h1 a its.toArray := by
        cases t with
        | true => exact Heap.IsTuple.at hco fun o e => hk a o e
        | false => exact Heap.IsList.at hco fun o e => hk a o e
      have c2 : CoP u h1 b jts.toArray := by
        cases u with
        | true => exact Heap.IsTuple.at hco' fun o e => hk b o e
        | false => exact Heap.IsList.at hco' fun o e => hk b o e
      have hzl : xs.length ≤ sizeLine := by
        cases t with
        | true => obtain ⟨_, _, _, z⟩ := I1.tuple hq; exact z
        | false => obtain ⟨_, _, _, z⟩ := I1.list hq; exact z
      have lx := rv.length
      have ly := rw'.length
      have D1 := drawsP (P := X.prog) (w := X.w) (A := X.A.in1.in1.in1) (I.ok.hd hc) t ha1 its.toArray
      have D2 := drawsP (P := X.prog) (w := X.w) (A := X.A.in1.in1.in1) (I.ok.hd hc) u hb5 jts.toArray
      refine call_list_zip (s := { s1 with heap := h1 }) S D1 D2 (by rw [List.size_toArray, List.size_toArray]; omega) hz ⟨_, _, hTO⟩ hTI ⟨itP_new g1, c1⟩ ⟨itP_new g2, c2⟩ (fun c hc => ?_) (fun c hc => ?_) fun h' tk acc c as hkk hS hl hG hacc => ?_
      -- (I.ok.hd hc) t ha1 its.toArray) (drawsP (I.ok.hd hc) u hb5 jts.toArray) (by rw [List.size_toArray, List.size_toArray]; omega) hz ⟨_, _, hTO⟩ hTI ⟨itP_new g1, c1⟩ ⟨itP_new g2, c2⟩ (fun c hc => ?_) (fun c hc => ?_) fun h' tk acc c as hkk hS hl hG hacc => ?_
      · simp only [List.mem_cons, List.not_mem_nil, or_false] at hc
        rcases hc with e | e
        · rw [e]; show @LT.lt Nat _ n h1.objs.size; omega
        · rw [e]; exact la
      · simp only [List.mem_cons, List.not_mem_nil, or_false] at hc
        rcases hc with e | e
        · rw [e]; show @LT.lt Nat _ (n + 1) h1.objs.size; omega
        · rw [e]; exact lb
      · obtain ⟨p0, hp0⟩ : ∃ p0 : Addr, p0 = h1.objs.size := ⟨_, rfl⟩
        change h'.get? h1.objs.size = _ at hS
        change ZipG _ _ h1.objs.size h' as at hG
        rw [← hp0] at hS hG
        have hlen : as.length = (xs.zip ys).length := by rw [hl, List.length_zip, List.size_toArray, List.size_toArray]; omega
        have nd : as.Nodup := List.Pairwise.imp (fun {a b} (h : a < b) => Nat.ne_of_lt h) hG.rise
        have hpn : p0 ∉ as := fun z => Nat.lt_irrefl _ (hG.above _ z)
        have new : ∀ t ∈ as, H1 t = none := fun t ht => I2.hok.fresh (by rw [← hp0]; exact Nat.le_of_lt (hG.above t ht))
        have newP : H1 p0 = none := I2.hok.fresh (Nat.le_of_eq hp0.symm)
        have off : ∀ b, b ∉ as → b ≠ p0 → upd (putPr H1 as (xs.zip ys)) p0 (.lst (as.map V.ref)) b = H1 b := fun b h1 h2 => by rw [upd_ne h2, putPr_off as _ _ h1]
        have J : Inv X pins σ (upd (putPr H1 as (xs.zip ys)) p0 (.lst (as.map V.ref))) { s1 with heap := h', toks := tk } := by
          refine turnedMany (s := { s1 with heap := h1 }) (ch := [n + 4, n + 2, n + 3, n, n + 1]) I2 (fun b o hb e => hkk b o (fun z => hb (by simp [z])) (fun z => hb (by simp [z])) (fun z => hb (by simp [z])) (fun z => hb (by simp [z])) e) FP (fun b u' e => ?_) (fun b o e n0 => ?_) fun b u' e n0 => ?_
          · rw [off b (fun z => by rw [new b z] at e; cases e) (fun z => by rw [z, newP] at e; cases e)]
            exact e
          · have hlt : b < h1.objs.size := Heap.lt_size e
            rw [off b (fun z => absurd (hG.above b z) (by rw [hp0]; exact Nat.lt_asymm hlt)) (fun z => by rw [z, hp0] at hlt; exact Nat.lt_irrefl _ hlt)]
            exact n0
          · by_cases hbp : b = p0
            · subst hbp
              rw [upd_same] at e
              cases e
              refine ⟨by rw [List.length_map, hlen, List.length_zip]; omega, acc.toList, c, by rw [hacc]; exact LiI.vals_refs as, ?_⟩
              rw [Array.toArray_toList]
              exact hS
            · by_cases hba : b ∈ as
              · obtain ⟨j, hj⟩ := List.mem_iff_getElem?.mp hba
                obtain ⟨x, y, px, py, ht⟩ := hG.pairs j b hj
                have hjl := (List.getElem?_eq_some_iff.mp hj).1
                obtain ⟨q', hq'⟩ : ∃ q', (xs.zip ys)[j]? = some q' := ⟨_, List.getElem?_eq_getElem (by omega)⟩
                rw [upd_ne hbp, putPr_at as (xs.zip ys) H1 hlen nd j b q' hj hq'] at e
                cases e
                obtain ⟨e1, e2⟩ := List.getElem?_zip_eq_some.mp hq'
                obtain ⟨v1, hv1, w1⟩ := rv.get e1
                obtain ⟨v2, hv2, w2⟩ := rw'.get e2
                have px' : its[j]? = some x := by simpa using px
                have py' : jts[j]? = some y := by simpa using py
                rw [hv1] at px'
                rw [hv2] at py'
                cases px'
                cases py'
                exact ⟨by show 2 ≤ sizeLine; decide, [_, _], .cons w1 (.cons w2 .nil), ⟨_, ht, rfl, _, rfl⟩⟩
              · rw [off b hba hbp, n0] at e
                cases e
        refine ⟨.ref p0, _, J, hp0 ▸ rfl, q p0 as newP new hpn nd hlen⟩
end
end Mir
end
noncomputable section
namespace Mir
open PySem PySem.Spec PyProof.Rows L2 RT
theorem zipDp {K : Kw} {F F' : Hp} (sm : Same F F') : ∀ {us us' : List V} {es gs : List D} {ts : List Addr}, DpAll K F us es → DpAll K F us' gs → ts.length = (us.zip us').length →
    (∀ (j : Nat) (t : Addr) (p : V × V), ts[j]? = some t → (us.zip us')[j]? = some p → F' t = some (.tup [p.1, p.2])) → DpAll K F' (ts.map V.ref) (zipD es gs)
  | [], us', es, gs, ts, h1, h2, hl, _ => by
    cases h1
    have : ts = [] := List.length_eq_zero_iff.mp hl
    rw [this, zipD_nil]
    exact .nil
  | u :: us, [], es, gs, ts, h1, h2, hl, _ => by
    cases h2
    have : ts = [] := List.length_eq_zero_iff.mp hl
    rw [this, zipD_nil2]
    exact .nil
  | u :: us, u' :: us', es, gs, ts, h1, h2, hl, hp => by
    cases h1 with
    | cons a1 a2 =>
      cases h2 with
      | cons b1 b2 =>
        cases ts with
        | nil => cases hl
        | cons t ts =>
          have ht := hp 0 t (u, u') rfl rfl
          rw [zipD_cons, List.map_cons]
          exact .cons (.tup (SqT.of ht) (.cons (dpUp a1 sm) (.cons (dpUp b1 sm) .nil))) (zipDp sm a2 b2 (Nat.succ.inj hl) fun j t' p e1 e2 => hp (j + 1) t' p (by simpa using e1) (by simpa using e2))
def ownL1 (zs : List D) : Ow := .l (zs.map Ow.d)
def eListZip (fa : Ev → R (List D)) : Ev → R Ow := eM (eB fa zpArg) ownL1
@[simp] theorem eListZip_eq (fa : Ev → R (List D)) (env : Ev) : eListZip fa env = ((fa env).bind zpArg).map ownL1 := rfl
section
variable {X : Cx} {W : WX}
theorem de_listZip {e e2 : Expr} {p p2 pos pos2 : Pos} {fa : Ev → R (List D)} (hc : X.calm = true) (hg : Gl X "list") (hm : X.mg "list" = none) (hg2 : Gl X "zip") (hm2 : X.mg "zip" = none) (ha : DA X W [e, e2] fa)
    (hs2 : starEach [e, e2] X.env = (false, eval e X.env) :: starEach [e2] X.env := by rfl) (hpl : (backTo pos2 (starEach [e2] X.env)).any (·.1) = false := by rfl)
    (hs : starEach [.Call (.Name "zip" p2) [e, e2] [] pos2] X.env = (false, eval (.Call (.Name "zip" p2) [e, e2] [] pos2) X.env) :: starEach [] X.env := by rfl) :
    DE X W (.Call (.Name "list" p) [.Call (.Name "zip" p2) [e, e2] [] pos2] [] pos) (eListZip fa) := by
  obtain ⟨t, pa, s⟩ := ha
  refine ⟨_, pe_listZip hc hg hm hg2 hm2 pa hs2 hpl hs, fun F H σ env fp Q sat hp => ?_⟩
  have hp : Post X W (POw X.KK) F H σ ((fa env).bind fun ds => (zpArg ds).map ownL1) Q := by
    have e : eListZip fa env = (fa env).bind fun ds => (zpArg ds).map ownL1 := by
      rw [eListZip_eq]
      cases fa env <;> rfl
    rw [← e]
    exact hp
  refine s.go sat hp fun ds vs F1 H1 sat1 q _ h1 => ?_
  unfold zpArg at h1
  split at h1
  · split at h1
    · rename_i t es u gs e2 e3
      obtain ⟨v, w, rfl, w1, w2⟩ := daf2 q
      obtain ⟨a, us, rfl, q1, q2⟩ := sqq_dp w1 e2
      obtain ⟨b, us', rfl, q3, q4⟩ := sqq_dp w2 e3
      refine ⟨t, u, a, b, us, us', rfl, q1.mono sat1.fh, q3.mono sat1.fh, fun p ts np nt hpn nd hl => ?_⟩
      have x1 := putPr_ext ts (us.zip us') F1 H1 sat1.fh nt nd
      have np1 : putPr H1 ts (us.zip us') p = none := by rw [putPr_off ts _ _ hpn]; exact np
      have x2 := x1.trans (Ext.own x1.fh np1 (.lst (ts.map V.ref)))
      have fp0 : putPr F1 ts (us.zip us') p = none := by rw [putPr_off ts _ _ hpn]; exact free_of sat1.fh np
      refine h1 _ _ _ x2 ⟨[p], ?_, by simp, fun b hb => by rw [List.mem_singleton.mp hb]; exact np⟩
      exact .l fp0 upd_same (OwnAll.of_dp (zipDp x1.ff q2 q4 hl fun j t' p' e1 e2 => putPr_at ts (us.zip us') F1 hl nd j t' p' e1 e2))
    · exact h1.elim
  · exact h1.elim
end
end Mir
end
noncomputable section
namespace Mir
open PySem PySem.Spec PyProof.Rows L2
def gtLst (n : Nat) (h : List D → Ev → Option Ev) : D → Ev → Option Ev
  | .list ds, env => if ds.length = n then h ds env else none
  | _, _ => none
@[simp] theorem gtLst_eq (n : Nat) (h : List D → Ev → Option Ev) (ds : List D) (env : Ev) : gtLst n h (.list ds) env = if ds.length = n then h ds env else none := rfl
theorem dg_lst {X : Cx} {es : List Expr} {pos : Pos} {k n : Nat} {ix : List Nat} {h : List D → Ev → Option Ev} (hc : X.calm = true) (hs : DGs X es ix h) (hn : (assignEach es X.env).length = n := by rfl) (hst : (assignEach es X.env).findIdx? (·.1) = none := by rfl) : DG X (.Tuple es k pos) ix (gtLst n h) := by
  refine PG.imp (pg_unl hc hs hn hst) ?_
  rintro v σ H Q ⟨F, env, fp, d, env', sat, hd, he, q⟩
  unfold gtLst at he
  split at he
  · split at he
    · rename_i ds c
      obtain ⟨a, vs, rfl, h1, h2⟩ := dp_lst hd
      exact ⟨a, vs, rfl, sat.fh.seq h1, (DpAll.len h2).trans c, F, env, fp, ds, env', sat, h2, he, q⟩
    · cases he
  · cases he
end Mir
end
set_option Elab.async false
set_option linter.all false
set_option maxRecDepth 100000
set_option maxHeartbeats 4000000
namespace Mir
open PySem PySem.Spec L2

inductive Tr where
  | mk (nm : Str) (mk : Int) (bs : List Tr)
mutual
def encT : Tr → D
  | .mk nm k bs => .tuple [.str nm, .int k, .tuple (encTs bs)]
def encTs : List Tr → List D
  | [] => []
  | b :: bs => encT b :: encTs bs
end
mutual
def sizeT : Tr → Nat
  | .mk _ _ bs => 1 + sizeTs bs
def sizeTs : List Tr → Nat
  | [] => 0
  | b :: bs => sizeT b + sizeTs bs
end
mutual
def levT : Tr → Nat
  | .mk _ _ bs => levTs bs + 1
def levTs : List Tr → Nat
  | [] => 0
  | b :: bs => max (levT b) (levTs bs)
end
theorem encTs_map : ∀ bs : List Tr, encTs bs = bs.map encT
  | [] => by rw [encTs]; rfl
  | b :: bs => by rw [encTs, encTs_map bs]; rfl
theorem encT_mk (nm : Str) (k : Int) (bs : List Tr) : encT (.mk nm k bs) = .tuple [.str nm, .int k, .tuple (bs.map encT)] := by rw [encT, encTs_map]
theorem sizeTs_sum : ∀ bs : List Tr, sizeTs bs = (bs.map sizeT).sum
  | [] => by rw [sizeTs]; rfl
  | b :: bs => by rw [sizeTs, sizeTs_sum bs]; rfl
theorem levTs_le {n : Nat} : ∀ {bs : List Tr}, levTs bs ≤ n → ∀ b ∈ bs, levT b ≤ n
  | [], _, b, h => by simp at h
  | c :: bs, h, b, hb => by
    rw [levTs] at h
    rcases List.mem_cons.mp hb with e | e
    · subst e; omega
    · exact levTs_le (by omega) b e

structure TRow where
  nm : Str
  mar : Int
  up : Nat
theorem rangeD_at {lo : Int} {n i : Nat} {d : D} (h : (rangeD lo n)[i]? = some d) : i < n ∧ d = .int (lo + (i : Nat)) := by
  have hl : i < n := by have := (List.getElem?_eq_some_iff.mp h).1; simpa [rangeD] using this
  refine ⟨hl, ?_⟩
  unfold rangeD at h
  rw [List.getElem?_map, List.getElem?_range hl] at h
  exact (Option.some.inj h).symm
end Mir
set_option Elab.async false
set_option linter.all false
set_option maxRecDepth 100000
set_option maxHeartbeats 4000000
namespace Mir
open PySem PySem.Spec L2

def kf (rs : List TRow) : Nat → Nat → List Nat
  | 0, _ => []
  | s + 1, j => if (rs[rs.length - 1 - s]?).map TRow.up = some j then (rs.length - 1 - s) :: kf rs s j else kf rs s j
def kids (rs : List TRow) (j : Nat) : List Nat := kf rs (rs.length - 1) j
abbrev zs (p : List Nat) : List Int := p.map fun k : Nat => (k : Int)

end Mir
set_option Elab.async false
set_option linter.all false
set_option maxRecDepth 100000
set_option maxHeartbeats 4000000
namespace Mir
open PySem PySem.Spec L2

theorem map_at {α β : Type} {f : α → β} {xs : List α} {i : Nat} {y : β} (h : (xs.map f)[i]? = some y) : ∃ x, xs[i]? = some x ∧ y = f x := by
  rw [List.getElem?_map] at h
  cases e : xs[i]? with
  | none => rw [e] at h; simp at h
  | some x => rw [e] at h; simp at h; exact ⟨x, rfl, h.symm⟩
theorem unDs_of {α : Type} (f : α → D) (xs : List α) : shD (.l (xs.map fun x => Ow.d (f x))) = .ok (.list (xs.map f)) := by
  have : (xs.map fun x => Ow.d (f x)) = (xs.map f).map Ow.d := by rw [List.map_map]; rfl
  rw [this, shD_l]
theorem viewAll_of {α : Type} (f : α → D) (xs : List α) : viewAll (xs.map fun x => Ow.d (f x)) = xs.map f := by
  rw [viewAll_map, List.map_map]
  rfl
theorem viewD_of {α : Type} (f : α → D) (xs : List α) : viewD (.l (xs.map fun x => Ow.d (f x))) = .list (xs.map f) := by
  rw [viewD_l, viewAll_of]
theorem str_len (z : Str) : z.length = z.cps.toList.length := by first | rfl | simp [Str.length]
theorem gMul_small {i j : Int} (h1 : i.natAbs < 2 ^ 250) (h2 : j.natAbs < 2 ^ 250) : gMul (.int i) (.int j) = some (.int (i * j)) := by
  refine gMul_int ?_
  have : ∀ n : Nat, n < 2 ^ 250 → n.log2 < 250 := fun n h => by
    by_cases e : n = 0
    · subst e; decide
    · exact (Nat.log2_lt e).mpr h
  unfold CMulW
  have a := this _ h1
  have b := this _ h2
  omega
theorem gDiv_small {i j : Int} (h1 : 0 < j) (h2 : j.natAbs < 2 ^ 250) : gDiv (.int i) (.int j) = some (.int (i / j)) := by
  refine gDiv_int ⟨h1, ?_⟩
  have := (Nat.log2_lt (n := j.natAbs) (k := 250) (by omega)).mpr h2
  omega
theorem gPow10 (k : Nat) (h : k ≤ 1000) : gPow (.int 10) (.int k) = some (.int (10 ^ k)) := by
  rw [gPow_int ⟨by omega, by omega, by decide⟩]
  simp
theorem cutL_take {α : Type} (xs : List α) (k : Nat) : cutL xs none (some (k : Int)) = xs.take k := by
  unfold cutL
  rw [HT.sIx_none, HT.sIx_nat, List.drop_zero, Nat.sub_zero]
  by_cases h : k ≤ xs.length
  · rw [Nat.min_eq_left h]
  · rw [Nat.min_eq_right (by omega), List.take_of_length_le (Nat.le_refl _), List.take_of_length_le (by omega)]
theorem canAll_of : ∀ ds : List D, (∀ d ∈ ds, d.canLay0 = true) → PyData.canLayAll0 ds = true
  | [], _ => by simp [PyData.canLayAll0]
  | d :: ds, h => by
    rw [PyData.canLayAll0, h d List.mem_cons_self, canAll_of ds fun d hd => h d (List.mem_cons_of_mem _ hd)]
    rfl
theorem depthAll_of {n : Nat} : ∀ ds : List D, (∀ d ∈ ds, d.depth ≤ n) → PyData.depthAll ds ≤ n
  | [], _ => by simp [PyData.depthAll]
  | d :: ds, h => by
    rw [PyData.depthAll]
    have := h d List.mem_cons_self
    have := depthAll_of ds fun d hd => h d (List.mem_cons_of_mem _ hd)
    omega
/-- data that == can be asked of -/
def Nice (d : D) : Prop := d.canLay0 = true ∧ d.depth ≤ 130
theorem gNe_nice {d e : D} (h : Nice d) (g : Nice e) : gNe d e = some (.bool (!PyData.eqv d e)) := by
  have z : eqOk d e = true := by unfold eqOk; simp [h.1, h.2, g.1]
  unfold gNe; rw [if_pos (by rw [z, Bool.or_true])]
theorem eqv_self {d : D} (h : Nice d) : PyData.eqv d d = true := SeqAt.eqv_refl d h.1
theorem gNe_self {d : D} (h : Nice d) : gNe d d = some (.bool false) := by rw [gNe_nice h h, eqv_self h]; rfl
mutual
def okT : Tr → Prop
  | .mk nm _ bs => PyData.strOk nm = true ∧ bs.length ≤ 1000 ∧ okTs bs
def okTs : List Tr → Prop
  | [] => True
  | b :: bs => okT b ∧ okTs bs
end
theorem okTs_iff : ∀ bs : List Tr, okTs bs ↔ ∀ b ∈ bs, okT b
  | [] => by simp [okTs]
  | b :: bs => by rw [okTs, okTs_iff bs]; simp
mutual
theorem can_encT : ∀ t : Tr, okT t → (encT t).canLay0 = true
  | .mk nm k bs, h => by
    rw [okT] at h
    rw [encT, PyData.canLay0]
    simp [PyData.canLayAll0, PyData.canLay0, h.1, can_encTs bs h.2.2]
theorem can_encTs : ∀ bs : List Tr, okTs bs → PyData.canLayAll0 (encTs bs) = true
  | [], _ => by simp [encTs, PyData.canLayAll0]
  | b :: bs, h => by
    rw [okTs] at h
    rw [encTs, PyData.canLayAll0, can_encT b h.1, can_encTs bs h.2]
    rfl
end
mutual
theorem depth_encT : ∀ t : Tr, (encT t).depth ≤ 2 * levT t
  | .mk nm k bs => by
    rw [encT, levT]
    have := depth_encTs bs
    simp only [PyData.depth, PyData.depthAll]
    omega
theorem depth_encTs : ∀ bs : List Tr, PyData.depthAll (encTs bs) ≤ 2 * levTs bs
  | [] => by simp [encTs, PyData.depthAll]
  | b :: bs => by
    rw [encTs, PyData.depthAll, levTs]
    have := depth_encT b
    have := depth_encTs bs
    omega
end
abbrev abc : Str := "abcdefghijklmnopqrstuvwxyz"
end Mir
set_option Elab.async false
set_option linter.all false
set_option maxRecDepth 100000
set_option maxHeartbeats 4000000
namespace Mir
open PySem PySem.Spec L2

def tx (l : List Nat) : Str := ⟨l.toArray⟩
@[simp] theorem tx_cps (l : List Nat) : (tx l).cps.toList = l := by simp [tx]
@[simp] theorem tx_len (l : List Nat) : (tx l).length = l.length := by rw [str_len, tx_cps]
theorem tx_of (z : Str) : z = tx z.cps.toList := by
  cases z with
  | mk a => simp [tx]
theorem tx_inj {a b : List Nat} (h : tx a = tx b) : a = b := by
  have := congrArg (fun z : Str => z.cps.toList) h
  simpa using this
theorem gIx_tx {l : List Nat} {i c : Nat} (h : l[i]? = some c) (hl : l.length ≤ 16777216) : gIx (.str (tx l)) (.int (i : Nat)) = some (.str (tx [c])) := by
  show (if (tx l).length ≤ sizeLine then (atI (tx l).cps.toList (i : Int)).map fun c => PyData.str ⟨#[c]⟩ else none) = _
  rw [tx_len, tx_cps, if_pos (by rw [sizeLine_eq]; exact hl), atI_natD h]
  rfl
def isL (c : Nat) : Bool := decide (97 ≤ c) && decide (c ≤ 122)
theorem abc_is : abc.cps.toList = (List.range 26).map (fun k => 97 + k) := by decide +kernel
theorem empty_is : (Str.ofString "") = tx [] := by rw [tx_of (Str.ofString "")]; congr 1

end Mir
set_option Elab.async false
set_option linter.all false
set_option maxRecDepth 100000
set_option maxHeartbeats 4000000
namespace Mir
open PySem PySem.Spec L2
theorem abc_ix {k : Nat} (hk : k < 26) : gIx (.str abc) (.int (k : Int)) = some (.str (tx [97 + k])) := by
  rw [tx_of abc, abc_is]
  refine gIx_tx ?_ (by simp)
  rw [List.getElem?_map, List.getElem?_range hk]
  rfl
theorem strOk_tx {l : List Nat} (h : ∀ c ∈ l, c < 1000) : PyData.strOk (tx l) = true := by
  unfold PyData.strOk
  simp only [tx, List.all_toArray, List.all_eq_true, decide_eq_true_eq]
  intro c hc
  have := h c hc
  omega
end Mir
set_option Elab.async false
set_option linter.all false
set_option maxRecDepth 100000
set_option maxHeartbeats 4000000
namespace Mir
open PySem PySem.Spec L2

inductive Trm where
  | call (m b : Int)
  | put (nm : Str) (kp : Bool) (ad : Int) (ps : List Trm)
mutual
def encM : Trm → D
  | .call m b => .tuple [.str "call", .int m, .int b]
  | .put nm kp ad ps => .tuple [.str "put", .str nm, .bool kp, .int ad, .tuple (encMs ps)]
def encMs : List Trm → List D
  | [] => []
  | p :: ps => encM p :: encMs ps
end
mutual
def sizeM : Trm → Nat
  | .call _ _ => 1
  | .put _ _ _ ps => 1 + sizeMs ps
def sizeMs : List Trm → Nat
  | [] => 0
  | p :: ps => sizeM p + sizeMs ps
end
mutual
def levM : Trm → Nat
  | .call _ _ => 1
  | .put _ _ _ ps => levMs ps + 1
def levMs : List Trm → Nat
  | [] => 0
  | p :: ps => max (levM p) (levMs ps)
end
mutual
def callsM : Trm → List (Int × Int)
  | .call m b => [(m, b)]
  | .put _ _ _ ps => callsMs ps
def callsMs : List Trm → List (Int × Int)
  | [] => []
  | p :: ps => callsM p ++ callsMs ps
end
mutual
def okM : Trm → Prop
  | .call _ _ => True
  | .put nm _ _ ps => PyData.strOk nm = true ∧ ps.length ≤ 1000 ∧ okMs ps
def okMs : List Trm → Prop
  | [] => True
  | p :: ps => okM p ∧ okMs ps
end
theorem encMs_map : ∀ ps : List Trm, encMs ps = ps.map encM
  | [] => by rw [encMs]; rfl
  | p :: ps => by rw [encMs, encMs_map ps]; rfl
theorem callsMs_flat : ∀ ps : List Trm, callsMs ps = (ps.map callsM).flatten
  | [] => by rw [callsMs]; rfl
  | p :: ps => by rw [callsMs, callsMs_flat ps]; rfl
theorem okMs_iff : ∀ ps : List Trm, okMs ps ↔ ∀ p ∈ ps, okM p
  | [] => by simp [okMs]
  | p :: ps => by rw [okMs, okMs_iff ps]; simp
theorem encM_call (m b : Int) : encM (.call m b) = .tuple [.str "call", .int m, .int b] := by rw [encM]
theorem encM_put (nm : Str) (kp : Bool) (ad : Int) (ps : List Trm) : encM (.put nm kp ad ps) = .tuple [.str "put", .str nm, .bool kp, .int ad, .tuple (ps.map encM)] := by rw [encM, encMs_map]
theorem levMs_le {n : Nat} : ∀ {ps : List Trm}, levMs ps ≤ n → ∀ p ∈ ps, levM p ≤ n
  | [], _, b, h => by simp at h
  | c :: ps, h, b, hb => by
    rw [levMs] at h
    rcases List.mem_cons.mp hb with e | e
    · subst e; omega
    · exact levMs_le (by omega) b e
theorem str_eqv (a b : Str) : PyData.eqv (.str a) (.str b) = (a == b) := rfl
theorem gEq_strs (a b : String) : gEq (.str (Str.ofString a)) (.str (Str.ofString b)) = some (.bool (PyData.eqv (.str (Str.ofString a)) (.str (Str.ofString b)))) := rfl
@[simp] theorem gEq_cc : gEq (.str (Str.ofString "call")) (.str (Str.ofString "call")) = some (.bool true) := by
  have h : (Str.ofString "call" == Str.ofString "call") = true := by decide +kernel
  rw [gEq_strs, str_eqv, h]
@[simp] theorem gEq_pc : gEq (.str (Str.ofString "put")) (.str (Str.ofString "call")) = some (.bool false) := by
  have h : (Str.ofString "put" == Str.ofString "call") = false := by decide +kernel
  rw [gEq_strs, str_eqv, h]
@[simp] theorem gEq_cp : gEq (.str (Str.ofString "call")) (.str (Str.ofString "put")) = some (.bool false) := by
  have h : (Str.ofString "call" == Str.ofString "put") = false := by decide +kernel
  rw [gEq_strs, str_eqv, h]
@[simp] theorem gEq_pp : gEq (.str (Str.ofString "put")) (.str (Str.ofString "put")) = some (.bool true) := by
  have h : (Str.ofString "put" == Str.ofString "put") = true := by decide +kernel
  rw [gEq_strs, str_eqv, h]
theorem lcR_map {α : Type} {g : D → Ev → Option Ev} {c : Ev → R Bool} {e : Ev → R Ow} {env : Ev} (enc : α → D) (out : α → Ow) : ∀ xs : List α, (∀ a ∈ xs, ∃ env1, g (enc a) env = some env1 ∧ c env1 = .ok true ∧ e env1 = .ok (out a)) → lcR g c e env (xs.map enc) = .ok (xs.map out)
  | [], _ => rfl
  | a :: xs, q => by
    obtain ⟨env1, q1, q2, q3⟩ := q a List.mem_cons_self
    rw [List.map_cons]
    unfold lcR
    rw [q1]
    simp only [q2, q3, noEx_ok, R.bind_ok, if_true]
    rw [lcR_map enc out xs fun d hd => q d (List.mem_cons_of_mem _ hd)]
    rfl
theorem forL_map {α : Type} {g : D → Ev → Option Ev} {f : Ev → SR} (enc : α → D) (xs : List α) (I : Nat → Ev → Prop) (step : ∀ i a env, xs[i]? = some a → I i env → ∃ env1, g (enc a) env = some env1 ∧ ∃ env2, (f env1 = .nx env2 ∨ f env1 = .ct env2) ∧ I (i + 1) env2) (env : Ev) (h : I 0 env) : ∃ env', forL g f (xs.map enc) env = .nx env' ∧ I xs.length env' := by
  have := forL_ind (g := g) (f := f) (xs.map enc) I (fun i d env hd hi => by
    obtain ⟨a, ha, rfl⟩ := map_at hd
    exact step i a env ha hi) env h
  rwa [List.length_map] at this
noncomputable section
abbrev bCalls (f : List D → R Ow) : Ev → SR :=
    (sSeq (sIf (eB (eBin gEq (eBin gIx (eVar 0) (eC (.int 0))) (eC (.str "call"))) asB)
    (sRet (eLst (aCons (eTup (aCons (eBin gIx (eVar 0) (eC (.int 1))) (aCons (eBin gIx (eVar 0) (eC (.int 2))) aNil))) aNil)))
    sSkip)
    (sSeq (sSet 1 (eLst aNil))
    (sSeq (sFor (eB (eBin gIx (eVar 0) (eC (.int 4))) itD) (gtName 2)
    (sExt 1 (eB (eB (aCons (eVar 2) aNil) f) shD)))
    (sRetV 1))))
theorem calls_call (f : List D → R Ow) (m b : Int) : finR (bCalls f (envOf 2 [encM (.call m b)])) = .ok (.l [.d (.tuple [.int m, .int b])]) := by
  rw [encM_call]
  simp [sizeLine_eq]
def encC (c : Int × Int) : D := .tuple [.int c.1, .int c.2]
abbrev encCs (cs : List (Int × Int)) : Ow := .l (cs.map fun c => .d (encC c))
theorem callsMs_take {ps : List Trm} {i : Nat} {p : Trm} (h : ps[i]? = some p) : callsMs (ps.take (i + 1)) = callsMs (ps.take i) ++ callsM p := by
  rw [callsMs_flat, callsMs_flat, List.take_add_one, h]
  simp
theorem callsMs_len {ps : List Trm} (i : Nat) : (callsMs (ps.take i)).length ≤ (callsMs ps).length := by
  rw [callsMs_flat, callsMs_flat]
  conv => rhs; rw [← List.take_append_drop i ps, List.map_append, List.flatten_append, List.length_append]
  exact Nat.le_add_right _ _
theorem calls_put (f : List D → R Ow) {nm : Str} {kp : Bool} {ad : Int} {ps : List Trm} (hl : (callsMs ps).length ≤ 1000) (h : ∀ p ∈ ps, f [encM p] = .ok (encCs (callsM p))) : finR (bCalls f (envOf 2 [encM (.put nm kp ad ps)])) = .ok (encCs (callsM (.put nm kp ad ps))) := by
  have key := forL_map (g := gtName 2) (f := sExt 1 (eB (eB (aCons (eVar 2) aNil) f) shD)) encM ps
    (fun i env => ∃ x, env = [some (.d (encM (.put nm kp ad ps))), some (encCs (callsMs (ps.take i))), x]) (fun i p env hp ⟨x, he⟩ => by
      subst he
      refine ⟨_, rfl, [some (.d (encM (.put nm kp ad ps))), some (encCs (callsMs (ps.take (i + 1)))), some (.d (encM p))], .inl ?_, _, rfl⟩
      have hm := h p (List.mem_of_getElem? hp)
      have l1 := callsMs_len (ps := ps) (i + 1)
      rw [callsMs_take hp] at l1 ⊢
      have sh := unDs_of encC (callsM p)
      rw [List.length_append] at l1
      have l2 : (callsMs (ps.take i)).length + (callsM p).length ≤ 16777216 := by omega
      simp [hm, sh, l2, sizeLine_eq, asL]) [some (.d (encM (.put nm kp ad ps))), some (.l []), none] ⟨none, by simp [callsMs]⟩
  obtain ⟨env', e1, x, e2⟩ := key
  subst e2
  rw [List.take_length] at e1
  have e0 : gIx (encM (.put nm kp ad ps)) (.int 0) = some (.str "put") := by rw [encM_put]; simp
  have e4 : gIx (encM (.put nm kp ad ps)) (.int 4) = some (.tuple (ps.map encM)) := by rw [encM_put]; simp
  rw [callsM]
  simp [e0, e4, sizeLine_eq, e1, sRetV]
end
end Mir
set_option Elab.async false
set_option linter.all false
set_option maxRecDepth 100000
set_option maxHeartbeats 4000000
namespace Mir
open PySem PySem.Spec L2

abbrev dkD (dk : List Int) : D := .list (dk.map PyData.int)
/-- what a deck's def tells: r, and the deck behind it -/
abbrev tells (r : D) (dk : List Int) : R Ow := .ok (.d (.tuple [r, dkD dk]))
noncomputable section
/-- a def that draws a number below most -/
def Draws (fd : List D → R Ow) : Prop := ∀ (dk : List Int) (most : Int), 0 < most → ∃ r dk', 0 ≤ r ∧ r < most ∧ fd (dkD dk :: [.int most]) = tells (.int r) dk'
end
end Mir
set_option Elab.async false
set_option linter.all false
set_option maxRecDepth 100000
set_option maxHeartbeats 4000000
namespace Mir
open PySem PySem.Spec L2

def mar : Tr → Int
  | .mk _ k _ => k

end Mir
set_option Elab.async false
set_option linter.all false
set_option maxRecDepth 100000
set_option maxHeartbeats 4000000
namespace Mir
open PySem PySem.Spec L2
noncomputable section
def Names (fn : List D → R Ow) (code : Int) (most : Int) : Prop := ∀ k : Int, 0 ≤ k → k < most → ∃ w : List Nat, fn [.int code, .int k] = .ok (.d (.str (tx w))) ∧ ∀ c ∈ w, isL c = true
end
end Mir
set_option Elab.async false
set_option linter.all false
set_option maxRecDepth 100000
set_option maxHeartbeats 4000000
namespace Mir
open PySem PySem.Spec L2

inductive Stp where
  | op
  | put (nm : Str) (k : Int) (ps : List Stp)
mutual
def encS : Stp → D
  | .op => .tuple [.str "open"]
  | .put nm k ps => .tuple [.str "put", .str nm, .int k, .tuple (encSs ps)]
def encSs : List Stp → List D
  | [] => []
  | p :: ps => encS p :: encSs ps
end
def zipAll {α β : Type} (q : α → β → Bool) : List α → List β → Bool
  | a :: as, b :: bs => q a b && zipAll q as bs
  | _, _ => true

@[simp] theorem gNe_str (a b : Str) : gNe (.str a) (.str b) = some (.bool (!(a == b))) := rfl
@[simp] theorem gEq_oo : gEq (.str (Str.ofString "open")) (.str (Str.ofString "open")) = some (.bool true) := by
  have h : (Str.ofString "open" == Str.ofString "open") = true := by decide +kernel
  rw [gEq_strs, str_eqv, h]
@[simp] theorem gEq_po : gEq (.str (Str.ofString "put")) (.str (Str.ofString "open")) = some (.bool false) := by
  have h : (Str.ofString "put" == Str.ofString "open") = false := by decide +kernel
  rw [gEq_strs, str_eqv, h]
@[simp] theorem gIsi_str_str (z : Str) : gIsi "str" (.str z) = .ok (.bool true) := rfl
@[simp] theorem gIsi_bool_bool (b : Bool) : gIsi "bool" (.bool b) = .ok (.bool true) := rfl
section
variable (nm : Str) (k : Int) (ps : List Stp) (bs : List Tr)
theorem t_ix0 : gIx (encT (.mk nm k bs)) (.int 0) = some (.str nm) := by rw [encT_mk]; simp
theorem t_ix1 : gIx (encT (.mk nm k bs)) (.int 1) = some (.int k) := by rw [encT_mk]; simp
theorem t_ix2 : gIx (encT (.mk nm k bs)) (.int 2) = some (.tuple (bs.map encT)) := by rw [encT_mk]; simp
end
noncomputable section
abbrev zipB (f : List D → R Ow) : Ev → SR := (sIf (tNotE (eB (eM (eB (aCons (eVar 2) (aCons (eVar 3) aNil)) f) viewD) asB))
    (sRet (eM (eC (.bool false)) Ow.d))
    sSkip)
theorem zip_loop {α β : Type} {f : List D → R Ow} (e1 : α → D) (e2 : β → D) (q : α → β → Bool) : ∀ (as : List α) (bs : List β), (∀ a ∈ as, ∀ b ∈ bs, f [e1 a, e2 b] = .ok (.d (.bool (q a b)))) → ∀ x0 x1 x2 x3 : Option Ow, ∃ env', forL (gtTup 2 (gtCons (gtName 2) (gtCons (gtName 3) gtNil))) (zipB f) (zipD (as.map e1) (bs.map e2)) [x0, x1, x2, x3] = if zipAll q as bs = true then .nx env' else .rt (.d (.bool false)) env'
  | [], bs, _, x0, x1, x2, x3 => ⟨[x0, x1, x2, x3], by rw [List.map_nil, zipAll]; simp [forL]; intros; contradiction⟩
  | a :: as, [], _, x0, x1, x2, x3 => ⟨[x0, x1, x2, x3], by rw [List.map_nil, zipAll]; simp [forL]; intros; contradiction⟩
  | a :: as, b :: bs, h, x0, x1, x2, x3 => by
    have hq := h a List.mem_cons_self b List.mem_cons_self
    rw [List.map_cons, List.map_cons, zipD_cons, zipAll]
    have g : gtTup 2 (gtCons (gtName 2) (gtCons (gtName 3) gtNil)) (.tuple [e1 a, e2 b]) [x0, x1, x2, x3] = some [x0, x1, some (.d (e1 a)), some (.d (e2 b))] := by simp
    cases c : q a b with
    | false =>
      rw [c] at hq
      refine ⟨[x0, x1, some (.d (e1 a)), some (.d (e2 b))], ?_⟩
      rw [forL, g]
      have e : zipB f [x0, x1, some (.d (e1 a)), some (.d (e2 b))] = .rt (.d (.bool false)) [x0, x1, some (.d (e1 a)), some (.d (e2 b))] := by simp [hq]
      simp only [e]
      rfl
    | true =>
      rw [c] at hq
      obtain ⟨env', ih⟩ := zip_loop (f := f) e1 e2 q as bs (fun x hx y hy => h x (List.mem_cons_of_mem _ hx) y (List.mem_cons_of_mem _ hy)) x0 x1 (some (.d (e1 a))) (some (.d (e2 b)))
      refine ⟨env', ?_⟩
      rw [forL, g]
      have e : zipB f [x0, x1, some (.d (e1 a)), some (.d (e2 b))] = .nx [x0, x1, some (.d (e1 a)), some (.d (e2 b))] := by simp [hq]
      simp only [e]
      rw [ih]
      rfl
end
end Mir
set_option Elab.async false
set_option linter.all false
set_option maxRecDepth 100000
set_option maxHeartbeats 4000000
namespace Mir
open PySem PySem.Spec L2
noncomputable section
end
end Mir
set_option Elab.async false
set_option linter.all false
set_option maxRecDepth 100000
set_option maxHeartbeats 4000000
namespace Mir
open PySem PySem.Spec L2
mutual
def met : Stp → Stp → Stp
  | .op, _ => .op
  | .put nm k ps, o => match o with
    | .op => .op
    | .put nm' k' qs => bif (nm == nm') && ((k == k') && (ps.length == qs.length)) then .put nm k (mets ps qs) else .op
def mets : List Stp → List Stp → List Stp
  | [], _ => []
  | p :: ps, qs => match qs with
    | [] => []
    | q :: qs => met p q :: mets ps qs
end
theorem zipD_zip {α β : Type} (e1 : α → D) (e2 : β → D) : ∀ (as : List α) (bs : List β), zipD (as.map e1) (bs.map e2) = (as.zip bs).map fun p => .tuple [e1 p.1, e2 p.2]
  | [], bs => by simp
  | a :: as, [] => by simp
  | a :: as, b :: bs => by rw [List.map_cons, List.map_cons, zipD_cons, zipD_zip e1 e2 as bs]; rfl
noncomputable section
end
end Mir
set_option Elab.async false
set_option linter.all false
set_option maxRecDepth 100000
set_option maxHeartbeats 4000000
namespace Mir
open PySem PySem.Spec L2
mutual
def stIn (ss : List Stp) : Trm → Stp
  | .call m _ => ss.getD m.toNat .op
  | .put nm kp ad ps => bif kp then .op else .put nm ad (stIns ss ps)
def stIns (ss : List Stp) : List Trm → List Stp
  | [] => []
  | p :: ps => stIn ss p :: stIns ss ps
end
def metOf : List Stp → Stp
  | [] => .op
  | s :: ss => ss.foldl met s
/-- a mode: its rules, and which of them are those of rows without branches -/
structure Md where
  kd : Str
  rls : List (Bool × Trm)
def bares (m : Md) : List Trm := (m.rls.filter (·.1)).map (·.2)
def rulesM (m : Md) : List Trm := m.rls.map (·.2)
def MdOk (m : Md) : Prop := bares m ≠ [] ∧ ∀ t ∈ bares m, callsM t = []
def tab0 (ms : List Md) : List Stp := ms.map fun m => metOf ((bares m).map (stIn []))
def tabN (ms : List Md) (ss : List Stp) : List Stp := ms.map fun m => metOf ((rulesM m).map (stIn ss))
def tab (ms : List Md) : Nat → List Stp
  | 0 => tab0 ms
  | n + 1 => tabN ms (tab ms n)
end Mir
set_option Elab.async false
set_option linter.all false
set_option maxRecDepth 100000
set_option maxHeartbeats 4000000
namespace Mir
open PySem PySem.Spec L2
structure Rw where
  nm : Str
  br : List Str
abbrev Wood := List (Str × List Rw)
def encRw (r : Rw) : D := .tuple [.str r.nm, .tuple (r.br.map PyData.str)]
def encKd (p : Str × List Rw) : D := .tuple [.str p.1, .list (p.2.map encRw)]
def encWd (w : Wood) : D := .list (w.map encKd)
structure Trn where
  wood : Wood
  start : Trm
  modes : List (Str × List Trm)
def encMo (p : Str × List Trm) : D := .tuple [.str p.1, .list (p.2.map encM)]
def encTn (t : Trn) : D := .tuple [encWd t.wood, encM t.start, .list (t.modes.map encMo)]
def rowsOf : Wood → Str → List Rw
  | [], _ => []
  | p :: w, k => bif p.1 == k then p.2 else rowsOf w k
def mdOf (w : Wood) (p : Str × List Trm) : Md := ⟨p.1, List.zipWith (fun (r : Rw) t => (r.br.isEmpty, t)) (rowsOf w p.1) p.2⟩
def mds (t : Trn) : List Md := t.modes.map (mdOf t.wood)
/-- a turning that the drawing makes -/
structure TnOk (t : Trn) : Prop where
  few : t.modes.length ≤ 100
  few1 : 1 ≤ t.modes.length
  rows : ∀ p ∈ t.modes, p.2.length = (rowsOf t.wood p.1).length ∧ p.2.length ≤ 100
  bare : ∀ p ∈ t.modes, MdOk (mdOf t.wood p)
  term : ∀ p ∈ t.modes, ∀ r ∈ p.2, okM r ∧ levM r ≤ 10 ∧ sizeM r ≤ 1000 ∧ ∀ c ∈ callsM r, 0 ≤ c.1 ∧ c.1 < t.modes.length
  names : (∀ p ∈ t.wood, PyData.strOk p.1 = true ∧ p.2.length ≤ 100 ∧ ∀ r ∈ p.2, PyData.strOk r.nm = true ∧ r.br.length ≤ 100 ∧ ∀ b ∈ r.br, PyData.strOk b = true)
  kinds : t.wood.length ≤ 100
  start : okM t.start ∧ levM t.start ≤ 10
theorem w_ix0 (t : Trn) : gIx (encTn t) (.int 0) = some (encWd t.wood) := by unfold encTn; simp
theorem w_ix1 (t : Trn) : gIx (encTn t) (.int 1) = some (encM t.start) := by unfold encTn; simp
theorem w_ix2 (t : Trn) : gIx (encTn t) (.int 2) = some (.list (t.modes.map encMo)) := by unfold encTn; simp
theorem gEq_str (a b : Str) : gEq (.str a) (.str b) = some (.bool (a == b)) := rfl
noncomputable section
abbrev rowsB : Ev → SR := (sIf (eB (eBin gEq (eVar 2) (eVar 1)) asB)
    (sRet (eM (eVar 3) Ow.d))
    sSkip)
theorem rows_loop (W0 : D) (k : Str) : ∀ (w : Wood) (x2 x3 : Option Ow), ∃ env', forL (gtTup 2 (gtCons (gtName 2) (gtCons (gtName 3) gtNil))) rowsB (w.map encKd) [some (.d W0), some (.d (.str k)), x2, x3] = if (w.any fun p => p.1 == k) then .rt (.d (.list ((rowsOf w k).map encRw))) env' else .nx env'
  | [], x2, x3 => ⟨[some (.d W0), some (.d (.str k)), x2, x3], by simp [forL]⟩
  | p :: w, x2, x3 => by
    have g : gtTup 2 (gtCons (gtName 2) (gtCons (gtName 3) gtNil)) (encKd p) [some (.d W0), some (.d (.str k)), x2, x3] = some [some (.d W0), some (.d (.str k)), some (.d (.str p.1)), some (.d (.list (p.2.map encRw)))] := rfl
    rw [List.map_cons, forL, g]
    cases c : p.1 == k with
    | true =>
      refine ⟨[some (.d W0), some (.d (.str k)), some (.d (.str p.1)), some (.d (.list (p.2.map encRw)))], ?_⟩
      have e : rowsB [some (.d W0), some (.d (.str k)), some (.d (.str p.1)), some (.d (.list (p.2.map encRw)))] = .rt (.d (.list (p.2.map encRw))) [some (.d W0), some (.d (.str k)), some (.d (.str p.1)), some (.d (.list (p.2.map encRw)))] := by
        generalize PyData.list (p.2.map encRw) = RS
        simp [gEq_str, c]
      simp only [e]
      rw [List.any_cons, c, rowsOf, c]
      rfl
    | false =>
      obtain ⟨env', ih⟩ := rows_loop W0 k w (some (.d (.str p.1))) (some (.d (.list (p.2.map encRw))))
      refine ⟨env', ?_⟩
      have e : rowsB [some (.d W0), some (.d (.str k)), some (.d (.str p.1)), some (.d (.list (p.2.map encRw)))] = .nx [some (.d W0), some (.d (.str k)), some (.d (.str p.1)), some (.d (.list (p.2.map encRw)))] := by
        generalize PyData.list (p.2.map encRw) = RS
        simp [gEq_str, c]
      simp only [e]
      rw [ih, List.any_cons, c, rowsOf, c]
      rfl
abbrev bRowsOf : Ev → SR := (sSeq (sFor (eB (eVar 0) itD) (gtTup 2 (gtCons (gtName 2) (gtCons (gtName 3) gtNil)))
    (sIf (eB (eBin gEq (eVar 2) (eVar 1)) asB)
    (sRet (eM (eVar 3) Ow.d))
    sSkip))
    (sRet (eLst aNil)))
/-- tells these rows, as data or as a list of its own -/
theorem rowsOf_fin (w : Wood) (k : Str) : ∃ o, finR (bRowsOf (envOf 2 [encWd w, .str k])) = .ok o ∧ viewD o = .list ((rowsOf w k).map encRw) := by
  have he : envOf 2 [encWd w, .str k] = [some (.d (encWd w)), some (.d (.str k)), none, none] := rfl
  rw [he]
  obtain ⟨env', lp⟩ := rows_loop (encWd w) k w none none
  have fo : (sFor (eB (eVar 0) itD) (gtTup 2 (gtCons (gtName 2) (gtCons (gtName 3) gtNil))) rowsB) [some (.d (encWd w)), some (.d (.str k)), none, none] = forL (gtTup 2 (gtCons (gtName 2) (gtCons (gtName 3) gtNil))) rowsB (w.map encKd) [some (.d (encWd w)), some (.d (.str k)), none, none] := by
    rw [sFor_eq]
    simp only [eB_eq, eVar_0, R.bind_ok]
    unfold encWd
    simp only [itD_list, R.st_ok]
  cases c : w.any fun p => p.1 == k with
  | true =>
    rw [c, if_pos rfl] at lp
    refine ⟨.d (.list ((rowsOf w k).map encRw)), ?_, viewD_d _⟩
    show finR (sSeq _ _ _) = _
    rw [sSeq_eq, fo, lp]
    rfl
  | false =>
    rw [c, if_neg (by decide)] at lp
    have e : rowsOf w k = [] := by
      have : ∀ w : Wood, (w.any fun p => p.1 == k) = false → rowsOf w k = [] := fun w => by
        induction w with
        | nil => intro _; rfl
        | cons p w ih =>
          intro h
          rw [List.any_cons, Bool.or_eq_false_iff] at h
          rw [rowsOf, h.1, ih h.2]
          rfl
      exact this w c
    refine ⟨.l [], ?_, by rw [e]; simp⟩
    show finR (sSeq _ _ _) = _
    rw [sSeq_eq, fo, lp]
    simp [sizeLine_eq]
section
variable (nm : Str) (kp : Bool) (ad : Int) (ps : List Trm) (m b : Int)
theorem m_ix0 : gIx (encM (.put nm kp ad ps)) (.int 0) = some (.str "put") := by rw [encM_put]; simp
theorem m_ix1 : gIx (encM (.put nm kp ad ps)) (.int 1) = some (.str nm) := by rw [encM_put]; simp
theorem m_ix2 : gIx (encM (.put nm kp ad ps)) (.int 2) = some (.bool kp) := by rw [encM_put]; simp
theorem m_ix3 : gIx (encM (.put nm kp ad ps)) (.int 3) = some (.int ad) := by rw [encM_put]; simp
theorem m_ix4 : gIx (encM (.put nm kp ad ps)) (.int 4) = some (.tuple (ps.map encM)) := by rw [encM_put]; simp
theorem c_ix0 : gIx (encM (.call m b)) (.int 0) = some (.str "call") := by rw [encM_call]; simp
theorem c_ix1 : gIx (encM (.call m b)) (.int 1) = some (.int m) := by rw [encM_call]; simp
theorem c_ix2 : gIx (encM (.call m b)) (.int 2) = some (.int b) := by rw [encM_call]; simp
end
def stD (ss : List Stp) : D := .list (ss.map encS)
end
end Mir
set_option Elab.async false
set_option linter.all false
set_option maxRecDepth 100000
set_option maxHeartbeats 4000000
namespace Mir
open PySem PySem.Spec L2
theorem seq_nx {f g : Ev → SR} {env env1 : Ev} {r : SR} (h1 : f env = .nx env1) (h2 : g env1 = r) : sSeq f g env = r := by
  rw [sSeq_eq, h1]
  exact h2
noncomputable section
theorem bares_zip (w : Wood) (p : Str × List Trm) : bares (mdOf w p) = (((rowsOf w p.1).zip p.2).filter fun q => q.1.br.isEmpty).map (·.2) := by
  unfold bares mdOf
  show ((List.zipWith (fun (r : Rw) t => (r.br.isEmpty, t)) (rowsOf w p.1) p.2).filter (·.1)).map (·.2) = _
  generalize rowsOf w p.1 = rs
  generalize p.2 = ts
  induction rs generalizing ts with
  | nil => rfl
  | cons r rs ih =>
    cases ts with
    | nil => rfl
    | cons t ts =>
      rw [List.zipWith_cons_cons, List.zip_cons_cons]
      cases c : r.br.isEmpty with
      | true =>
        rw [List.filter_cons_of_pos (by simp [c]), List.filter_cons_of_pos (by simp [c]), List.map_cons, List.map_cons, ih ts]
      | false =>
        rw [List.filter_cons_of_neg (by simp [c]), List.filter_cons_of_neg (by simp [c]), ih ts]
/-- what the parts promise -/
structure Parts (t : Trn) (f1 f2 f3 : List D → R Ow) : Prop where
  rows : ∀ p ∈ t.modes, ∃ o, f1 [encWd t.wood, .str p.1] = .ok o ∧ viewD o = .list ((rowsOf t.wood p.1).map encRw)
  bare : ∀ p ∈ t.modes, ∀ r ∈ p.2, callsM r = [] → f2 [encM r, .list []] = .ok (.d (encS (stIn [] r)))
  stump : ∀ p ∈ t.modes, ∀ r ∈ p.2, ∀ ss : List Stp, ss.length = t.modes.length → f2 [encM r, stD ss] = .ok (.d (encS (stIn ss r)))
  met0 : ∀ p ∈ t.modes, f3 [stD ((bares (mdOf t.wood p)).map (stIn []))] = .ok (.d (encS (metOf ((bares (mdOf t.wood p)).map (stIn [])))))
  metN : ∀ p ∈ t.modes, ∀ n : Nat, f3 [stD (p.2.map (stIn (tab (mds t) n)))] = .ok (.d (encS (metOf (p.2.map (stIn (tab (mds t) n))))))
end
end Mir
set_option Elab.async false
set_option linter.all false
set_option maxRecDepth 100000
set_option maxHeartbeats 4000000
namespace Mir
open PySem PySem.Spec L2
noncomputable section
abbrev levB (f5 : List D → R Ow) : Ev → SR := (sSeq (sSet 3 (eM (eM (eB (aCons (eVar 0) (aCons (eBin gIx (eB (eVarO 2) shD) (eB (eC (.int 1)) gNeg)) aNil)) f5) viewD) Ow.d))
    (sSeq (sIf (eB (eBin gEq (eVar 3) (eBin gIx (eB (eVarO 2) shD) (eB (eC (.int 1)) gNeg))) asB)
    (sRetV 2)
    sSkip)
    (sApp 2 (eM (eVar 3) Ow.d))))
end
end Mir
set_option Elab.async false
set_option linter.all false
set_option maxRecDepth 100000
set_option maxHeartbeats 4000000
namespace Mir
open PySem PySem.Spec L2
noncomputable section
def encCl (c : Int × Int) : D := .tuple [.int c.1, .int c.2]
def caD (cs : List (Int × Int)) : D := .list (cs.map encCl)
mutual
def thinM : Trm → Prop
  | .call _ _ => True
  | .put _ _ _ ps => ps.length ≤ 3 ∧ thinMs ps
def thinMs : List Trm → Prop
  | [] => True
  | p :: ps => thinM p ∧ thinMs ps
end
/-- two parts of one level less, or three of two levels less -/
def fitS : Nat → Trm → Prop
  | _, .call _ _ => True
  | 0, .put _ _ _ ps => ps = []
  | 1, .put _ _ _ ps => ps.length ≤ 3 ∧ ∀ p ∈ ps, fitS 0 p
  | n + 2, .put _ _ _ ps => (ps.length ≤ 2 ∧ ∀ p ∈ ps, fitS (n + 1) p) ∨ (ps.length ≤ 3 ∧ ∀ p ∈ ps, fitS n p)
theorem sizeMs_le' {n m : Nat} : ∀ {bs : List Trm}, bs.length ≤ n → (∀ b ∈ bs, sizeM b ≤ m) → sizeMs bs ≤ n * m
  | [], _, _ => by rw [sizeMs]; omega
  | b :: bs, hl, h => by
    rw [sizeMs]
    obtain ⟨k, rfl⟩ : ∃ k, n = k + 1 := ⟨n - 1, by simp at hl; omega⟩
    have := sizeMs_le' (n := k) (m := m) (bs := bs) (by simp at hl; omega) fun c hc => h c (List.mem_cons_of_mem _ hc)
    have := h b List.mem_cons_self
    rw [Nat.add_mul]
    omega
theorem fitS_0 {t : Trm} (h : fitS 0 t) : sizeM t ≤ 1 := by
  cases t with
  | call m b => rw [sizeM]; omega
  | put nm kp ad ps => rw [fitS] at h; rw [h, sizeM, sizeMs]; omega
theorem fitS_1 {t : Trm} (h : fitS 1 t) : sizeM t ≤ 4 := by
  cases t with
  | call m b => rw [sizeM]; omega
  | put nm kp ad ps =>
    rw [fitS] at h
    have := sizeMs_le' h.1 fun p hp => fitS_0 (h.2 p hp)
    rw [sizeM]
    omega
theorem fitS_2 {t : Trm} (h : fitS 2 t) : sizeM t ≤ 9 := by
  cases t with
  | call m b => rw [sizeM]; omega
  | put nm kp ad ps =>
    rw [fitS] at h
    rw [sizeM]
    rcases h with h | h
    · have := sizeMs_le' h.1 fun p hp => fitS_1 (h.2 p hp)
      omega
    · have := sizeMs_le' h.1 fun p hp => fitS_0 (h.2 p hp)
      omega
def TermIn (cs : List (Int × Int)) (n : Nat) (t : Trm) : Prop := okM t ∧ levM t ≤ n + 1 ∧ fitS n t ∧ (∀ c ∈ callsM t, c ∈ cs) ∧ thinM t
end
end Mir
set_option Elab.async false
set_option linter.all false
set_option maxRecDepth 100000
set_option maxHeartbeats 4000000
namespace Mir
open PySem PySem.Spec L2
theorem perm_map_inv {α β : Type} {f : α → β} {ds es : List β} (h : ds.Perm es) : ∀ xs : List α, es = xs.map f → ∃ ys : List α, ys.Perm xs ∧ ds = ys.map f := by
  induction h with
  | nil => intro xs e; exact ⟨[], by cases xs with | nil => exact .refl _ | cons => simp at e, rfl⟩
  | cons x h ih =>
    intro xs e
    cases xs with
    | nil => simp at e
    | cons a xs =>
      rw [List.map_cons] at e
      injection e with e1 e2
      obtain ⟨ys, h1, h2⟩ := ih xs e2
      exact ⟨a :: ys, h1.cons a, by rw [e1, h2]; rfl⟩
  | swap x y l =>
    intro xs e
    match xs, e with
    | a :: b :: xs, e =>
      simp only [List.map_cons] at e
      injection e with e1 e2
      injection e2 with e2 e3
      exact ⟨b :: a :: xs, .swap a b xs, by rw [e1, e2, e3]; rfl⟩
    | [_], e => simp at e
    | [], e => simp at e
  | trans h1 h2 ih1 ih2 =>
    intro xs e
    obtain ⟨ys, a, b⟩ := ih2 xs e
    obtain ⟨zs, c, d⟩ := ih1 ys b
    exact ⟨zs, c.trans a, d⟩
theorem alike_strs : ∀ xs ys : List Str, PySem.W.alikeAll (xs.map PyData.str) (ys.map PyData.str) = true
  | [], ys => by cases ys <;> rfl
  | x :: xs, [] => rfl
  | x :: xs, y :: ys => by
    rw [List.map_cons, List.map_cons, PySem.W.alikeAll, alike_strs xs ys]
    rfl
theorem sorted_rows (rows : List Rw) : ∃ rows' : List Rw, rows'.Perm rows ∧ gSorted [.list (rows.map encRw)] = some (.l (rows'.map fun r => .d (encRw r))) := by
  obtain ⟨rows', h1, h2⟩ := perm_map_inv (List.mergeSort_perm (rows.map encRw) (PySem.W.dataLe false id)) rows rfl
  refine ⟨rows', h1, ?_⟩
  have ok : sortOk (rows.map encRw) = true := by
    unfold sortOk
    simp only [Bool.and_eq_true, Bool.or_eq_true, List.all_eq_true, decide_eq_true_eq, List.mem_map]
    refine ⟨⟨?_, .inl ?_⟩, ?_⟩
    · rintro d ⟨r, _, rfl⟩ e ⟨s, _, rfl⟩
      have := alike_strs r.br s.br
      simp [encRw, PySem.W.alike, PySem.W.alikeAll, this]
    · rintro d ⟨r, _, rfl⟩
      rfl
    · rintro d ⟨r, _, rfl⟩
      have := depthAll_of (n := 0) (r.br.map PyData.str) fun d hd => by
        obtain ⟨z, hz, rfl⟩ := List.mem_map.mp hd
        simp [PyData.depth]
      simp only [encRw, PyData.depth, PyData.depthAll]
      omega
  unfold gSorted
  have e : sortedD (rows.map encRw) = rows'.map encRw := h2
  simp only [ok, if_true, e, List.map_map]
  rfl
noncomputable section
def CallOk (ks bs : List Str) (c : Int × Int) : Prop := ∃ i j : Nat, c = ((i : Int), (j : Int)) ∧ ∃ z, ks[i]? = some z ∧ bs[j]? = some z
def caO (cs : List (Int × Int)) : Ow := .l (cs.map fun c => .d (encCl c))
mutual
def bareM : Trm → Trm
  | .call m b => .call m b
  | .put nm _ ad ps => .put nm false ad (bareMs ps)
def bareMs : List Trm → List Trm
  | [] => []
  | p :: ps => bareM p :: bareMs ps
end
end
end Mir
set_option Elab.async false
set_option linter.all false
set_option maxRecDepth 100000
set_option maxHeartbeats 4000000
namespace Mir
open PySem PySem.Spec L2
def RwOk (w : Nat) (kn : Nat → Str) (r : Rw) : Prop := PyData.strOk r.nm = true ∧ r.br.length ≤ 4 ∧ ∀ z ∈ r.br, ∃ j, j < w ∧ z = kn j
/-- the rows' names, in some order -/
def RwNm (kn : Nat → Str) (rs : List Rw) : Prop := ∃ b, b ≤ 12 ∧ (rs.map (·.nm)).Perm ((List.range rs.length).map fun j => kn (b + j))
structure WdOk (w : Wood) (kn : Nat → Str) : Prop where
  few : w.length ≤ 3
  one : 1 ≤ w.length
  nok : ∀ k, k < 900 → PyData.strOk (kn k) = true
  at_ : ∀ (k : Nat) p, w[k]? = some p → p.1 = kn k
  rows : ∀ p ∈ w, p.2.length ≤ 3 ∧ (∃ r ∈ p.2, r.br = []) ∧ ∀ r ∈ p.2, RwOk w.length kn r
  rnm : ∀ p ∈ w, RwNm kn p.2
noncomputable section
theorem rg1_nat (n : Nat) (h : n ≤ 100000) : rg1 [.int (n : Nat)] = .ok (rangeD 0 n) := by
  have : rg1 [.int (n : Nat)] = .ok (rangeD 0 ((n : Nat) : Int).toNat) := guard_ok (by omega)
  rw [this, Int.toNat_natCast]
theorem rangeD_map (n : Nat) : rangeD 0 n = (List.range n).map fun k : Nat => PyData.int (k : Nat) := by
  unfold rangeD
  exact List.map_congr_left fun k _ => by simp
section
variable {fd fn : List D → R Ow} {code : Int} {kn : Nat → Str}
end
end
end Mir
set_option Elab.async false
set_option linter.all false
set_option maxRecDepth 100000
set_option maxHeartbeats 4000000
namespace Mir
open PySem PySem.Spec L2
noncomputable section
theorem rowsOf_first : ∀ (w : Wood) (k : Str), (∃ p ∈ w, p.1 = k) → ∃ p, (w.filter fun p => p.1 == k)[0]? = some p ∧ p.2 = rowsOf w k ∧ p ∈ w
  | [], k, h => by obtain ⟨p, hp, _⟩ := h; cases hp
  | p :: w, k, h => by
    cases c : p.1 == k with
    | true =>
      refine ⟨p, by rw [List.filter_cons_of_pos (by simpa using c)]; rfl, by rw [rowsOf, c]; rfl, List.mem_cons_self⟩
    | false =>
      obtain ⟨q, hq, e⟩ := h
      have hq' : q ∈ w := by
        rcases List.mem_cons.mp hq with rfl | h
        · rw [e] at c; simp at c
        · exact h
      obtain ⟨r, h1, h2, h3⟩ := rowsOf_first w k ⟨q, hq', e⟩
      exact ⟨r, by rw [List.filter_cons_of_neg (by simp [c])]; exact h1, by rw [rowsOf, c]; exact h2, List.mem_cons_of_mem _ h3⟩
def RuleOk (ks bs : List Str) (t : Trm) : Prop := okM t ∧ levM t ≤ 3 ∧ sizeM t ≤ 9 ∧ ∀ c ∈ callsM t, CallOk ks bs c
structure TnMade (t : Trn) : Prop where
  few : t.modes.length ≤ 4
  one : 1 ≤ t.modes.length
  kind : ∀ p ∈ t.modes, ∃ q ∈ t.wood, q.1 = p.1
  rules : ∀ p ∈ t.modes, p.2.length = (rowsOf t.wood p.1).length ∧ ∀ (i : Nat) r u, (rowsOf t.wood p.1)[i]? = some r → p.2[i]? = some u → RuleOk (t.modes.map (·.1)) r.br u
  start : okM t.start ∧ levM t.start ≤ 3
/-- what the parts of the drawing promise -/
structure Gens (fd ft fl fru fca fb : List D → R Ow) (code : Int) (w : Wood) : Prop where
  dr : Draws fd
  term : ∀ (cs : List (Int × Int)) (n : Nat), n ≤ 2 → ∀ dk, ∃ t dk', TermIn cs n t ∧ ft (dkD dk :: [.int code, caD cs, .int (n : Nat)]) = tells (encM t) dk'
  rows : ∀ k, (∃ p ∈ w, p.1 = k) → fl [encWd w, .str k] = .ok (.d (.list ((rowsOf w k).map encRw)))
  rule : ∀ (cs : List (Int × Int)) (base : Trm), TermIn [] 2 base → ∀ dk, ∃ t dk', TermIn cs 2 t ∧ fru (dkD dk :: [.int code, encM base, caD cs]) = tells (encM t) dk'
  callsT : ∀ ks bs : List Str, ks.length ≤ 100 → bs.length ≤ 100 → ∃ cs, fca [.list (ks.map PyData.str), .tuple (bs.map PyData.str)] = .ok (caO cs) ∧ ∀ c ∈ cs, CallOk ks bs c
  callsL : ∀ ks bs : List Str, ks.length ≤ 100 → bs.length ≤ 100 → ∃ cs, fca [.list (ks.map PyData.str), .list (bs.map PyData.str)] = .ok (caO cs) ∧ ∀ c ∈ cs, CallOk ks bs c
  bare : ∀ t, okM t → levM t ≤ 10 → fb [encM t] = .ok (.d (encM (bareM t)))
section
variable {fd ft fl fru fca fb : List D → R Ow} {code : Int} {w : Wood}
theorem TermIn.rule {ks bs : List Str} {cs : List (Int × Int)} {t : Trm} (h : TermIn cs 2 t) (hc : ∀ c ∈ cs, CallOk ks bs c) : RuleOk ks bs t := ⟨h.1, by have := h.2.1; omega, fitS_2 h.2.2.1, fun c hcc => hc c (h.2.2.2.1 c hcc)⟩
theorem rowsOf_mem {w : Wood} {k : Str} (hk : ∃ p ∈ w, p.1 = k) : ∃ p ∈ w, p.2 = rowsOf w k := by
  obtain ⟨p, _, h2, h3⟩ := rowsOf_first w k hk
  exact ⟨p, h3, h2⟩
end
end
end Mir
set_option Elab.async false
set_option linter.all false
set_option maxRecDepth 100000
set_option maxHeartbeats 4000000
namespace Mir
open PySem PySem.Spec L2
theorem TnMade.ok {t : Trn} {kn : Nat → Str} (m : TnMade t) (hw : WdOk t.wood kn) : TnOk t := by
  have kl : (t.modes.map (·.1)).length = t.modes.length := List.length_map _
  have each : ∀ p ∈ t.modes, ∀ u ∈ p.2, ∃ r ∈ rowsOf t.wood p.1, RuleOk (t.modes.map (·.1)) r.br u := fun p hp u hu => by
    obtain ⟨i, hi, e⟩ := List.mem_iff_getElem.mp hu
    obtain ⟨h1, h2⟩ := m.rules p hp
    have hi' : i < (rowsOf t.wood p.1).length := by omega
    exact ⟨_, List.getElem_mem hi', h2 i _ u (List.getElem?_eq_getElem hi') (by rw [List.getElem?_eq_getElem hi, e])⟩
  have rl : ∀ p ∈ t.modes, (rowsOf t.wood p.1).length ≤ 3 ∧ ∃ r ∈ rowsOf t.wood p.1, r.br = [] := fun p hp => by
    obtain ⟨q, q1, q2⟩ := rowsOf_mem (m.kind p hp)
    obtain ⟨a, b, _⟩ := hw.rows q q1
    rw [q2] at a b
    exact ⟨a, b⟩
  have wl := hw.few
  refine ⟨by have := m.few; omega, m.one, fun p hp => ⟨(m.rules p hp).1, by have := (m.rules p hp).1; have := (rl p hp).1; omega⟩, fun p hp => ?_, fun p hp u hu => ?_, fun p hp => ?_, by omega, m.start.1, by have := m.start.2; omega⟩
  · -- bare rows
    obtain ⟨h1, h2⟩ := m.rules p hp
    constructor
    · rw [bares_zip]
      obtain ⟨_, r, hr, hb⟩ := rl p hp
      obtain ⟨i, hi, e⟩ := List.mem_iff_getElem.mp hr
      intro z
      have z2 : ((rowsOf t.wood p.1).zip p.2).filter (fun q => q.1.br.isEmpty) = [] := by simpa using z
      have hm : (r, p.2[i]'(by omega)) ∈ ((rowsOf t.wood p.1).zip p.2).filter (fun q => q.1.br.isEmpty) := by
        refine List.mem_filter.mpr ⟨?_, by show r.br.isEmpty = true; rw [hb]; rfl⟩
        refine List.mem_iff_getElem.mpr ⟨i, by rw [List.length_zip]; omega, ?_⟩
        rw [List.getElem_zip, e]
      rw [z2] at hm
      cases hm
    · intro u hu
      rw [bares_zip] at hu
      obtain ⟨q, hq, rfl⟩ := List.mem_map.mp hu
      obtain ⟨q1, q2⟩ := List.mem_filter.mp hq
      obtain ⟨i, hi, e⟩ := List.mem_iff_getElem.mp q1
      rw [List.length_zip] at hi
      rw [List.getElem_zip] at e
      have ok := h2 i q.1 q.2 (by rw [List.getElem?_eq_getElem (by omega), ← e]) (by rw [List.getElem?_eq_getElem (by omega), ← e])
      have bn : q.1.br = [] := by simpa using q2
      cases hc : callsM q.2 with
      | nil => rfl
      | cons c cs =>
        obtain ⟨i, j, _, z, _, hz⟩ := ok.2.2.2 c (by rw [hc]; exact List.mem_cons_self)
        rw [bn] at hz
        simp at hz
  · obtain ⟨r, _, o1, o2, o3, o4⟩ := each p hp u hu
    refine ⟨o1, by omega, by omega, fun c hc => ?_⟩
    obtain ⟨i, j, e, z, hz, _⟩ := o4 c hc
    have := (List.getElem?_eq_some_iff.mp hz).1
    rw [e]
    constructor
    · show (0 : Int) ≤ (i : Int)
      omega
    · show (i : Int) < _
      omega
  · obtain ⟨i, hi, e⟩ := List.mem_iff_getElem.mp hp
    have en := hw.at_ i p (by rw [List.getElem?_eq_getElem hi, e])
    obtain ⟨a, _, c⟩ := hw.rows p hp
    refine ⟨by rw [en]; exact hw.nok i (by omega), by omega, fun r hr => ?_⟩
    obtain ⟨d1, d2, d3⟩ := c r hr
    refine ⟨d1, by omega, fun z hz => ?_⟩
    obtain ⟨j, hj, ez⟩ := d3 z hz
    rw [ez]
    exact hw.nok j (by omega)
noncomputable section
end
end Mir
set_option Elab.async false
set_option linter.all false
set_option maxRecDepth 100000
set_option maxHeartbeats 4000000
namespace Mir
open PySem PySem.Spec L2
noncomputable section
def pick (t : Trn) (wants : Rw → Bool) (g : Trm → Stp) (p : Str × List Trm) : List Stp := (((rowsOf t.wood p.1).zip p.2).filter fun q => wants q.1).map fun q => g q.2
end
end Mir
set_option Elab.async false
set_option linter.all false
set_option maxRecDepth 100000
set_option maxHeartbeats 4000000
namespace Mir
open PySem PySem.Spec L2
def orRt : Option Ow → Ev → SR
  | none, e => .nx e
  | some o, e => .rt o e
theorem forL_first {α : Type} {g : D → Ev → Option Ev} {f : Ev → SR} (enc : α → D) (Q : α → Option Ow) (I : Ev → Prop) : ∀ (xs : List α) (step : ∀ a ∈ xs, ∀ env, I env → ∃ env1, g (enc a) env = some env1 ∧ ∃ env2, I env2 ∧ f env1 = orRt (Q a) env2) (env : Ev), I env → ∃ env', I env' ∧ forL g f (xs.map enc) env = orRt (xs.findSome? Q) env'
  | [], _, env, h => ⟨env, h, rfl⟩
  | a :: xs, st, env, h => by
    obtain ⟨env1, g1, env2, h2, f2⟩ := st a List.mem_cons_self env h
    rw [List.map_cons, forL, g1, List.findSome?_cons]
    simp only [f2]
    cases q : Q a with
    | none => exact forL_first enc Q I xs (fun b hb => st b (List.mem_cons_of_mem _ hb)) env2 h2
    | some o => exact ⟨env2, h2, rfl⟩
def noF (b : Bool) : Option Ow := if b then none else some (.d (.bool false))
theorem find_noF {α : Type} (P : α → Bool) : ∀ xs : List α, xs.findSome? (fun a => noF (P a)) = noF (xs.all P)
  | [] => rfl
  | a :: xs => by
    rw [List.findSome?_cons, List.all_cons, find_noF P xs]
    cases P a <;> rfl
theorem noF_t : noF true = none := rfl
theorem noF_f : noF false = some (.d (.bool false)) := rfl
def moD (ms : List (Str × List Trm)) : D := .list (ms.map encMo)
noncomputable section
theorem nice_list {ds : List D} {n : Nat} (h : ∀ d ∈ ds, d.canLay0 = true ∧ d.depth ≤ n) (hn : n ≤ 129) : Nice (.list ds) := by
  refine ⟨?_, ?_⟩
  · rw [PyData.canLay0]
    exact canAll_of _ fun d hd => (h d hd).1
  · rw [PyData.depth]
    have := depthAll_of (n := n) ds fun d hd => (h d hd).2
    omega
theorem ne_nil {ds : List D} (h : Nice (.list ds)) : gNe (.list ds) (.list []) = some (.bool (!ds.isEmpty)) := by
  have n0 : Nice (.list []) := nice_list (n := 0) (fun d hd => by cases hd) (by omega)
  rw [gNe_nice h n0]
  cases ds with
  | nil => rfl
  | cons d ds => simp [PyData.eqv, PyData.eqvAll]
theorem mo_ix {ms : List (Str × List Trm)} {k : Nat} {p : Str × List Trm} (h : ms[k]? = some p) : gIx (moD ms) (.int (k : Nat)) = some (encMo p) := by
  show atI (ms.map encMo) _ = _
  exact atI_natD (by rw [List.getElem?_map, h]; rfl)
theorem mo_ix0 (p : Str × List Trm) : gIx (encMo p) (.int 0) = some (.str p.1) := by unfold encMo; simp
def brD (bs : List Str) : D := .tuple (bs.map PyData.str)
theorem br_len (bs : List Str) : gLen [brD bs] = some (.d (.int (bs.length : Nat))) := by
  have : gLen [brD bs] = some (Ow.d (.int (bs.map PyData.str).length)) := rfl
  rw [this, List.length_map]
theorem callsMs_app : ∀ a b : List Trm, callsMs (a ++ b) = callsMs a ++ callsMs b
  | [], b => by rw [callsMs]; rfl
  | p :: a, b => by rw [List.cons_append, callsMs, callsMs, callsMs_app a b, List.append_assoc]
theorem sizeMs_app : ∀ a b : List Trm, sizeMs (a ++ b) = sizeMs a + sizeMs b
  | [], b => by rw [sizeMs]; simp
  | p :: a, b => by rw [List.cons_append, sizeMs, sizeMs, sizeMs_app a b]; omega
end
end Mir
set_option Elab.async false
set_option linter.all false
set_option maxRecDepth 100000
set_option maxHeartbeats 4000000
namespace Mir
open PySem PySem.Spec L2
noncomputable section
def rwsD (rs : List Rw) : D := .list (rs.map encRw)
def trsD (ts : List Trm) : D := .list (ts.map encM)
theorem rw_ix0 (r : Rw) : gIx (encRw r) (.int 0) = some (.str r.nm) := by unfold encRw; simp
theorem wd_ix0 {w : Wood} {p : Str × List Rw} (h : w[0]? = some p) : gIx (encWd w) (.int 0) = some (encKd p) := by
  show atI (w.map encKd) _ = _
  exact atI_natD (k := 0) (by rw [List.getElem?_map, h]; rfl)
theorem kd_ix0 (p : Str × List Rw) : gIx (encKd p) (.int 0) = some (.str p.1) := by unfold encKd; simp
structure SndOk (w : Wood) (s : Trm) (ms : List (Str × List Trm)) : Prop where
  kinds : ∀ p ∈ w, PyData.strOk p.1 = true
  few : w.length ≤ 100
  dist : (w.map (·.1)).Nodup
  mkinds : ∀ p ∈ ms, PyData.strOk p.1 = true
theorem encMo_tup (p : Str × List Trm) : encMo p = .tuple [.str p.1, trsD p.2] := rfl
def numOf : List Rw → Str → Nat → Option Nat
  | [], _, _ => none
  | r :: rs, nm, k => if r.nm == nm then some k else numOf rs nm (k + 1)
abbrev bRowNumber (f2 : List D → R Ow) : Ev → SR := (sSeq (sFor (eB (aCons (eM (eB (aCons (eVar 0) (aCons (eVar 1) aNil)) f2) viewD) aNil) enArg) (gtTup 2 (gtCons (gtName 3) (gtCons (gtName 4) gtNil)))
    (sIf (eB (eBin gEq (eBin gIx (eVar 4) (eC (.int 0))) (eVar 2)) asB)
    (sRet (eM (eVar 3) Ow.d))
    sSkip))
    (sRet (eM (eC .none) Ow.d)))
def optD : Option Nat → D
  | none => .none
  | some k => .int (k : Nat)
theorem rowNumber_fin {w : Wood} {f2 : List D → R Ow} (k nm : Str) (h2 : ∃ o, f2 [encWd w, .str k] = .ok o ∧ viewD o = rwsD (rowsOf w k)) : finR (bRowNumber f2 (envOf 2 [encWd w, .str k, .str nm])) = .ok (.d (optD (numOf (rowsOf w k) nm 0))) := by
  have he : envOf 2 [encWd w, .str k, .str nm] = [some (.d (encWd w)), some (.d (.str k)), some (.d (.str nm)), none, none] := rfl
  rw [he]
  obtain ⟨o, o1, o2⟩ := h2
  have loop : ∀ (rs : List Rw) (j : Nat) (x3 x4 : Option Ow), ∃ env', forL (gtTup 2 (gtCons (gtName 3) (gtCons (gtName 4) gtNil))) (sIf (eB (eBin gEq (eBin gIx (eVar 4) (eC (.int 0))) (eVar 2)) asB)
    (sRet (eM (eVar 3) Ow.d))
    sSkip) (enumD j (rs.map encRw)) [some (.d (encWd w)), some (.d (.str k)), some (.d (.str nm)), x3, x4] = orRt ((numOf rs nm j).map fun i => .d (.int (i : Nat))) env' := fun rs => by
    induction rs with
    | nil => intro j x3 x4; exact ⟨[some (.d (encWd w)), some (.d (.str k)), some (.d (.str nm)), x3, x4], rfl⟩
    | cons r rs ih =>
      intro j x3 x4
      rw [List.map_cons, enumD, forL]
      have g : gtTup 2 (gtCons (gtName 3) (gtCons (gtName 4) gtNil)) (.tuple [.int (j : Nat), encRw r]) [some (.d (encWd w)), some (.d (.str k)), some (.d (.str nm)), x3, x4] = some [some (.d (encWd w)), some (.d (.str k)), some (.d (.str nm)), some (.d (.int (j : Nat))), some (.d (encRw r))] := rfl
      rw [g]
      have ix := rw_ix0 r
      rw [numOf]
      cases c : r.nm == nm with
      | true =>
        refine ⟨[some (.d (encWd w)), some (.d (.str k)), some (.d (.str nm)), some (.d (.int (j : Nat))), some (.d (encRw r))], ?_⟩
        have e : (sIf (eB (eBin gEq (eBin gIx (eVar 4) (eC (.int 0))) (eVar 2)) asB) (sRet (eM (eVar 3) Ow.d)) sSkip) [some (.d (encWd w)), some (.d (.str k)), some (.d (.str nm)), some (.d (.int (j : Nat))), some (.d (encRw r))] = .rt (.d (.int (j : Nat))) [some (.d (encWd w)), some (.d (.str k)), some (.d (.str nm)), some (.d (.int (j : Nat))), some (.d (encRw r))] := by
          generalize encRw r = RR at ix
          simp [ix, gEq_str, c]
        simp only [e]
        rfl
      | false =>
        obtain ⟨env', ih⟩ := ih (j + 1) (some (.d (.int (j : Nat)))) (some (.d (encRw r)))
        refine ⟨env', ?_⟩
        have e : (sIf (eB (eBin gEq (eBin gIx (eVar 4) (eC (.int 0))) (eVar 2)) asB) (sRet (eM (eVar 3) Ow.d)) sSkip) [some (.d (encWd w)), some (.d (.str k)), some (.d (.str nm)), some (.d (.int (j : Nat))), some (.d (encRw r))] = .nx [some (.d (encWd w)), some (.d (.str k)), some (.d (.str nm)), some (.d (.int (j : Nat))), some (.d (encRw r))] := by
          generalize encRw r = RR at ix
          simp [ix, gEq_str, c]
        simp only [e]
        rw [ih]
        rfl
  obtain ⟨env', lp⟩ := loop (rowsOf w k) 0 none none
  show finR (sSeq _ _ _) = _
  rw [sSeq_eq, sFor_eq]
  have e3 : (eB (aCons (eM (eB (aCons (eVar 0) (aCons (eVar 1) aNil)) f2) viewD) aNil) enArg) [some (.d (encWd w)), some (.d (.str k)), some (.d (.str nm)), none, none] = .ok (enumD 0 ((rowsOf w k).map encRw)) := by
    have : enArg [rwsD (rowsOf w k)] = .ok (enumD 0 ((rowsOf w k).map encRw)) := rfl
    generalize rwsD (rowsOf w k) = RS at this o2
    simp [o1, o2, this]
  rw [e3, R.st_ok, lp]
  cases numOf (rowsOf w k) nm 0 with
  | none => simp [orRt, optD]
  | some i => simp [orRt, optD]
/-- the rule of a name -/
def ruleOf (w : Wood) (p : Str × List Trm) (nm : Str) : D := match numOf (rowsOf w p.1) nm 0 with
  | none => .none
  | some i => match p.2[i]? with
    | some t => encM t
    | none => .none
abbrev bRuleOf (f3 : List D → R Ow) : Ev → SR := (sSeq (sAsg (gtTup 2 (gtCons (gtName 3) (gtCons (gtName 4) gtNil))) (eBin gIx (eBin gIx (eVar 0) (eC (.int 2))) (eVar 1)))
    (sSeq (sSet 5 (eM (eM (eB (aCons (eBin gIx (eVar 0) (eC (.int 0))) (aCons (eVar 3) (aCons (eVar 2) aNil))) f3) viewD) Ow.d))
    (sSeq (sIf (eB (eBin gIsN (eVar 5) (eC .none)) asB)
    (sRet (eM (eC .none) Ow.d))
    sSkip)
    (sRet (eM (eBin gIx (eVar 4) (eVar 5)) Ow.d)))))
theorem numOf_lt : ∀ {rs : List Rw} {nm : Str} {k i : Nat}, numOf rs nm k = some i → k ≤ i ∧ i < k + rs.length
  | [], nm, k, i, h => by cases h
  | r :: rs, nm, k, i, h => by
    rw [numOf] at h
    split at h
    · cases h; simp
    · have := numOf_lt h
      simp
      omega
theorem ruleOf_fin {t : Trn} {f3 : List D → R Ow} {k : Nat} {p : Str × List Trm} (hk : t.modes[k]? = some p) (nm : Str) (hl : p.2.length = (rowsOf t.wood p.1).length) (h3 : f3 [encWd t.wood, .str p.1, .str nm] = .ok (.d (optD (numOf (rowsOf t.wood p.1) nm 0)))) : finR (bRuleOf f3 (envOf 3 [encTn t, .int (k : Nat), .str nm])) = .ok (.d (ruleOf t.wood p nm)) := by
  have he : envOf 3 [encTn t, .int (k : Nat), .str nm] = [some (.d (encTn t)), some (.d (.int (k : Nat))), some (.d (.str nm)), none, none, none] := rfl
  rw [he]
  have i0 := w_ix0 t
  have i2 : gIx (encTn t) (.int 2) = some (moD t.modes) := w_ix2 t
  have ik := mo_ix hk
  have s1 : sAsg (gtTup 2 (gtCons (gtName 3) (gtCons (gtName 4) gtNil))) (eBin gIx (eBin gIx (eVar 0) (eC (.int 2))) (eVar 1)) [some (.d (encTn t)), some (.d (.int (k : Nat))), some (.d (.str nm)), none, none, none] = .nx [some (.d (encTn t)), some (.d (.int (k : Nat))), some (.d (.str nm)), some (.d (.str p.1)), some (.d (trsD p.2)), none] := by
    rw [encMo_tup] at ik
    generalize trsD p.2 = T at ik ⊢
    generalize moD t.modes = M at i2 ik
    generalize encTn t = TT at i2
    simp [i2, ik]
  refine fin_step s1 ?_
  have s2 : sSet 5 (eM (eM (eB (aCons (eBin gIx (eVar 0) (eC (.int 0))) (aCons (eVar 3) (aCons (eVar 2) aNil))) f3) viewD) Ow.d) [some (.d (encTn t)), some (.d (.int (k : Nat))), some (.d (.str nm)), some (.d (.str p.1)), some (.d (trsD p.2)), none] = .nx [some (.d (encTn t)), some (.d (.int (k : Nat))), some (.d (.str nm)), some (.d (.str p.1)), some (.d (trsD p.2)), some (.d (optD (numOf (rowsOf t.wood p.1) nm 0)))] := by
    generalize trsD p.2 = T
    generalize encTn t = TT at i0
    generalize encWd t.wood = W at i0 h3
    simp [i0, h3]
  refine fin_step s2 ?_
  unfold ruleOf
  cases hn : numOf (rowsOf t.wood p.1) nm 0 with
  | none =>
    generalize trsD p.2 = T
    generalize encTn t = TT
    have n1 : isNone (PyData.none) = true := rfl
    simp [optD, n1]
  | some i =>
    have hi := (numOf_lt hn).2
    have hlt : i < p.2.length := by omega
    have ix : gIx (trsD p.2) (.int (i : Nat)) = some (encM p.2[i]) := by
      show atI (p.2.map encM) _ = _
      exact atI_natD (by rw [List.getElem?_map, List.getElem?_eq_getElem hlt]; rfl)
    have n1 : isNone (PyData.int (i : Nat)) = false := rfl
    show _ = R.ok (Ow.d (match p.2[i]? with
      | some t => encM t
      | none => .none))
    rw [List.getElem?_eq_getElem hlt]
    simp only
    generalize trsD p.2 = T at ix
    generalize encTn t = TT
    simp [optD, ix, n1]
end
end Mir
set_option Elab.async false
set_option linter.all false
set_option maxRecDepth 100000
set_option maxHeartbeats 4000000
namespace Mir
open PySem PySem.Spec L2
theorem sortedD_gen {ds qs : List D} (hp : qs.Perm ds) (hs : qs.Pairwise fun a b => PySem.W.dataLe false id a b = true) (anti : ∀ a ∈ ds, ∀ b ∈ ds, PySem.W.dataLe false id a b = true → PySem.W.dataLe false id b a = true → a = b) : sortedD ds = qs := by
  have T := PySem.W.sortLe_total (PyProof.Rows.listOrd PyProof.Rows.itemOrd) false fun d : PyData => PySem.W.keyToks (id d)
  refine List.Perm.eq_of_pairwise (le := fun a b => PySem.W.dataLe false id a b = true) (fun a b ha hb h1 h2 => ?_) (List.pairwise_mergeSort T.trans (fun a b => by rw [Bool.or_eq_true]; exact T.total a b) _) hs ((List.mergeSort_perm _ _).trans hp.symm)
  exact anti a ((List.mergeSort_perm _ _).mem_iff.mp ha) b (hp.mem_iff.mp hb) h1 h2
theorem le_int (i j : Int) : PySem.W.dataLe false id (PyData.int i) (PyData.int j) = decide (i ≤ j) := by
  show (!PySem.W.dataLt (PyData.int j) (PyData.int i)) = _
  rw [PySem.W.dataLt_int]
  by_cases h : j < i
  · have : ¬ i ≤ j := by omega
    simp [h, this]
  · have : i ≤ j := by omega
    simp [h, this]
theorem sortedI_eq {ps qs : List Int} (hp : qs.Perm ps) (hs : qs.Pairwise (· < ·)) : sortedD (ps.map PyData.int) = qs.map PyData.int := by
  refine sortedD_gen (hp.map _) ?_ ?_
  · rw [List.pairwise_map]
    exact hs.imp fun h => by rw [le_int]; exact decide_eq_true (by omega)
  · rintro a ha b hb h1 h2
    obtain ⟨i, _, rfl⟩ := List.mem_map.mp ha
    obtain ⟨j, _, rfl⟩ := List.mem_map.mp hb
    rw [le_int, decide_eq_true_eq] at h1 h2
    congr 1
    omega
theorem sortOk_ints (l : List Int) : sortOk (l.map PyData.int) = true := by
  unfold sortOk
  simp only [Bool.and_eq_true, Bool.or_eq_true, List.all_eq_true, decide_eq_true_eq, List.mem_map]
  refine ⟨⟨?_, .inr ?_⟩, ?_⟩
  · rintro d ⟨p, _, rfl⟩ e ⟨q, _, rfl⟩
    rfl
  · rintro d ⟨p, _, rfl⟩
    rfl
  · rintro d ⟨p, _, rfl⟩
    simp [PyData.depth]
def setM (l : List Int) : List (D × D) := l.map fun i => (PyData.int i, PyData.bool true)
theorem setM_keys (l : List Int) : (setM l).map (·.1) = l.map PyData.int := by unfold setM; rw [List.map_map]; rfl
theorem setM_any (l : List Int) (i : Int) : ((setM l).any fun p => keyEq p.1 (.int i)) = decide (i ∈ l) := by
  unfold setM
  rw [List.any_map]
  rw [Bool.eq_iff_iff, List.any_eq_true, decide_eq_true_eq]
  constructor
  · rintro ⟨j, hj, e⟩
    have : j = i := by simpa [keyEq] using e
    rw [← this]; exact hj
  · intro h
    exact ⟨i, h, by simp [keyEq]⟩
theorem setM_put {l : List Int} {i : Int} (h : i ∉ l) : putP (setM l) (.int i) (.bool true) = setM (l ++ [i]) := by
  unfold putP
  rw [setM_any, if_neg (by simpa using h)]
  unfold setM
  rw [List.map_append]
  rfl
section
variable (S : Trm) (R : Nat → List Trm) (n : Nat)
/-- to the mode lead calls -/
inductive Reach : Int → Prop
  | start {c : Int × Int} : c ∈ callsM S → Reach c.1
  | step {m : Nat} {t : Trm} {c : Int × Int} : Reach (m : Int) → t ∈ R m → c ∈ callsM t → Reach c.1
/-- calls by modes that there are -/
structure Calls : Prop where
  start : ∀ c ∈ callsM S, 0 ≤ c.1 ∧ c.1 < n
  step : ∀ (m : Nat), m < n → ∀ t ∈ R m, ∀ c ∈ callsM t, 0 ≤ c.1 ∧ c.1 < n
/-- found so far; calls still to look at: those of the terms on the stack, and cs -/
structure RInv (l : List Int) (st : List Trm) (cs : List (Int × Int)) : Prop where
  nd : l.Nodup
  rch : ∀ i ∈ l, Reach S R i
  src : ∀ t ∈ st, ∀ c ∈ callsM t, Reach S R c.1
  csr : ∀ c ∈ cs, Reach S R c.1
  s0 : S ∈ st ∨ ∀ c ∈ callsM S, c.1 ∈ l ∨ c ∈ cs
  sm : ∀ m : Nat, (m : Int) ∈ l → ∀ t ∈ R m, t ∈ st ∨ ∀ c ∈ callsM t, c.1 ∈ l ∨ c ∈ cs
variable {S R n}
theorem RInv.pop {l : List Int} {st : List Trm} {t : Trm} (h : RInv S R l (st ++ [t]) []) : RInv S R l st (callsM t) := by
  have hc : ∀ u : Trm, (u ∈ st ++ [t] ∨ ∀ c ∈ callsM u, c.1 ∈ l ∨ c ∈ ([] : List (Int × Int))) → u ∈ st ∨ ∀ c ∈ callsM u, c.1 ∈ l ∨ c ∈ callsM t := fun u hu => by
    rcases hu with hu | hu
    · rcases List.mem_append.mp hu with hu | hu
      · exact .inl hu
      · rw [List.mem_singleton.mp hu]
        exact .inr fun c hc => .inr hc
    · refine .inr fun c hc => ?_
      rcases hu c hc with h | h
      · exact .inl h
      · cases h
  exact ⟨h.nd, h.rch, fun u hu => h.src u (List.mem_append_left _ hu), h.src t (List.mem_append_right _ (List.mem_singleton.mpr rfl)), hc S h.s0, fun m hm u hu => hc u (h.sm m hm u hu)⟩
theorem RInv.done {l : List Int} (h : RInv S R l [] []) (hn : Calls S R n) (i : Int) : i ∈ l ↔ Reach S R i := by
  refine ⟨h.rch i, fun r => ?_⟩
  induction r with
  | @start c hc =>
    rcases h.s0 with q | q
    · cases q
    · rcases q c hc with q | q
      · exact q
      · cases q
  | @step m t c hm ht hc ih =>
    rcases h.sm m ih t ht with q | q
    · cases q
    · rcases q c hc with q | q
      · exact q
      · cases q
end
noncomputable section
def rulesAt (ms : List (Str × List Trm)) (k : Nat) : List Trm := match ms[k]? with
  | some p => p.2
  | none => []
section
variable {t : Trn} {B : Nat} (hB : ∀ p ∈ t.modes, p.2.length ≤ B) (hc : Calls t.start (rulesAt t.modes) t.modes.length) (hm : t.modes.length + (B * t.modes.length + 1) ≤ 10000)
include hB hc hm
variable {f0 : List D → R Ow} (hf : ∀ u, (u = t.start ∨ ∃ p ∈ t.modes, u ∈ p.2) → f0 [encM u] = .ok (encCs (callsM u)) ∧ Nice (encM u) ∧ (encM u).depth ≤ 100)
include hf
end
end
end Mir
set_option Elab.async false
set_option linter.all false
set_option maxRecDepth 100000
set_option maxHeartbeats 4000000
namespace Mir
open PySem PySem.Spec L2
def scD (ns : List Int) : PyData := .list (ns.map PyData.int)
theorem sc_len (ns : List Int) : gLen [scD ns] = some (.d (.int (ns.length : Nat))) := by
  have : gLen [scD ns] = some (Ow.d (.int (ns.map PyData.int).length)) := rfl
  rw [this, List.length_map]
theorem sc_ix {ns : List Int} {k : Nat} {z : Int} (h : ns[k]? = some z) : gIx (scD ns) (.int (k : Nat)) = some (.int z) := by
  show atI (ns.map PyData.int) _ = _
  exact atI_natD (by rw [List.getElem?_map, h]; rfl)
noncomputable section
abbrev bCell : Ev → SR := (sSeq (sIf (eB (eBin gLt (eVar 1) (eM (eCa gLen (aCons (eVar 0) aNil)) viewD)) asB)
    (sRet (eM (eBin gIx (eVar 0) (eVar 1)) Ow.d))
    sSkip)
    (sRet (eM (eC (.int 0)) Ow.d)))
def scCell (ns : List Int) (k : Nat) : Int := ns.getD k 0
theorem cell_fin (ns : List Int) (k : Nat) : finR (bCell (envOf 0 [scD ns, .int (k : Nat)])) = .ok (.d (.int (scCell ns k))) := by
  have hl := sc_len ns
  unfold scCell
  rw [List.getD_eq_getElem?_getD]
  by_cases h : k < ns.length
  · have ix := sc_ix (List.getElem?_eq_getElem h)
    have h' : (k : Int) < (ns.length : Nat) := by omega
    rw [List.getElem?_eq_getElem h]
    generalize scD ns = S at hl ix
    have he : envOf 0 [S, .int (k : Nat)] = [some (.d S), some (.d (.int (k : Nat)))] := rfl
    rw [he]
    simp [hl, ix, h, h']
  · have h' : ¬ (k : Int) < (ns.length : Nat) := by omega
    rw [List.getElem?_eq_none (by omega)]
    generalize scD ns = S at hl
    have he : envOf 0 [S, .int (k : Nat)] = [some (.d S), some (.d (.int (k : Nat)))] := rfl
    rw [he]
    simp [hl, h, h']
theorem vw_ls (ds : List PyData) : viewD (.l (ds.map Ow.d)) = .list ds := by rw [viewD_l, viewAll_mapd]
theorem shl2 (a b : PyData) : shD (.l [.d a, .d b]) = .ok (.list [a, b]) := shD_l [a, b]
theorem call_okM (m b : Int) : okM (.call m b) := by rw [okM]; trivial
end
end Mir
set_option Elab.async false
set_option linter.all false
set_option maxRecDepth 100000
set_option maxHeartbeats 4000000
namespace Mir
open PySem PySem.Spec L2
def brOf : List Rw → Str → Option (List Str)
  | [], _ => none
  | r :: rs, nm => if r.nm == nm then some r.br else brOf rs nm
def obD : Option (List Str) → D
  | none => .none
  | some bs => brD bs
mutual
def isOf (w : Wood) : Tr → Str → Bool
  | .mk nm _ bs, k => match brOf (rowsOf w k) nm with
    | none => false
    | some ks => decide (ks.length = bs.length) && isOfs w bs ks
def isOfs (w : Wood) : List Tr → List Str → Bool
  | [], _ => true
  | _ :: _, [] => true
  | b :: bs, k :: ks => isOf w b k && isOfs w bs ks
end
theorem isOf_mk (w : Wood) (nm : Str) (mk : Int) (bs : List Tr) (k : Str) : isOf w (.mk nm mk bs) k = match brOf (rowsOf w k) nm with
    | none => false
    | some ks => decide (ks.length = bs.length) && isOfs w bs ks := by rw [isOf]
theorem isOfs_zip (w : Wood) : ∀ (bs : List Tr) (ks : List Str), isOfs w bs ks = (ks.zip bs).all fun p => isOf w p.2 p.1
  | [], ks => by rw [isOfs]; simp
  | b :: bs, [] => by rw [isOfs]; rfl
  | b :: bs, k :: ks => by rw [isOfs, isOfs_zip w bs ks]; rfl
theorem isOfs_at {w : Wood} : ∀ {bs : List Tr} {ks : List Str} {i : Nat} {b : Tr} {k : Str}, isOfs w bs ks = true → bs[i]? = some b → ks[i]? = some k → isOf w b k = true
  | [], ks, i, b, k, h, hb, hk => by simp at hb
  | c :: bs, [], i, b, k, h, hb, hk => by simp at hk
  | c :: bs, z :: ks, 0, b, k, h, hb, hk => by
    rw [isOfs, Bool.and_eq_true] at h
    simp at hb hk
    subst hb hk
    exact h.1
  | c :: bs, z :: ks, i + 1, b, k, h, hb, hk => by
    rw [isOfs, Bool.and_eq_true] at h
    simp at hb hk
    exact isOfs_at h.2 hb hk
noncomputable section
abbrev bRowOf (f1 : List D → R Ow) : Ev → SR := (sSeq (sFor (eB (eM (eB (aCons (eVar 0) (aCons (eVar 1) aNil)) f1) viewD) itD) (gtTup 2 (gtCons (gtName 3) (gtCons (gtName 4) gtNil)))
    (sIf (eB (eBin gEq (eVar 3) (eVar 2)) asB)
    (sRet (eM (eVar 4) Ow.d))
    sSkip))
    (sRet (eM (eC .none) Ow.d)))
theorem brOf_find (nm : Str) : ∀ rs : List Rw, (rs.findSome? fun r => if r.nm == nm then some (Ow.d (brD r.br)) else none) = (brOf rs nm).map fun b => Ow.d (brD b)
  | [] => rfl
  | r :: rs => by
    rw [List.findSome?_cons, brOf]
    cases r.nm == nm with
    | true => rfl
    | false => exact brOf_find nm rs
theorem rowOf_fin {w : Wood} {f1 : List D → R Ow} (k nm : Str) (h1 : ∃ o, f1 [encWd w, .str k] = .ok o ∧ viewD o = rwsD (rowsOf w k)) : finR (bRowOf f1 (envOf 2 [encWd w, .str k, .str nm])) = .ok (.d (obD (brOf (rowsOf w k) nm))) := by
  have he : envOf 2 [encWd w, .str k, .str nm] = [some (.d (encWd w)), some (.d (.str k)), some (.d (.str nm)), none, none] := rfl
  rw [he]
  obtain ⟨o, o1, o2⟩ := h1
  obtain ⟨env', ⟨x3, x4, rfl⟩, lp⟩ := forL_first (g := gtTup 2 (gtCons (gtName 3) (gtCons (gtName 4) gtNil))) (f := sIf (eB (eBin gEq (eVar 3) (eVar 2)) asB)
    (sRet (eM (eVar 4) Ow.d))
    sSkip) encRw (fun r => if r.nm == nm then some (Ow.d (brD r.br)) else none) (fun env => ∃ x3 x4, env = [some (.d (encWd w)), some (.d (.str k)), some (.d (.str nm)), x3, x4]) (rowsOf w k) (fun r _ env ⟨x3, x4, e⟩ => by
      subst e
      refine ⟨[some (.d (encWd w)), some (.d (.str k)), some (.d (.str nm)), some (.d (.str r.nm)), some (.d (brD r.br))], rfl, [some (.d (encWd w)), some (.d (.str k)), some (.d (.str nm)), some (.d (.str r.nm)), some (.d (brD r.br))], ⟨_, _, rfl⟩, ?_⟩
      generalize brD r.br = B
      generalize encWd w = W
      cases c : r.nm == nm <;> simp [gEq_str, c, orRt]) [some (.d (encWd w)), some (.d (.str k)), some (.d (.str nm)), none, none] ⟨none, none, rfl⟩
  rw [brOf_find] at lp
  show finR (sSeq _ _ _) = _
  rw [sSeq_eq, sFor_eq]
  have e3 : (eB (eM (eB (aCons (eVar 0) (aCons (eVar 1) aNil)) f1) viewD) itD) [some (.d (encWd w)), some (.d (.str k)), some (.d (.str nm)), none, none] = .ok ((rowsOf w k).map encRw) := by
    have : itD (rwsD (rowsOf w k)) = .ok ((rowsOf w k).map encRw) := rfl
    generalize rwsD (rowsOf w k) = RS at this o2
    simp [o1, o2, this]
  rw [e3, R.st_ok, lp]
  cases brOf (rowsOf w k) nm with
  | none => simp [orRt, obD]
  | some i => simp [orRt, obD]
abbrev isStep (f3 : List D → R Ow) : Ev → SR := (sIf (tNotE (eB (eM (eB (aCons (eVar 0) (aCons (eVar 4) (aCons (eVar 5) aNil))) f3) viewD) asB))
    (sRet (eM (eC (.bool false)) Ow.d))
    sSkip)
abbrev bIsOf (f2 f3 : List D → R Ow) : Ev → SR := (sSeq (sSet 3 (eM (eM (eB (aCons (eVar 0) (aCons (eVar 1) (aCons (eBin gIx (eVar 2) (eC (.int 0))) aNil))) f2) viewD) Ow.d))
    (sSeq (sIf (tOrE (eB (eBin gIsN (eVar 3) (eC .none)) asB) (eB (eBin gNe (eM (eCa gLen (aCons (eVar 3) aNil)) viewD) (eM (eCa gLen (aCons (eBin gIx (eVar 2) (eC (.int 2))) aNil)) viewD)) asB))
    (sRet (eM (eC (.bool false)) Ow.d))
    sSkip)
    (sSeq (sFor (eB (aCons (eVar 3) (aCons (eBin gIx (eVar 2) (eC (.int 2))) aNil)) zpArg) (gtTup 2 (gtCons (gtName 4) (gtCons (gtName 5) gtNil)))
    (isStep f3))
    (sRet (eM (eC (.bool true)) Ow.d)))))
theorem tup_len (l : List D) : gLen [.tuple l] = some (.d (.int (l.length : Nat))) := rfl
theorem isOf_fin {w : Wood} {f2 f3 : List D → R Ow} (k nm : Str) (mk : Int) (bs : List Tr) (h2 : f2 [encWd w, .str k, .str nm] = .ok (.d (obD (brOf (rowsOf w k) nm)))) (h3 : ∀ b ∈ bs, ∀ k, f3 [encWd w, .str k, encT b] = .ok (.d (.bool (isOf w b k)))) :
    finR (bIsOf f2 f3 (envOf 3 [encWd w, .str k, encT (.mk nm mk bs)])) = .ok (.d (.bool (isOf w (.mk nm mk bs) k))) := by
  have he : envOf 3 [encWd w, .str k, encT (.mk nm mk bs)] = [some (.d (encWd w)), some (.d (.str k)), some (.d (encT (.mk nm mk bs))), none, none, none] := rfl
  rw [he, isOf_mk]
  have i0 := t_ix0 nm mk bs
  have i2 := t_ix2 nm mk bs
  have l2 := tup_len (bs.map encT)
  rw [List.length_map] at l2
  refine fin_step (env1 := [some (.d (encWd w)), some (.d (.str k)), some (.d (encT (.mk nm mk bs))), some (.d (obD (brOf (rowsOf w k) nm))), none, none]) (by
    generalize obD (brOf (rowsOf w k) nm) = O at h2 ⊢
    generalize encT (.mk nm mk bs) = T at i0
    generalize encWd w = W at h2
    simp [i0, h2]) ?_
  cases brOf (rowsOf w k) nm with
  | none =>
    generalize encT (.mk nm mk bs) = T
    generalize encWd w = W
    have n1 : isNone (PyData.none) = true := rfl
    simp [obD, n1]
  | some ks =>
    have n1 : isNone (brD ks) = false := rfl
    have lk := br_len ks
    show finR (sSeq (sIf _ _ _) (sSeq (sFor _ _ _) _) [some (.d (encWd w)), some (.d (.str k)), some (.d (encT (.mk nm mk bs))), some (.d (brD ks)), none, none]) = _
    have zp : zpArg [brD ks, .tuple (bs.map encT)] = .ok ((ks.zip bs).map fun p => .tuple [.str p.1, encT p.2]) := by
      have : zpArg [brD ks, .tuple (bs.map encT)] = .ok (zipD (ks.map PyData.str) (bs.map encT)) := rfl
      rw [this, zipD_zip]
    by_cases c : ks.length = bs.length
    · have ct : (tOrE (eB (eBin gIsN (eVar 3) (eC .none)) asB) (eB (eBin gNe (eM (eCa gLen (aCons (eVar 3) aNil)) viewD) (eM (eCa gLen (aCons (eBin gIx (eVar 2) (eC (.int 2))) aNil)) viewD)) asB)) [some (.d (encWd w)), some (.d (.str k)), some (.d (encT (.mk nm mk bs))), some (.d (brD ks)), none, none] = .ok false := by
        generalize PyData.tuple (bs.map encT) = TB at i2 l2
        generalize encT (.mk nm mk bs) = T at i2
        generalize encWd w = W
        generalize brD ks = B at n1 lk
        simp [n1, lk, i2, l2, c]
      rw [sSeq_eq, sIf_eq, ct, R.st_ok]
      simp only [Bool.false_eq_true, if_false, sSkip_eq, SR.andThen]
      obtain ⟨env', ⟨x4, x5, rfl⟩, lp⟩ := forL_first (g := gtTup 2 (gtCons (gtName 4) (gtCons (gtName 5) gtNil))) (f := isStep f3) (fun p : Str × Tr => PyData.tuple [.str p.1, encT p.2]) (fun p => noF (isOf w p.2 p.1)) (fun env => ∃ x4 x5, env = [some (.d (encWd w)), some (.d (.str k)), some (.d (encT (.mk nm mk bs))), some (.d (brD ks)), x4, x5]) (ks.zip bs) (fun p hp env ⟨x4, x5, e⟩ => by
        subst e
        refine ⟨[some (.d (encWd w)), some (.d (.str k)), some (.d (encT (.mk nm mk bs))), some (.d (brD ks)), some (.d (.str p.1)), some (.d (encT p.2))], rfl, [some (.d (encWd w)), some (.d (.str k)), some (.d (encT (.mk nm mk bs))), some (.d (brD ks)), some (.d (.str p.1)), some (.d (encT p.2))], ⟨_, _, rfl⟩, ?_⟩
        have hh := h3 p.2 (List.of_mem_zip hp).2 p.1
        generalize encT p.2 = T2 at hh ⊢
        generalize encT (.mk nm mk bs) = T
        generalize encWd w = W at hh
        generalize brD ks = B
        cases cc : isOf w p.2 p.1 with
        | true => rw [cc] at hh; simp [hh, noF_t, orRt]
        | false => rw [cc] at hh; simp [hh, noF_f, orRt]) [some (.d (encWd w)), some (.d (.str k)), some (.d (encT (.mk nm mk bs))), some (.d (brD ks)), none, none] ⟨none, none, rfl⟩
      rw [find_noF] at lp
      rw [sSeq_eq, sFor_eq]
      have e3 : (eB (aCons (eVar 3) (aCons (eBin gIx (eVar 2) (eC (.int 2))) aNil)) zpArg) [some (.d (encWd w)), some (.d (.str k)), some (.d (encT (.mk nm mk bs))), some (.d (brD ks)), none, none] = .ok ((ks.zip bs).map fun p => .tuple [.str p.1, encT p.2]) := by
        generalize PyData.tuple (bs.map encT) = TB at i2 zp
        generalize encT (.mk nm mk bs) = T at i2
        generalize encWd w = W
        generalize brD ks = B at zp
        simp [i2, zp]
      rw [e3, R.st_ok, lp, decide_eq_true c, Bool.true_and, isOfs_zip]
      cases (ks.zip bs).all fun p => isOf w p.2 p.1 with
      | true => simp [noF_t, orRt]
      | false => simp [noF_f, orRt]
    · have c' : ¬ ((ks.length : Nat) : Int) = (bs.length : Nat) := by omega
      simp only [decide_eq_false c, Bool.false_and]
      generalize PyData.tuple (bs.map encT) = TB at i2 l2
      generalize encT (.mk nm mk bs) = T at i2
      generalize encWd w = W
      generalize brD ks = B at n1 lk
      simp [n1, lk, i2, l2, c']
abbrev bLook (f3 : List D → R Ow) : Ev → SR := (sIf (tNotE (eB (eM (eB (aCons (eBin gIx (eVar 0) (eC (.int 0))) (aCons (eVar 1) (aCons (eVar 2) aNil))) f3) viewD) asB))
    (sRaise "NoTree")
    sSkip)
theorem look_fin {t : Trn} {f3 : List D → R Ow} (k : Str) (u : Tr) (h3 : f3 [encWd t.wood, .str k, encT u] = .ok (.d (.bool (isOf t.wood u k)))) : finR (bLook f3 (envOf 0 [encTn t, .str k, encT u])) = if isOf t.wood u k = true then .ok (.d .none) else .ex "NoTree" := by
  have he : envOf 0 [encTn t, .str k, encT u] = [some (.d (encTn t)), some (.d (.str k)), some (.d (encT u))] := rfl
  rw [he]
  have i0 := w_ix0 t
  generalize encT u = U at h3
  generalize encWd t.wood = W at i0 h3
  generalize encTn t = T at i0
  cases c : isOf t.wood u k with
  | true => rw [c] at h3; simp [i0, h3]
  | false => rw [c] at h3; simp [i0, h3]
abbrev bAbove : Ev → SR := (sRet (eM (eTup (aCons (eC (.str "")) (aCons (eC (.int 0)) (aCons (eTup (aCons (eVar 0) aNil)) aNil)))) Ow.d))
def aboveT (u : Tr) : Tr := .mk "" 0 [u]
theorem above_fin (u : Tr) : finR (bAbove (envOf 0 [encT u])) = .ok (.d (encT (aboveT u))) := by
  have he : envOf 0 [encT u] = [some (.d (encT u))] := rfl
  have e2 : encT (aboveT u) = .tuple [.str "", .int 0, .tuple [encT u]] := by unfold aboveT; rw [encT_mk]; rfl
  rw [he, e2]
  generalize encT u = U
  simp [sizeLine_eq]
abbrev bMarkOf : Ev → SR := (sSeq (sIf (eB (eBin gIx (eVar 0) (eC (.int 2))) asB)
    (sRet (eBinO gAdd (eBin gIx (eVar 0) (eC (.int 3))) (eBin gIx (eVar 1) (eC (.int 1)))))
    sSkip)
    (sRet (eM (eBin gIx (eVar 0) (eC (.int 3))) Ow.d)))
def mkOf (kp : Bool) (ad mk : Int) : Int := if kp then ad + mk else ad
theorem markOf_fin (nm : Str) (kp : Bool) (ad : Int) (ps : List Trm) (n2 : Str) (mk : Int) (bs : List Tr) : finR (bMarkOf (envOf 0 [encM (.put nm kp ad ps), encT (.mk n2 mk bs)])) = .ok (.d (.int (mkOf kp ad mk))) := by
  have he : envOf 0 [encM (.put nm kp ad ps), encT (.mk n2 mk bs)] = [some (.d (encM (.put nm kp ad ps))), some (.d (encT (.mk n2 mk bs)))] := rfl
  rw [he]
  have i2 := m_ix2 nm kp ad ps
  have i3 := m_ix3 nm kp ad ps
  have j1 := t_ix1 n2 mk bs
  unfold mkOf
  generalize encM (.put nm kp ad ps) = T at i2 i3
  generalize encT (.mk n2 mk bs) = U at j1
  cases kp <;> simp [i2, i3, j1]
end
end Mir
set_option Elab.async false
set_option linter.all false
set_option maxRecDepth 100000
set_option maxHeartbeats 4000000
namespace Mir
open PySem PySem.Spec L2
def onStep (i : Int) (l : List Int) (c : Int × Int) : List Int := if c.2 = i ∧ c.1 ∉ l then l ++ [c.1] else l
def onAll (i : Int) (cs : List (Int × Int)) (l : List Int) : List Int := cs.foldl (onStep i) l
theorem onAll_cons (i : Int) (c : Int × Int) (cs : List (Int × Int)) (l : List Int) : onAll i (c :: cs) l = onAll i cs (onStep i l c) := rfl
theorem onAll_app (i : Int) (a b : List (Int × Int)) (l : List Int) : onAll i (a ++ b) l = onAll i b (onAll i a l) := List.foldl_append
theorem onStep_mem (i : Int) (l : List Int) (c : Int × Int) (m : Int) : m ∈ onStep i l c ↔ m ∈ l ∨ (m, i) = c := by
  unfold onStep
  obtain ⟨a, b⟩ := c
  split
  · rename_i h
    obtain ⟨h1, h2⟩ := h
    simp only at h1 h2
    subst h1
    simp
  · rename_i h
    constructor
    · exact fun q => .inl q
    · rintro (q | q)
      · exact q
      · cases q
        by_cases h2 : m ∈ l
        · exact h2
        · exact absurd ⟨rfl, h2⟩ h
theorem onStep_nd {i : Int} {l : List Int} {c : Int × Int} (h : l.Nodup) : (onStep i l c).Nodup := by
  unfold onStep
  split
  · rename_i q
    rw [List.nodup_append]
    refine ⟨h, by simp, ?_⟩
    intro a ha b hb e
    rw [List.mem_singleton.mp hb] at e
    exact q.2 (e ▸ ha)
  · exact h
theorem onStep_len (i : Int) (l : List Int) (c : Int × Int) : (onStep i l c).length ≤ l.length + 1 := by
  unfold onStep
  split
  · simp
  · omega
theorem onAll_mem (i : Int) : ∀ (cs : List (Int × Int)) (l : List Int) (m : Int), m ∈ onAll i cs l ↔ m ∈ l ∨ (m, i) ∈ cs
  | [], l, m => by show m ∈ l ↔ _; simp
  | c :: cs, l, m => by
    rw [onAll_cons, onAll_mem i cs, onStep_mem, List.mem_cons]
    constructor
    · rintro ((h | h) | h)
      · exact .inl h
      · exact .inr (.inl h)
      · exact .inr (.inr h)
    · rintro (h | h | h)
      · exact .inl (.inl h)
      · exact .inl (.inr h)
      · exact .inr h
theorem onAll_nd {i : Int} : ∀ (cs : List (Int × Int)) {l : List Int}, l.Nodup → (onAll i cs l).Nodup
  | [], l, h => h
  | c :: cs, l, h => onAll_nd cs (onStep_nd h)
theorem onAll_len (i : Int) : ∀ (cs : List (Int × Int)) (l : List Int), (onAll i cs l).length ≤ l.length + cs.length
  | [], l => by show l.length ≤ _; simp
  | c :: cs, l => by
    have a := onAll_len i cs (onStep i l c)
    have b := onStep_len i l c
    rw [onAll_cons, List.length_cons]
    omega
def risen (l : List Int) : List Int := l.mergeSort fun a b => decide (a ≤ b)
theorem risen_perm (l : List Int) : (risen l).Perm l := List.mergeSort_perm _ _
theorem risen_up {l : List Int} (h : l.Nodup) : (risen l).Pairwise (· < ·) := by
  have a : (risen l).Pairwise fun a b => decide (a ≤ b) = true := List.pairwise_mergeSort (fun a b c => by simp only [decide_eq_true_eq]; omega) (fun a b => by simp only [Bool.or_eq_true, decide_eq_true_eq]; omega) _
  have b : (risen l).Nodup := (risen_perm l).nodup_iff.mpr h
  exact (a.and b).imp fun h => by have h1 := h.1; rw [decide_eq_true_eq] at h1; have := h.2; omega
theorem sorted_risen {l : List Int} (h : l.Nodup) : sortedD (l.map PyData.int) = (risen l).map PyData.int := sortedI_eq (risen_perm l) (risen_up h)
theorem setM_put_in {l : List Int} {i : Int} (h : i ∈ l) : putP (setM l) (.int i) (.bool true) = setM l := by
  unfold putP
  rw [setM_any, if_pos (by simpa using h)]
  unfold setM
  rw [List.map_map]
  refine List.map_congr_left fun j _ => ?_
  show (if keyEq (.int j) (.int i) = true then _ else _) = _
  split <;> rfl
noncomputable section
abbrev onIn : Ev → SR := (sIf (eB (eBin gEq (eVar 5) (eVar 1)) asB)
    (sPutM 2 (eC (.bool true)) (eVar 4))
    sSkip)
abbrev bModesOn (f0 : List D → R Ow) : Ev → SR := (sSeq (sSet 2 eDictNew)
    (sSeq (sFor (eB (eVar 0) itD) (gtName 3)
    (sFor (eB (eM (eB (aCons (eVar 3) aNil) f0) viewD) itD) (gtTup 2 (gtCons (gtName 4) (gtCons (gtName 5) gtNil)))
    onIn))
    (sRet (eSortM 2))))
theorem onIn_ok (TS : D) (i m b : Int) (l : List Int) (x3 : Option Ow) (hl : l.length < 16777216) : onIn [some (.d TS), some (.d (.int i)), some (.m (setM l)), x3, some (.d (.int m)), some (.d (.int b))] = .nx [some (.d TS), some (.d (.int i)), some (.m (setM (onStep i l (m, b)))), x3, some (.d (.int m)), some (.d (.int b))] := by
  have ct : (eB (eBin gEq (eVar 5) (eVar 1)) asB) [some (.d TS), some (.d (.int i)), some (.m (setM l)), x3, some (.d (.int m)), some (.d (.int b))] = .ok (b == i) := by
    generalize setM l = M
    simp
  show sIf _ _ _ _ = _
  rw [sIf_eq, ct, R.st_ok]
  unfold onStep
  by_cases c : b = i
  · subst c
    have ll : (setM l).length < 16777216 := by unfold setM; rw [List.length_map]; exact hl
    rw [beq_self_eq_true, if_pos rfl, sPutM_eq, eC_eq, R.st_ok, putM_of (ps := setM l) rfl, eVar_4, R.st_ok, if_pos ⟨rfl, by rw [sizeLine_eq]; exact ll⟩]
    by_cases h : m ∈ l
    · rw [setM_put_in h, if_neg (fun q => q.2 h)]
      rfl
    · rw [setM_put h, if_pos ⟨rfl, h⟩]
      rfl
  · rw [if_neg (by simpa using c), if_neg (fun q => c q.1)]
    rfl
theorem onFor_ok (TS : D) (i : Int) (x3 : Option Ow) : ∀ (cs : List (Int × Int)) (l : List Int) (x4 x5 : Option Ow), l.length + cs.length < 16777216 → ∃ y4 y5, forL (gtTup 2 (gtCons (gtName 4) (gtCons (gtName 5) gtNil))) onIn (cs.map encC) [some (.d TS), some (.d (.int i)), some (.m (setM l)), x3, x4, x5] = .nx [some (.d TS), some (.d (.int i)), some (.m (setM (onAll i cs l))), x3, y4, y5]
  | [], l, x4, x5, _ => ⟨x4, x5, rfl⟩
  | (m, b) :: cs, l, x4, x5, h => by
    rw [List.length_cons] at h
    have e := onIn_ok TS i m b l x3 (by omega)
    have sl := onStep_len i l (m, b)
    obtain ⟨y4, y5, q⟩ := onFor_ok TS i x3 cs (onStep i l (m, b)) (some (.d (.int m))) (some (.d (.int b))) (by omega)
    refine ⟨y4, y5, ?_⟩
    rw [List.map_cons, forL]
    have g : gtTup 2 (gtCons (gtName 4) (gtCons (gtName 5) gtNil)) (encC (m, b)) [some (.d TS), some (.d (.int i)), some (.m (setM l)), x3, x4, x5] = some [some (.d TS), some (.d (.int i)), some (.m (setM l)), x3, some (.d (.int m)), some (.d (.int b))] := rfl
    rw [g]
    simp only [e]
    exact q
/-- the modes in which terms call a branch, rising -/
def modesOn (i : Int) (Ts : List Trm) : List Int := risen (onAll i (callsMs Ts) [])
theorem modesOn_mem (i : Int) (Ts : List Trm) (m : Int) : m ∈ modesOn i Ts ↔ ∃ T ∈ Ts, (m, i) ∈ callsM T := by
  unfold modesOn
  rw [(risen_perm _).mem_iff, onAll_mem, callsMs_flat, List.mem_flatten]
  simp only [List.not_mem_nil, false_or, List.mem_map]
  constructor
  · rintro ⟨l, ⟨T, hT, rfl⟩, h⟩
    exact ⟨T, hT, h⟩
  · rintro ⟨T, hT, h⟩
    exact ⟨_, ⟨T, hT, rfl⟩, h⟩
theorem modesOn_nd (i : Int) (Ts : List Trm) : (modesOn i Ts).Nodup := (risen_perm _).nodup_iff.mpr (onAll_nd _ List.nodup_nil)
theorem modesOn_fin {f0 : List D → R Ow} (i : Int) (Ts : List Trm) (hl : (callsMs Ts).length < 16777216) (h0 : ∀ T ∈ Ts, f0 [encM T] = .ok (encCs (callsM T))) : finR (bModesOn f0 (envOf 4 [trsD Ts, .int i])) = .ok (.l ((modesOn i Ts).map fun m => .d (.int m))) := by
  have he : envOf 4 [trsD Ts, .int i] = [some (.d (trsD Ts)), some (.d (.int i)), none, none, none, none] := rfl
  rw [he]
  have t0 : itD (trsD Ts) = .ok (Ts.map encM) := rfl
  generalize trsD Ts = TS at t0
  refine fin_step (env1 := [some (.d TS), some (.d (.int i)), some (.m (setM [])), none, none, none]) rfl ?_
  obtain ⟨env', e1, x3, x4, x5, e2⟩ := forL_map (g := gtName 3) (f := sFor (eB (eM (eB (aCons (eVar 3) aNil) f0) viewD) itD) (gtTup 2 (gtCons (gtName 4) (gtCons (gtName 5) gtNil)))
    onIn) encM Ts (fun k env => ∃ x3 x4 x5, env = [some (.d TS), some (.d (.int i)), some (.m (setM (onAll i (callsMs (Ts.take k)) []))), x3, x4, x5]) (fun k T env hT ⟨x3, x4, x5, e⟩ => by
      subst e
      have h := h0 T (List.mem_of_getElem? hT)
      have l1 := callsMs_len (ps := Ts) (k + 1)
      rw [callsMs_take hT] at l1 ⊢
      rw [List.length_append] at l1
      have l2 := onAll_len i (callsMs (Ts.take k)) []
      rw [List.length_nil] at l2
      obtain ⟨y4, y5, q⟩ := onFor_ok TS i (some (.d (encM T))) (callsM T) (onAll i (callsMs (Ts.take k)) []) x4 x5 (by omega)
      refine ⟨[some (.d TS), some (.d (.int i)), some (.m (setM (onAll i (callsMs (Ts.take k)) []))), some (.d (encM T)), x4, x5], rfl, [some (.d TS), some (.d (.int i)), some (.m (setM (onAll i (callsMs (Ts.take k) ++ callsM T) []))), some (.d (encM T)), y4, y5], .inl ?_, _, _, _, rfl⟩
      have vc : viewD (encCs (callsM T)) = .list ((callsM T).map encC) := viewD_of encC (callsM T)
      have it : (eB (eM (eB (aCons (eVar 3) aNil) f0) viewD) itD) [some (.d TS), some (.d (.int i)), some (.m (setM (onAll i (callsMs (Ts.take k)) []))), some (.d (encM T)), x4, x5] = .ok ((callsM T).map encC) := by
        generalize encCs (callsM T) = O at h vc
        generalize setM (onAll i (callsMs (Ts.take k)) []) = M
        simp [h, vc]
      rw [sFor_eq, it, R.st_ok, q, onAll_app]) [some (.d TS), some (.d (.int i)), some (.m (setM [])), none, none, none] ⟨none, none, none, rfl⟩
  subst e2
  rw [List.take_length] at e1
  refine fin_step (env1 := [some (.d TS), some (.d (.int i)), some (.m (setM (onAll i (callsMs Ts) []))), x3, x4, x5]) (by
    rw [sFor_eq]
    have : (eB (eVar 0) itD) [some (.d TS), some (.d (.int i)), some (.m (setM [])), none, none, none] = .ok (Ts.map encM) := by simp [t0]
    rw [this, R.st_ok]
    exact e1) ?_
  rw [sRet_eq, eSortM_of (ps := setM (onAll i (callsMs Ts) [])) rfl, setM_keys, sortOk_ints, if_pos rfl, sorted_risen (onAll_nd _ List.nodup_nil), List.map_map]
  rfl
end
def trNm : Tr → Str
  | .mk n _ _ => n
def trBs : Tr → List Tr
  | .mk _ _ bs => bs
def noTm : Trm := .call 0 0
def noTr : Tr := .mk "" 0 []
/-- the rule of a mode for a name -/
def ruleT (t : Trn) (m : Int) (nm : Str) : Option Trm := match t.modes[m.toNat]? with
  | none => none
  | some p => match numOf (rowsOf t.wood p.1) nm 0 with
    | none => none
    | some i => p.2[i]?
def ruleF (t : Trn) (m : Int) (nm : Str) : Trm := (ruleT t m nm).getD noTm
mutual
def madB (mk : Int) (fs : List (Int → Tr)) : Trm → Tr
  | .call m b => (fs.getD b.toNat fun _ => noTr) m
  | .put nm kp ad ps => .mk nm (mkOf kp ad mk) (madBs mk fs ps)
def madBs (mk : Int) (fs : List (Int → Tr)) : List Trm → List Tr
  | [] => []
  | p :: ps => madB mk fs p :: madBs mk fs ps
end
theorem madBs_map (mk : Int) (fs : List (Int → Tr)) : ∀ ps, madBs mk fs ps = ps.map (madB mk fs)
  | [] => by rw [madBs]; rfl
  | p :: ps => by rw [madBs, madBs_map mk fs ps]; rfl
mutual
def madT (t : Trn) : Tr → Trm → Tr
  | .mk _ mk bs => madB mk (madTs t bs)
def madTs (t : Trn) : List Tr → List (Int → Tr)
  | [] => []
  | b :: bs => (fun m => madT t b (ruleF t m (trNm b))) :: madTs t bs
end
theorem madTs_map (t : Trn) : ∀ bs, madTs t bs = bs.map fun b m => madT t b (ruleF t m (trNm b))
  | [] => by rw [madTs]; rfl
  | b :: bs => by rw [madTs, madTs_map t bs]; rfl
theorem madT_call {t : Trn} {nm : Str} {mk : Int} {bs : List Tr} {b : Tr} {m : Int} {i : Nat} (h : bs[i]? = some b) : madT t (.mk nm mk bs) (.call m (i : Nat)) = madT t b (ruleF t m (trNm b)) := by
  rw [madT, madB, madTs_map, List.getD_eq_getElem?_getD, Int.toNat_natCast, List.getElem?_map, h]
  rfl
theorem madT_put (t : Trn) (nm : Str) (mk : Int) (bs : List Tr) (n : Str) (kp : Bool) (ad : Int) (ps : List Trm) : madT t (.mk nm mk bs) (.put n kp ad ps) = .mk n (mkOf kp ad mk) (ps.map (madT t (.mk nm mk bs))) := by
  rw [madT, madB, madBs_map]
/-- size and levels -/
def mesD (o : Tr) : D := .tuple [.int (sizeT o : Nat), .int (levT o : Nat)]
noncomputable section
abbrev mesStep (f10 : List D → R Ow) : Ev → SR := (sSeq (sSet 5 (eM (eM (eB (aCons (eVar 4) (aCons (eVar 1) aNil)) f10) viewD) Ow.d))
    (sSeq (sAug gAddA 2 (eBin gIx (eVar 5) (eC (.int 0))))
    (sSet 3 (eM (eM (eCa gMax2 (aCons (eVar 3) (aCons (eBin gIx (eVar 5) (eC (.int 1))) aNil))) viewD) Ow.d))))
abbrev bMeasure (f10 : List D → R Ow) : Ev → SR := (sSeq (sIf (eB (eBin gEq (eBin gIx (eVar 0) (eC (.int 0))) (eC (.str "call"))) asB)
    (sRet (eM (eBin gGetD (eBin gIx (eVar 1) (eBin gIx (eVar 0) (eC (.int 2)))) (eBin gIx (eVar 0) (eC (.int 1)))) Ow.d))
    sSkip)
    (sSeq (sSet 2 (eM (eC (.int 1)) Ow.d))
    (sSeq (sSet 3 (eM (eC (.int 0)) Ow.d))
    (sSeq (sFor (eB (eBin gIx (eVar 0) (eC (.int 4))) itD) (gtName 4)
    (mesStep f10))
    (sRet (eM (eTup (aCons (eVar 2) (aCons (eM (eBinO gAdd (eVar 3) (eC (.int 1))) viewD) aNil))) Ow.d))))))
theorem measure_call {f10 : List D → R Ow} {m b : Int} {bl : List D} {ps : List (D × D)} {r : D} (hb : atI bl b = some (.dict ps)) (hm : getP ps (.int m) = some r) : finR (bMeasure f10 (envOf 4 [encM (.call m b), .list bl])) = .ok (.d r) := by
  have he : envOf 4 [encM (.call m b), .list bl] = [some (.d (encM (.call m b))), some (.d (.list bl)), none, none, none, none] := rfl
  rw [he]
  have c0 := c_ix0 m b
  have c1 := c_ix1 m b
  have c2 := c_ix2 m b
  generalize encM (.call m b) = E at c0 c1 c2
  simp [c0, c1, c2, hb, hm]
theorem measure_put {f10 : List D → R Ow} {nm : Str} {kp : Bool} {ad : Int} {ps : List Trm} (BL : D) (g : Trm → Tr) (n2 : Str) (k2 : Int) (h : ∀ p ∈ ps, f10 [encM p, BL] = .ok (.d (mesD (g p)))) : finR (bMeasure f10 (envOf 4 [encM (.put nm kp ad ps), BL])) = .ok (.d (mesD (.mk n2 k2 (ps.map g)))) := by
  have he : envOf 4 [encM (.put nm kp ad ps), BL] = [some (.d (encM (.put nm kp ad ps))), some (.d BL), none, none, none, none] := rfl
  rw [he]
  obtain ⟨env', e1, x4, x5, e2⟩ := forL_map (g := gtName 4) (f := mesStep f10) encM ps
    (fun i env => ∃ x4 x5, env = [some (.d (encM (.put nm kp ad ps))), some (.d BL), some (.d (.int ((1 + sizeTs ((ps.take i).map g) : Nat) : Int))), some (.d (.int ((levTs ((ps.take i).map g) : Nat) : Int))), x4, x5]) (fun i p env hp ⟨x4, x5, he⟩ => by
      subst he
      have hm := h p (List.mem_of_getElem? hp)
      refine ⟨[some (.d (encM (.put nm kp ad ps))), some (.d BL), some (.d (.int ((1 + sizeTs ((ps.take i).map g) : Nat) : Int))), some (.d (.int ((levTs ((ps.take i).map g) : Nat) : Int))), some (.d (encM p)), x5], rfl, [some (.d (encM (.put nm kp ad ps))), some (.d BL), some (.d (.int ((1 + sizeTs ((ps.take (i + 1)).map g) : Nat) : Int))), some (.d (.int ((levTs ((ps.take (i + 1)).map g) : Nat) : Int))), some (.d (encM p)), some (.d (mesD (g p)))], .inl ?_, _, _, rfl⟩
      have tk : (ps.take (i + 1)).map g = (ps.take i).map g ++ [g p] := by rw [List.take_add_one, hp, List.map_append]; rfl
      have sz : ((1 + sizeTs ((ps.take (i + 1)).map g) : Nat) : Int) = ((1 + sizeTs ((ps.take i).map g) : Nat) : Int) + (sizeT (g p) : Nat) := by
        rw [tk, sizeTs_sum, sizeTs_sum, List.map_append, List.sum_append, List.map_cons, List.map_nil, List.sum_cons, List.sum_nil]
        generalize (List.map sizeT (List.map g (List.take i ps))).sum = A
        omega
      have lv : ((levTs ((ps.take (i + 1)).map g) : Nat) : Int) = if ((levT (g p) : Nat) : Int) > ((levTs ((ps.take i).map g) : Nat) : Int) then ((levT (g p) : Nat) : Int) else ((levTs ((ps.take i).map g) : Nat) : Int) := by
        rw [tk]
        have : ∀ a : List Tr, levTs (a ++ [g p]) = max (levTs a) (levT (g p)) := fun a => by
          induction a with
          | nil => simp only [List.nil_append, levTs]; omega
          | cons b bs ih => simp only [List.cons_append, levTs]; rw [ih]; omega
        rw [this]
        split <;> omega
      rw [sz, lv]
      have m0 : gIx (mesD (g p)) (.int 0) = some (.int (sizeT (g p) : Nat)) := by unfold mesD; simp
      have m1 : gIx (mesD (g p)) (.int 1) = some (.int (levT (g p) : Nat)) := by unfold mesD; simp
      generalize mesD (g p) = M at hm m0 m1
      generalize encM (.put nm kp ad ps) = E
      generalize encM p = P at hm
      generalize ((1 + sizeTs ((ps.take i).map g) : Nat) : Int) = A
      generalize ((levTs ((ps.take i).map g) : Nat) : Int) = B
      generalize ((sizeT (g p) : Nat) : Int) = C at m0
      generalize ((levT (g p) : Nat) : Int) = F at m1
      simp [hm, m0, m1]) [some (.d (encM (.put nm kp ad ps))), some (.d BL), some (.d (.int 1)), some (.d (.int 0)), none, none] ⟨none, none, by simp [sizeTs, levTs]⟩
  subst e2
  rw [List.take_length] at e1
  have e0 := m_ix0 nm kp ad ps
  have e4 := m_ix4 nm kp ad ps
  have ct : (eB (eBin gEq (eBin gIx (eVar 0) (eC (.int 0))) (eC (.str "call"))) asB) [some (.d (encM (.put nm kp ad ps))), some (.d BL), none, none, none, none] = .ok false := by
    generalize encM (.put nm kp ad ps) = E at e0
    simp [e0]
  show finR (sSeq _ _ _) = _
  rw [sSeq_eq, sIf_eq, ct, R.st_ok]
  simp only [Bool.false_eq_true, if_false, sSkip_eq, SR.andThen]
  refine fin_step (env1 := [some (.d (encM (.put nm kp ad ps))), some (.d BL), some (.d (.int 1)), none, none, none]) (by generalize encM (.put nm kp ad ps) = E; simp) ?_
  refine fin_step (env1 := [some (.d (encM (.put nm kp ad ps))), some (.d BL), some (.d (.int 1)), some (.d (.int 0)), none, none]) (by generalize encM (.put nm kp ad ps) = E; simp) ?_
  refine fin_step ?_ ?_ (env1 := [some (.d (encM (.put nm kp ad ps))), some (.d BL), some (.d (.int ((1 + sizeTs (ps.map g) : Nat) : Int))), some (.d (.int ((levTs (ps.map g) : Nat) : Int))), x4, x5])
  · rw [sFor_eq]
    have it : (eB (eBin gIx (eVar 0) (eC (.int 4))) itD) [some (.d (encM (.put nm kp ad ps))), some (.d BL), some (.d (.int 1)), some (.d (.int 0)), none, none] = .ok (ps.map encM) := by
      have : itD (.tuple (ps.map encM)) = .ok (ps.map encM) := rfl
      generalize PyData.tuple (ps.map encM) = PS at e4 this
      generalize encM (.put nm kp ad ps) = E at e4
      simp [e4, this]
    rw [it, R.st_ok, e1]
  · have : mesD (.mk n2 k2 (ps.map g)) = .tuple [.int ((1 + sizeTs (ps.map g) : Nat) : Int), .int (((levTs (ps.map g) : Nat) : Int) + 1)] := by unfold mesD; rw [sizeT, levT]; rfl
    rw [this]
    generalize encM (.put nm kp ad ps) = E
    generalize ((1 + sizeTs (ps.map g) : Nat) : Int) = A
    generalize ((levTs (ps.map g) : Nat) : Int) = B
    simp [sizeLine_eq]
end
end Mir
set_option Elab.async false
set_option linter.all false
set_option maxRecDepth 100000
set_option maxHeartbeats 4000000
namespace Mir
open PySem PySem.Spec L2
/-- the calls of a term fit branches of these kinds -/
def FitT (t : Trn) (ks : List Str) (T : Trm) : Prop := ∀ c ∈ callsM T, 0 ≤ c.1 ∧ 0 ≤ c.2 ∧ ∃ p, t.modes[c.1.toNat]? = some p ∧ ks[c.2.toNat]? = some p.1
structure GoodM (B : Nat) (T : Trm) : Prop where
  ok : okM T
  lev : levM T ≤ B
  few : sizeM T ≤ 1000
structure SndT (t : Trn) (B : Nat) : Prop where
  few : t.modes.length ≤ 1000
  wide : ∀ k nm ks, brOf (rowsOf t.wood k) nm = some ks → ks.length ≤ 1000
  lens : ∀ p ∈ t.modes, p.2.length = (rowsOf t.wood p.1).length
  fits : ∀ p ∈ t.modes, ∀ (i : Nat) (row : Rw) (T : Trm), (rowsOf t.wood p.1)[i]? = some row → p.2[i]? = some T → FitT t row.br T ∧ GoodM B T
theorem calls_lenM : ∀ t : Trm, (callsM t).length ≤ sizeM t
  | .call m b => by rw [callsM, sizeM]; simp
  | .put nm kp ad ps => by
    rw [callsM, sizeM]
    have := go ps
    omega
where go : ∀ ps : List Trm, (callsMs ps).length ≤ sizeMs ps
  | [] => by simp [callsMs]
  | p :: ps => by
    rw [callsMs, sizeMs, List.length_append]
    have := calls_lenM p
    have := go ps
    omega
theorem sizeMs_memM : ∀ {ps : List Trm} {p : Trm}, p ∈ ps → sizeM p ≤ sizeMs ps
  | q :: ps, p, h => by
    rw [sizeMs]
    rcases List.mem_cons.mp h with rfl | h
    · omega
    · have := sizeMs_memM h
      omega
theorem callsMs_few {Ts : List Trm} {B : Nat} (h : ∀ T ∈ Ts, sizeM T ≤ B) : (callsMs Ts).length ≤ Ts.length * B := by
  induction Ts with
  | nil => simp [callsMs]
  | cons T Ts ih =>
    rw [callsMs, List.length_append, List.length_cons, Nat.add_mul]
    have a := calls_lenM T
    have b := h T List.mem_cons_self
    have c := ih fun U hU => h U (List.mem_cons_of_mem _ hU)
    omega
theorem kind_br {w : Wood} {b : Tr} {k : Str} (h : isOf w b k = true) : ∃ ks, brOf (rowsOf w k) (trNm b) = some ks ∧ ks.length = (trBs b).length ∧ isOfs w (trBs b) ks = true := by
  obtain ⟨nm, mk, bs⟩ := b
  rw [isOf_mk] at h
  cases hr : brOf (rowsOf w k) nm with
  | none => rw [hr] at h; cases h
  | some ks =>
    rw [hr] at h
    rw [Bool.and_eq_true, decide_eq_true_eq] at h
    exact ⟨ks, hr, h.1, h.2⟩
theorem fit_put {t : Trn} {ks : List Str} {nm : Str} {kp : Bool} {ad : Int} {ps : List Trm} (h : FitT t ks (.put nm kp ad ps)) : ∀ p ∈ ps, FitT t ks p := fun p hp c hc => h c (by rw [callsM, callsMs_flat, List.mem_flatten]; exact ⟨_, List.mem_map.mpr ⟨p, hp, rfl⟩, hc⟩)
theorem brOf_num {nm : Str} : ∀ {rs : List Rw} {ks : List Str} (k : Nat), brOf rs nm = some ks → ∃ i row, numOf rs nm k = some (k + i) ∧ rs[i]? = some row ∧ row.br = ks
  | [], ks, k, h => by cases h
  | r :: rs, ks, k, h => by
    rw [brOf] at h
    rw [numOf]
    split at h
    · rename_i c
      rw [if_pos c]
      cases h
      exact ⟨0, r, rfl, rfl, rfl⟩
    · rename_i c
      rw [if_neg c]
      obtain ⟨i, row, a1, a2, a3⟩ := brOf_num (k + 1) h
      exact ⟨i + 1, row, by rw [a1]; congr 1; omega, by rw [List.getElem?_cons_succ]; exact a2, a3⟩
theorem rule_ex {t : Trn} {B : Nat} (ok : SndT t B) {m : Nat} {p : Str × List Trm} {b : Tr} (hm : t.modes[m]? = some p) (hb : isOf t.wood b p.1 = true) : ∃ ks, ruleOf t.wood p (trNm b) = encM (ruleF t (m : Int) (trNm b)) ∧ ks.length = (trBs b).length ∧ isOfs t.wood (trBs b) ks = true ∧ FitT t ks (ruleF t (m : Int) (trNm b)) ∧ GoodM B (ruleF t (m : Int) (trNm b)) ∧ brOf (rowsOf t.wood p.1) (trNm b) = some ks := by
  obtain ⟨nm, mk, bs⟩ := b
  rw [isOf_mk] at hb
  show ∃ ks, ruleOf t.wood p nm = encM (ruleF t (m : Int) nm) ∧ ks.length = bs.length ∧ isOfs t.wood bs ks = true ∧ FitT t ks (ruleF t (m : Int) nm) ∧ GoodM B (ruleF t (m : Int) nm) ∧ brOf (rowsOf t.wood p.1) nm = some ks
  cases hr : brOf (rowsOf t.wood p.1) nm with
  | none => rw [hr] at hb; cases hb
  | some ks =>
    rw [hr] at hb
    rw [Bool.and_eq_true, decide_eq_true_eq] at hb
    obtain ⟨i, row, a1, a2, a3⟩ := brOf_num 0 hr
    have pm := List.mem_of_getElem? hm
    have ln := ok.lens p pm
    have il : i < p.2.length := by rw [ln]; exact (List.getElem?_eq_some_iff.mp a2).1
    have ti := List.getElem?_eq_getElem il
    have a1' : numOf (rowsOf t.wood p.1) nm 0 = some i := by rw [a1]; congr 1; omega
    have f1 : ruleF t (m : Int) nm = p.2[i] := by
      unfold ruleF ruleT
      rw [Int.toNat_natCast, hm]
      show ((match numOf (rowsOf t.wood p.1) nm 0 with
        | none => none
        | some i => p.2[i]?).getD noTm) = _
      rw [a1']
      show (p.2[i]?).getD noTm = _
      rw [ti]
      rfl
    have f2 : ruleOf t.wood p nm = encM p.2[i] := by
      unfold ruleOf
      rw [a1']
      show (match p.2[i]? with
        | some t => encM t
        | none => .none) = _
      rw [ti]
    obtain ⟨g1, g2⟩ := ok.fits p pm i row _ a2 ti
    rw [f1]
    subst a3
    exact ⟨row.br, f2, hb.1, hb.2, g1, g2, rfl⟩
theorem up_few {n : Nat} : ∀ {l : List Int} {a : Nat}, l.Pairwise (· < ·) → (∀ m ∈ l, (a : Int) ≤ m ∧ m < (n : Int)) → l.length ≤ n - a
  | [], a, _, _ => by simp
  | x :: xs, a, hp, h => by
    rw [List.pairwise_cons] at hp
    obtain ⟨h1, h2⟩ := h x List.mem_cons_self
    obtain ⟨k, rfl⟩ : ∃ k : Nat, x = (k : Int) := ⟨x.toNat, by omega⟩
    have := up_few (a := k + 1) hp.2 fun m hm => ⟨by have := hp.1 m hm; omega, (h m (List.mem_cons_of_mem _ hm)).2⟩
    rw [List.length_cons]
    omega
theorem zipD_same {α : Type} (f g : α → D) : ∀ xs : List α, zipD (xs.map f) (xs.map g) = xs.map fun x => .tuple [f x, g x]
  | [] => rfl
  | x :: xs => by rw [List.map_cons, List.map_cons, zipD_cons, zipD_same f g xs]; rfl
theorem putP_new {l : List Int} {V : Int → D} {m : Int} (h : m ∉ l) (v : D) : putP (l.map fun m => (PyData.int m, V m)) (.int m) v = (l.map fun m => (PyData.int m, V m)) ++ [(.int m, v)] := by
  unfold putP
  have : ((l.map fun m => (PyData.int m, V m)).any fun p => keyEq p.1 (.int m)) = false := by
    rw [List.any_map, List.any_eq_false]
    intro j hj e
    have : j = m := by simpa [keyEq] using e
    exact h (this ▸ hj)
  rw [this, if_neg (by decide)]
theorem getP_in {V : Int → D} {m : Int} : ∀ {l : List Int}, m ∈ l → getP (l.map fun m => (PyData.int m, V m)) (.int m) = some (V m)
  | [], h => by cases h
  | j :: l, h => by
    unfold getP
    rw [List.map_cons, List.find?_cons]
    by_cases c : j = m
    · subst c
      have : keyEq (PyData.int j) (.int j) = true := by simp [keyEq]
      rw [show keyEq ((PyData.int j, V j) : D × D).1 (.int j) = true from this]
      rfl
    · have : keyEq (PyData.int j) (.int m) = false := by simp [keyEq, c]
      rw [show keyEq ((PyData.int j, V j) : D × D).1 (.int m) = false from this]
      have hm : m ∈ l := by
        rcases List.mem_cons.mp h with h | h
        · exact absurd h.symm c
        · exact h
      exact getP_in hm
theorem nd_take {α : Type} {l : List α} {i : Nat} {x : α} (h : l.Nodup) (hi : l[i]? = some x) : x ∉ l.take i := by
  obtain ⟨hl, e⟩ := List.getElem?_eq_some_iff.mp hi
  have : l = l.take i ++ x :: l.drop (i + 1) := by rw [← e, ← List.drop_eq_getElem_cons hl, List.take_append_drop]
  rw [this, List.nodup_append] at h
  intro hx
  exact h.2.2 x hx x List.mem_cons_self rfl
/-- what below_of tells -/
def prsB (t : Trn) (Ts : List Trm) (i : Nat) (b : Tr) : List (D × D) := (modesOn (i : Int) Ts).map fun m => (PyData.int m, mesD (madT t b (ruleF t m (trNm b))))
def belL (t : Trn) (Ts : List Trm) : Nat → List Tr → List D
  | _, [] => []
  | i, b :: bs => .dict (prsB t Ts i b) :: belL t Ts (i + 1) bs
theorem belL_at {t : Trn} {Ts : List Trm} : ∀ {bs : List Tr} {j i : Nat} {b : Tr}, bs[i]? = some b → (belL t Ts j bs)[i]? = some (.dict (prsB t Ts (j + i) b))
  | [], j, i, b, h => by simp at h
  | c :: bs, j, 0, b, h => by
    simp at h
    subst h
    rfl
  | c :: bs, j, i + 1, b, h => by
    rw [belL, List.getElem?_cons_succ]
    rw [List.getElem?_cons_succ] at h
    rw [belL_at h]
    congr 3
    omega
noncomputable section
abbrev belPut (f10 : List D → R Ow) : Ev → SR := (sPutM 10 (eM (eB (aCons (eVar 11) (aCons (eVar 9) aNil)) f10) viewD) (eVar 8))
abbrev belStep (f5 f9 f10 f11 : List D → R Ow) : Ev → SR := (sSeq (sSet 6 (eM (eM (eB (aCons (eVar 1) (aCons (eVar 4) aNil)) f9) viewD) Ow.d))
    (sSeq (sSet 7 (eM (eM (eLc (eB (eVar 6) itD) (gtName 8) cYes (eB (aCons (eVar 0) (aCons (eVar 8) (aCons (eBin gIx (eVar 5) (eC (.int 0))) aNil))) f5) (List.map (·.2) ([("mode", 8)] : List (Str × Nat)))) viewD) Ow.d))
    (sSeq (sSet 9 (eM (eM (eB (aCons (eVar 0) (aCons (eVar 7) (aCons (eVar 5) aNil))) f11) viewD) Ow.d))
    (sSeq (sSet 10 eDictNew)
    (sSeq (sFor (eB (aCons (eVar 6) (aCons (eVar 7) aNil)) zpArg) (gtTup 2 (gtCons (gtName 8) (gtCons (gtName 11) gtNil)))
    (belPut f10))
    (sFrz 10 (sApp 3 (eM (eVar 10) Ow.d))))))))
abbrev bBelow (f5 f9 f10 f11 : List D → R Ow) : Ev → SR := (sSeq (sSet 3 (eLst aNil))
    (sSeq (sFor (eB (aCons (eBin gIx (eVar 2) (eC (.int 2))) aNil) enArg) (gtTup 2 (gtCons (gtName 4) (gtCons (gtName 5) gtNil)))
    (belStep f5 f9 f10 f11))
    (sRetV 3)))
theorem belStep_ok {f5 f9 f10 f11 : List D → R Ow} {TN TS RD EB : D} {nm : Str} {ms : List Int} {j : Nat} {Q : Int → D} {V : Int → D} {BL : List D} {os : List D} (hn : ms.Nodup) (hl : ms.length ≤ 1000) (ho : os.length < 1000) (e0 : gIx EB (.int 0) = some (.str nm))
    (h9 : f9 [TS, .int (j : Nat)] = .ok (.l (ms.map fun m => .d (.int m)))) (h5 : ∀ m ∈ ms, f5 [TN, .int m, .str nm] = .ok (.d (Q m))) (h11 : f11 [TN, .list (ms.map Q), EB] = .ok (.l (BL.map Ow.d))) (h10 : ∀ m ∈ ms, f10 [Q m, .list BL] = .ok (.d (V m))) (x6 x7 x8 x9 x10 x11 : Option Ow) :
    ∃ y6 y7 y8 y9 y10 y11, belStep f5 f9 f10 f11 [some (.d TN), some (.d TS), some (.d RD), some (.l (os.map Ow.d)), some (.d (.int (j : Nat))), some (.d EB), x6, x7, x8, x9, x10, x11] = .nx [some (.d TN), some (.d TS), some (.d RD), some (.l ((os ++ [PyData.dict (ms.map fun m => (PyData.int m, V m))]).map Ow.d)), some (.d (.int (j : Nat))), some (.d EB), y6, y7, y8, y9, y10, y11] := by
  have v9 : viewD (.l (ms.map fun m => .d (.int m))) = .list (ms.map PyData.int) := viewD_of PyData.int ms
  have w9 : viewD (.l (ms.map fun m => .d (Q m))) = .list (ms.map Q) := viewD_of Q ms
  have w11 := vw_ls BL
  have t6 : itD (.list (ms.map PyData.int)) = .ok (ms.map PyData.int) := rfl
  have zp : zpArg [.list (ms.map PyData.int), .list (ms.map Q)] = .ok (ms.map fun m => .tuple [.int m, Q m]) := by
    have : zpArg [.list (ms.map PyData.int), .list (ms.map Q)] = .ok (zipD (ms.map PyData.int) (ms.map Q)) := rfl
    rw [this, zipD_same]
  have oo : (os ++ [PyData.dict (ms.map fun m => (PyData.int m, V m))]).map Ow.d = os.map Ow.d ++ [.d (.dict (ms.map fun m => (PyData.int m, V m)))] := by rw [List.map_append]; rfl
  have ol : (os.map Ow.d).length < 1000 := by rw [List.length_map]; exact ho
  rw [oo]
  generalize os.map Ow.d = OS at ol
  have lc : eLc (eB (eVar 6) itD) (gtName 8) cYes (eB (aCons (eVar 0) (aCons (eVar 8) (aCons (eBin gIx (eVar 5) (eC (.int 0))) aNil))) f5) (List.map (·.2) ([("mode", 8)] : List (Str × Nat))) [some (.d TN), some (.d TS), some (.d RD), some (.l OS), some (.d (.int (j : Nat))), some (.d EB), some (.d (.list (ms.map PyData.int))), x7, x8, x9, x10, x11] = .ok (.l (ms.map fun m => .d (Q m))) := by
    refine eLc_of (ds := ms.map PyData.int) (by
      generalize PyData.list (ms.map PyData.int) = ML at t6
      simp [t6]) (by rw [List.length_map, sizeLine_eq]; omega) (lcR_map PyData.int (fun m => Ow.d (Q m)) ms fun m hm => ?_)
    have h := h5 m hm
    generalize PyData.list (ms.map PyData.int) = ML
    exact ⟨[some (.d TN), some (.d TS), some (.d RD), some (.l OS), some (.d (.int (j : Nat))), some (.d EB), some (.d ML), x7, some (.d (.int m)), x9, x10, x11], by simp [wipeE], rfl, by simp [e0, h]⟩
  obtain ⟨env', e1, x8', x11', e2⟩ := forL_map (g := gtTup 2 (gtCons (gtName 8) (gtCons (gtName 11) gtNil))) (f := belPut f10) (fun m => PyData.tuple [.int m, Q m]) ms
    (fun i env => ∃ x8 x11, env = [some (.d TN), some (.d TS), some (.d RD), some (.l OS), some (.d (.int (j : Nat))), some (.d EB), some (.d (.list (ms.map PyData.int))), some (.d (.list (ms.map Q))), x8, some (.d (.list BL)), some (.m ((ms.take i).map fun m => (PyData.int m, V m))), x11]) (fun i m env hm ⟨x8, x11, e⟩ => by
      subst e
      have h := h10 m (List.mem_of_getElem? hm)
      refine ⟨[some (.d TN), some (.d TS), some (.d RD), some (.l OS), some (.d (.int (j : Nat))), some (.d EB), some (.d (.list (ms.map PyData.int))), some (.d (.list (ms.map Q))), some (.d (.int m)), some (.d (.list BL)), some (.m ((ms.take i).map fun m => (PyData.int m, V m))), some (.d (Q m))], rfl, [some (.d TN), some (.d TS), some (.d RD), some (.l OS), some (.d (.int (j : Nat))), some (.d EB), some (.d (.list (ms.map PyData.int))), some (.d (.list (ms.map Q))), some (.d (.int m)), some (.d (.list BL)), some (.m ((ms.take (i + 1)).map fun m => (PyData.int m, V m))), some (.d (Q m))], .inl ?_, _, _, rfl⟩
      have ll : ((ms.take i).map fun m => (PyData.int m, V m)).length < 16777216 := by rw [List.length_map, List.length_take]; omega
      have pn := putP_new (V := V) (nd_take hn hm) (V m)
      have tk : (ms.take (i + 1)).map (fun m => (PyData.int m, V m)) = ((ms.take i).map fun m => (PyData.int m, V m)) ++ [(PyData.int m, V m)] := by rw [List.take_add_one, hm, List.map_append]; rfl
      rw [tk, ← pn]
      generalize ((ms.take i).map fun m => (PyData.int m, V m)) = PS at ll
      generalize PyData.list (ms.map PyData.int) = ML
      generalize PyData.list (ms.map Q) = RL
      generalize PyData.list BL = BB at h
      have ev : (eM (eB (aCons (eVar 11) (aCons (eVar 9) aNil)) f10) viewD) [some (.d TN), some (.d TS), some (.d RD), some (.l OS), some (.d (.int (j : Nat))), some (.d EB), some (.d ML), some (.d RL), some (.d (.int m)), some (.d BB), some (.m PS), some (.d (Q m))] = .ok (V m) := by simp [h]
      show sPutM _ _ _ _ = _
      rw [sPutM_eq, ev, R.st_ok, putM_of (ps := PS) rfl, eVar_8, R.st_ok, if_pos ⟨rfl, by rw [sizeLine_eq]; exact ll⟩]
      rfl) [some (.d TN), some (.d TS), some (.d RD), some (.l OS), some (.d (.int (j : Nat))), some (.d EB), some (.d (.list (ms.map PyData.int))), some (.d (.list (ms.map Q))), x8, some (.d (.list BL)), some (.m []), x11] ⟨x8, x11, rfl⟩
  subst e2
  rw [List.take_length] at e1
  refine ⟨some (.d (.list (ms.map PyData.int))), some (.d (.list (ms.map Q))), x8', some (.d (.list BL)), some (.d (.dict (ms.map fun m => (PyData.int m, V m)))), x11', ?_⟩
  refine seq_nx (env1 := [some (.d TN), some (.d TS), some (.d RD), some (.l OS), some (.d (.int (j : Nat))), some (.d EB), some (.d (.list (ms.map PyData.int))), x7, x8, x9, x10, x11]) (by
    generalize PyData.list (ms.map PyData.int) = ML at v9
    generalize Ow.l (ms.map fun m => .d (.int m)) = MO at v9 h9
    simp [h9, v9]) ?_
  refine seq_nx (env1 := [some (.d TN), some (.d TS), some (.d RD), some (.l OS), some (.d (.int (j : Nat))), some (.d EB), some (.d (.list (ms.map PyData.int))), some (.d (.list (ms.map Q))), x8, x9, x10, x11]) (by
    rw [sSet_eq, eM_eq, eM_eq, lc, R.map_ok, R.map_ok, w9, R.st_ok]
    rfl) ?_
  refine seq_nx (env1 := [some (.d TN), some (.d TS), some (.d RD), some (.l OS), some (.d (.int (j : Nat))), some (.d EB), some (.d (.list (ms.map PyData.int))), some (.d (.list (ms.map Q))), x8, some (.d (.list BL)), x10, x11]) (by
    generalize PyData.list (ms.map PyData.int) = ML
    generalize PyData.list (ms.map Q) = RL at h11
    generalize Ow.l (BL.map Ow.d) = BO at h11 w11
    generalize PyData.list BL = BB at w11
    simp [h11, w11]) ?_
  refine seq_nx (env1 := [some (.d TN), some (.d TS), some (.d RD), some (.l OS), some (.d (.int (j : Nat))), some (.d EB), some (.d (.list (ms.map PyData.int))), some (.d (.list (ms.map Q))), x8, some (.d (.list BL)), some (.m []), x11]) rfl ?_
  refine seq_nx (env1 := [some (.d TN), some (.d TS), some (.d RD), some (.l OS), some (.d (.int (j : Nat))), some (.d EB), some (.d (.list (ms.map PyData.int))), some (.d (.list (ms.map Q))), x8', some (.d (.list BL)), some (.m (ms.map fun m => (PyData.int m, V m))), x11']) (by
    rw [sFor_eq]
    have it : (eB (aCons (eVar 6) (aCons (eVar 7) aNil)) zpArg) [some (.d TN), some (.d TS), some (.d RD), some (.l OS), some (.d (.int (j : Nat))), some (.d EB), some (.d (.list (ms.map PyData.int))), some (.d (.list (ms.map Q))), x8, some (.d (.list BL)), some (.m []), x11] = .ok (ms.map fun m => .tuple [.int m, Q m]) := by
      generalize PyData.list (ms.map PyData.int) = ML at zp
      generalize PyData.list (ms.map Q) = RL at zp
      simp [zp]
    rw [it, R.st_ok, e1]) ?_
  show sApp 3 (eM (eVar 10) Ow.d) [some (.d TN), some (.d TS), some (.d RD), some (.l OS), some (.d (.int (j : Nat))), some (.d EB), some (.d (.list (ms.map PyData.int))), some (.d (.list (ms.map Q))), x8', some (.d (.list BL)), some (.d (.dict (ms.map fun m => (PyData.int m, V m)))), x11'] = _
  generalize PyData.list (ms.map PyData.int) = ML
  generalize PyData.list (ms.map Q) = RL
  generalize PyData.dict (ms.map fun m => (PyData.int m, V m)) = DD
  have ol' : OS.length < 16777216 := by omega
  simp [sizeLine_eq, ol']
end
end Mir
set_option Elab.async false
set_option linter.all false
set_option maxRecDepth 100000
set_option maxHeartbeats 4000000
namespace Mir
open PySem PySem.Spec L2
noncomputable section
@[simp] theorem R.map_exc {α β : Type} (f : α → β) (c : Str) : R.map f (.ex c) = .ex c := rfl
@[simp] theorem R.bind_exc {α β : Type} (f : α → R β) (c : Str) : R.bind (.ex c) f = .ex c := rfl
@[simp] theorem R.st_exc {α : Type} (env : Ev) (f : α → SR) (c : Str) : (R.ex c : R α).st env f = .ex c env := rfl
@[simp] theorem andThen_exc (c : Str) (env : Ev) (g : Ev → SR) : (SR.ex c env).andThen g = .ex c env := rfl
@[simp] theorem finR_exc (c : Str) (env : Ev) : finR (.ex c env) = .ex c := rfl
/-- what the walk of a branch needs -/
structure BrOk (t : Trn) (Ts : List Trm) (f5 f9 f10 f11 : List D → R Ow) (j : Nat) (b : Tr) : Prop where
  few : (modesOn (j : Int) Ts).length ≤ 1000
  h9 : f9 [trsD Ts, .int (j : Nat)] = .ok (.l ((modesOn (j : Int) Ts).map fun m => .d (.int m)))
  h5 : ∀ m ∈ modesOn (j : Int) Ts, f5 [encTn t, .int m, .str (trNm b)] = .ok (.d (encM (ruleF t m (trNm b))))
  h11 : f11 [encTn t, trsD ((modesOn (j : Int) Ts).map fun m => ruleF t m (trNm b)), encT b] = .ok (.l ((belL t ((modesOn (j : Int) Ts).map fun m => ruleF t m (trNm b)) 0 (trBs b)).map Ow.d))
  h10 : ∀ m ∈ modesOn (j : Int) Ts, f10 [encM (ruleF t m (trNm b)), .list (belL t ((modesOn (j : Int) Ts).map fun m => ruleF t m (trNm b)) 0 (trBs b))] = .ok (.d (mesD (madT t b (ruleF t m (trNm b)))))
theorem below_loop {t : Trn} {Ts : List Trm} {f5 f9 f10 f11 : List D → R Ow} (RD : D) : ∀ (cs : List Tr) (j : Nat) (os : List D) (x4 x5 x6 x7 x8 x9 x10 x11 : Option Ow), (∀ (i : Nat) (b : Tr), cs[i]? = some b → BrOk t Ts f5 f9 f10 f11 (j + i) b) → os.length + cs.length ≤ 1000 →
    ∃ y4 y5 y6 y7 y8 y9 y10 y11, forL (gtTup 2 (gtCons (gtName 4) (gtCons (gtName 5) gtNil))) (belStep f5 f9 f10 f11) (enumD j (cs.map encT)) [some (.d (encTn t)), some (.d (trsD Ts)), some (.d RD), some (.l (os.map Ow.d)), x4, x5, x6, x7, x8, x9, x10, x11] = .nx [some (.d (encTn t)), some (.d (trsD Ts)), some (.d RD), some (.l ((os ++ belL t Ts j cs).map Ow.d)), y4, y5, y6, y7, y8, y9, y10, y11]
  | [], j, os, x4, x5, x6, x7, x8, x9, x10, x11, _, _ => ⟨x4, x5, x6, x7, x8, x9, x10, x11, by rw [belL, List.append_nil]; rfl⟩
  | b :: cs, j, os, x4, x5, x6, x7, x8, x9, x10, x11, h, hl => by
    rw [List.length_cons] at hl
    have h0 := h 0 b rfl
    rw [Nat.add_zero] at h0
    have e0 : gIx (encT b) (.int 0) = some (.str (trNm b)) := by obtain ⟨nm, mk, bs⟩ := b; exact t_ix0 nm mk bs
    have rl : trsD ((modesOn (j : Int) Ts).map fun m => ruleF t m (trNm b)) = .list ((modesOn (j : Int) Ts).map fun m => encM (ruleF t m (trNm b))) := by unfold trsD; rw [List.map_map]; rfl
    have h11 := h0.h11
    rw [rl] at h11
    obtain ⟨y6, y7, y8, y9, y10, y11, q⟩ := belStep_ok (TS := trsD Ts) (RD := RD) (Q := fun m => encM (ruleF t m (trNm b))) (V := fun m => mesD (madT t b (ruleF t m (trNm b)))) (BL := belL t ((modesOn (j : Int) Ts).map fun m => ruleF t m (trNm b)) 0 (trBs b)) (os := os) (modesOn_nd (j : Int) Ts) h0.few (by omega) e0 h0.h9 h0.h5 h11 h0.h10 x6 x7 x8 x9 x10 x11
    obtain ⟨z4, z5, z6, z7, z8, z9, z10, z11, r⟩ := below_loop (t := t) (Ts := Ts) (f5 := f5) (f9 := f9) (f10 := f10) (f11 := f11) RD cs (j + 1) (os ++ [PyData.dict (prsB t Ts j b)]) (some (.d (.int (j : Nat)))) (some (.d (encT b))) y6 y7 y8 y9 y10 y11 (fun i c hc => by
      have := h (i + 1) c hc
      rwa [show j + (i + 1) = j + 1 + i from by omega] at this) (by rw [List.length_append, List.length_singleton]; omega)
    refine ⟨z4, z5, z6, z7, z8, z9, z10, z11, ?_⟩
    rw [List.map_cons, enumD, forL]
    have g : gtTup 2 (gtCons (gtName 4) (gtCons (gtName 5) gtNil)) (.tuple [.int (j : Nat), encT b]) [some (.d (encTn t)), some (.d (trsD Ts)), some (.d RD), some (.l (os.map Ow.d)), x4, x5, x6, x7, x8, x9, x10, x11] = some [some (.d (encTn t)), some (.d (trsD Ts)), some (.d RD), some (.l (os.map Ow.d)), some (.d (.int (j : Nat))), some (.d (encT b)), x6, x7, x8, x9, x10, x11] := rfl
    rw [g]
    simp only [q]
    rw [List.append_assoc] at r
    exact r
theorem below_fin {t : Trn} {Ts : List Trm} {f5 f9 f10 f11 : List D → R Ow} (nm : Str) (mk : Int) (bs : List Tr) (hl : bs.length ≤ 1000) (h : ∀ (i : Nat) (b : Tr), bs[i]? = some b → BrOk t Ts f5 f9 f10 f11 i b) : finR (bBelow f5 f9 f10 f11 (envOf 9 [encTn t, trsD Ts, encT (.mk nm mk bs)])) = .ok (.l ((belL t Ts 0 bs).map Ow.d)) := by
  have he : envOf 9 [encTn t, trsD Ts, encT (.mk nm mk bs)] = [some (.d (encTn t)), some (.d (trsD Ts)), some (.d (encT (.mk nm mk bs))), none, none, none, none, none, none, none, none, none] := rfl
  rw [he]
  obtain ⟨y4, y5, y6, y7, y8, y9, y10, y11, q⟩ := below_loop (t := t) (Ts := Ts) (f5 := f5) (f9 := f9) (f10 := f10) (f11 := f11) (encT (.mk nm mk bs)) bs 0 [] none none none none none none none none (fun i b hb => by rw [Nat.zero_add]; exact h i b hb) (by simpa using hl)
  refine fin_step (env1 := [some (.d (encTn t)), some (.d (trsD Ts)), some (.d (encT (.mk nm mk bs))), some (.l []), none, none, none, none, none, none, none, none]) (by
    generalize encTn t = TN
    generalize trsD Ts = TS
    generalize encT (.mk nm mk bs) = RD
    simp [sizeLine_eq]) ?_
  refine fin_step (env1 := [some (.d (encTn t)), some (.d (trsD Ts)), some (.d (encT (.mk nm mk bs))), some (.l ((belL t Ts 0 bs).map Ow.d)), y4, y5, y6, y7, y8, y9, y10, y11]) (by
    rw [sFor_eq]
    have it : (eB (aCons (eBin gIx (eVar 2) (eC (.int 2))) aNil) enArg) [some (.d (encTn t)), some (.d (trsD Ts)), some (.d (encT (.mk nm mk bs))), some (.l []), none, none, none, none, none, none, none, none] = .ok (enumD 0 (bs.map encT)) := by
      have i2 := t_ix2 nm mk bs
      have en : enArg [.tuple (bs.map encT)] = .ok (enumD 0 (bs.map encT)) := rfl
      generalize PyData.tuple (bs.map encT) = TB at i2 en
      generalize encT (.mk nm mk bs) = RD at i2
      generalize encTn t = TN
      generalize trsD Ts = TS
      simp [i2, en]
    rw [it, R.st_ok]
    exact q) ?_
  rfl
abbrev bMade (f5 f8 f13 : List D → R Ow) : Ev → SR := (sSeq (sIf (eB (eBin gEq (eBin gIx (eVar 1) (eC (.int 0))) (eC (.str "call"))) asB)
    (sSeq (sSet 3 (eM (eBin gIx (eBin gIx (eVar 2) (eC (.int 2))) (eBin gIx (eVar 1) (eC (.int 2)))) Ow.d))
    (sRet (eB (aCons (eVar 0) (aCons (eM (eB (aCons (eVar 0) (aCons (eBin gIx (eVar 1) (eC (.int 1))) (aCons (eBin gIx (eVar 3) (eC (.int 0))) aNil))) f5) viewD) (aCons (eVar 3) aNil))) f13)))
    sSkip)
    (sSeq (sSet 4 (eLst aNil))
    (sSeq (sFor (eB (eBin gIx (eVar 1) (eC (.int 4))) itD) (gtName 5)
    (sApp 4 (eB (aCons (eVar 0) (aCons (eVar 5) (aCons (eVar 2) aNil))) f13)))
    (sRet (eM (eTup (aCons (eBin gIx (eVar 1) (eC (.int 1))) (aCons (eM (eB (aCons (eVar 1) (aCons (eVar 2) aNil)) f8) viewD) (aCons (eM (eCa gTuple (aCons (eB (eVarO 4) shD) aNil)) viewD) aNil)))) Ow.d)))))
theorem made_call {f5 f8 f13 : List D → R Ow} {TN : D} {nm : Str} {mk : Int} {bs : List Tr} {i : Nat} {b : Tr} {m : Int} {RT : D} {r : R Ow} (hb : bs[i]? = some b) (h5 : f5 [TN, .int m, .str (trNm b)] = .ok (.d RT)) (h13 : f13 [TN, RT, encT b] = r) (hr : (∃ o, r = .ok o) ∨ ∃ c, r = .ex c) : finR (bMade f5 f8 f13 (envOf 3 [TN, encM (.call m (i : Nat)), encT (.mk nm mk bs)])) = r := by
  have he : envOf 3 [TN, encM (.call m (i : Nat)), encT (.mk nm mk bs)] = [some (.d TN), some (.d (encM (.call m (i : Nat)))), some (.d (encT (.mk nm mk bs))), none, none, none] := rfl
  rw [he]
  have c0 := c_ix0 m (i : Int)
  have c1 := c_ix1 m (i : Int)
  have c2 := c_ix2 m (i : Int)
  have i2 := t_ix2 nm mk bs
  have ib : gIx (.tuple (bs.map encT)) (.int (i : Nat)) = some (encT b) := by
    show atI (bs.map encT) _ = _
    exact atI_natD (by rw [List.getElem?_map, hb]; rfl)
  have e0 : gIx (encT b) (.int 0) = some (.str (trNm b)) := by obtain ⟨nm, mk, bs⟩ := b; exact t_ix0 nm mk bs
  generalize PyData.tuple (bs.map encT) = TB at i2 ib
  generalize encT (.mk nm mk bs) = RD at i2
  generalize encM (.call m (i : Int)) = E at c0 c1 c2
  generalize encT b = EB at ib e0 h13
  rcases hr with ⟨o, rfl⟩ | ⟨c, rfl⟩ <;> simp [c0, c1, c2, i2, ib, e0, h5, h13]
theorem made_put {f5 f8 f13 : List D → R Ow} {TN RD : D} {nm : Str} {kp : Bool} {ad : Int} {ps : List Trm} {z : Int} (g : Trm → Tr) (hl : ps.length ≤ 1000) (h8 : f8 [encM (.put nm kp ad ps), RD] = .ok (.d (.int z))) (h13 : ∀ p ∈ ps, f13 [TN, encM p, RD] = .ok (.d (encT (g p)))) : finR (bMade f5 f8 f13 (envOf 3 [TN, encM (.put nm kp ad ps), RD])) = .ok (.d (encT (.mk nm z (ps.map g)))) := by
  have he : envOf 3 [TN, encM (.put nm kp ad ps), RD] = [some (.d TN), some (.d (encM (.put nm kp ad ps))), some (.d RD), none, none, none] := rfl
  rw [he]
  have m0 := m_ix0 nm kp ad ps
  have m1 := m_ix1 nm kp ad ps
  have m4 := m_ix4 nm kp ad ps
  have it4 : itD (.tuple (ps.map encM)) = .ok (ps.map encM) := rfl
  obtain ⟨env', e1, x5, e2⟩ := forL_map (g := gtName 5) (f := sApp 4 (eB (aCons (eVar 0) (aCons (eVar 5) (aCons (eVar 2) aNil))) f13)) encM ps
    (fun i env => ∃ x5, env = [some (.d TN), some (.d (encM (.put nm kp ad ps))), some (.d RD), none, some (.l (((ps.take i).map g).map fun t => .d (encT t))), x5]) (fun i p env hp ⟨x5, e⟩ => by
      subst e
      have h := h13 p (List.mem_of_getElem? hp)
      refine ⟨[some (.d TN), some (.d (encM (.put nm kp ad ps))), some (.d RD), none, some (.l (((ps.take i).map g).map fun t => .d (encT t))), some (.d (encM p))], rfl, [some (.d TN), some (.d (encM (.put nm kp ad ps))), some (.d RD), none, some (.l (((ps.take (i + 1)).map g).map fun t => .d (encT t))), some (.d (encM p))], .inl ?_, _, rfl⟩
      have tk : ((ps.take (i + 1)).map g).map (fun t => Ow.d (encT t)) = (((ps.take i).map g).map fun t => .d (encT t)) ++ [.d (encT (g p))] := by rw [List.take_add_one, hp, List.map_append, List.map_append]; rfl
      have ll : (((ps.take i).map g).map fun t => Ow.d (encT t)).length < 16777216 := by rw [List.length_map, List.length_map, List.length_take]; omega
      rw [tk]
      generalize (((ps.take i).map g).map fun t => Ow.d (encT t)) = OS at ll
      generalize encM (.put nm kp ad ps) = E
      generalize encM p = P at h
      simp [h, sizeLine_eq, ll]) [some (.d TN), some (.d (encM (.put nm kp ad ps))), some (.d RD), none, some (.l []), none] ⟨none, rfl⟩
  subst e2
  rw [List.take_length] at e1
  have ct : (eB (eBin gEq (eBin gIx (eVar 1) (eC (.int 0))) (eC (.str "call"))) asB) [some (.d TN), some (.d (encM (.put nm kp ad ps))), some (.d RD), none, none, none] = .ok false := by
    generalize encM (.put nm kp ad ps) = E at m0
    simp [m0]
  show finR (sSeq _ _ _) = _
  rw [sSeq_eq, sIf_eq, ct, R.st_ok]
  simp only [Bool.false_eq_true, if_false, sSkip_eq, SR.andThen]
  refine fin_step (env1 := [some (.d TN), some (.d (encM (.put nm kp ad ps))), some (.d RD), none, some (.l []), none]) (by generalize encM (.put nm kp ad ps) = E; simp [sizeLine_eq]) ?_
  refine fin_step (env1 := [some (.d TN), some (.d (encM (.put nm kp ad ps))), some (.d RD), none, some (.l ((ps.map g).map fun t => .d (encT t))), x5]) (by
    rw [sFor_eq]
    have it : (eB (eBin gIx (eVar 1) (eC (.int 4))) itD) [some (.d TN), some (.d (encM (.put nm kp ad ps))), some (.d RD), none, some (.l []), none] = .ok (ps.map encM) := by
      generalize PyData.tuple (ps.map encM) = PS at m4 it4
      generalize encM (.put nm kp ad ps) = E at m4
      simp [m4, it4]
    rw [it, R.st_ok, e1]) ?_
  have sh : shD (.l ((ps.map g).map fun t => .d (encT t))) = .ok (.list ((ps.map g).map encT)) := unDs_of encT (ps.map g)
  have gt : gTuple [.list ((ps.map g).map encT)] = some (.d (.tuple ((ps.map g).map encT))) := rfl
  have ee : encT (.mk nm z (ps.map g)) = .tuple [.str nm, .int z, .tuple ((ps.map g).map encT)] := encT_mk nm z _
  rw [ee]
  generalize PyData.list ((ps.map g).map encT) = LL at sh gt
  generalize PyData.tuple ((ps.map g).map encT) = TT at gt ⊢
  generalize Ow.l ((ps.map g).map fun t => .d (encT t)) = OO at sh
  generalize encM (.put nm kp ad ps) = E at m1 h8
  simp [m1, h8, sh, gt, sizeLine_eq]
abbrev bMadeW (f12 f13 : List D → R Ow) : Ev → SR := (sSeq (sAsg (gtTup 2 (gtCons (gtName 3) (gtCons (gtName 4) gtNil))) (eM (eB (aCons (eVar 0) (aCons (eVar 1) (aCons (eVar 2) aNil))) f12) viewD))
    (sSeq (sIf (tOrE (eB (eBin gGt (eVar 3) (eC (.int 400))) asB) (eB (eBin gGt (eVar 4) (eC (.int 60))) asB))
    (sRaise "TooGreat")
    sSkip)
    (sRet (eB (aCons (eVar 0) (aCons (eVar 1) (aCons (eVar 2) aNil))) f13))))
theorem madeW_fin {f12 f13 : List D → R Ow} {TN TM RD : D} {o : Tr} (h12 : f12 [TN, TM, RD] = .ok (.d (mesD o))) (h13 : sizeT o ≤ 400 ∧ levT o ≤ 60 → f13 [TN, TM, RD] = .ok (.d (encT o))) : finR (bMadeW f12 f13 (envOf 2 [TN, TM, RD])) = if sizeT o ≤ 400 ∧ levT o ≤ 60 then .ok (.d (encT o)) else .ex "TooGreat" := by
  have he : envOf 2 [TN, TM, RD] = [some (.d TN), some (.d TM), some (.d RD), none, none] := rfl
  rw [he]
  have s1 : sAsg (gtTup 2 (gtCons (gtName 3) (gtCons (gtName 4) gtNil))) (eM (eB (aCons (eVar 0) (aCons (eVar 1) (aCons (eVar 2) aNil))) f12) viewD) [some (.d TN), some (.d TM), some (.d RD), none, none] = .nx [some (.d TN), some (.d TM), some (.d RD), some (.d (.int (sizeT o : Nat))), some (.d (.int (levT o : Nat)))] := by
    unfold mesD at h12
    simp [h12]
  refine fin_step s1 ?_
  by_cases c1 : sizeT o ≤ 400
  · by_cases c2 : levT o ≤ 60
    · rw [if_pos ⟨c1, c2⟩]
      have c1' : ¬ ((sizeT o : Nat) : Int) > 400 := by omega
      have c2' : ¬ ((levT o : Nat) : Int) > 60 := by omega
      have h := h13 ⟨c1, c2⟩
      generalize encT o = O at h
      generalize ((sizeT o : Nat) : Int) = A at c1'
      generalize ((levT o : Nat) : Int) = B at c2'
      simp [c1', c2', h]
    · rw [if_neg (fun q => c2 q.2)]
      have c1' : ¬ ((sizeT o : Nat) : Int) > 400 := by omega
      have c2' : ((levT o : Nat) : Int) > 60 := by omega
      generalize ((sizeT o : Nat) : Int) = A at c1'
      generalize ((levT o : Nat) : Int) = B at c2'
      simp [c1', c2']
  · rw [if_neg (fun q => c1 q.1)]
    have c1' : ((sizeT o : Nat) : Int) > 400 := by omega
    generalize ((sizeT o : Nat) : Int) = A at c1'
    generalize ((levT o : Nat) : Int) = B
    simp [c1']
abbrev bTurned (f6 f7 f14 : List D → R Ow) : Ev → SR := (sSeq (sDrop (eM (eB (aCons (eVar 0) (aCons (eBin gIx (eBin gIx (eBin gIx (eVar 0) (eC (.int 0))) (eC (.int 0))) (eC (.int 0))) (aCons (eVar 1) aNil))) f6) viewD))
    (sRet (eB (aCons (eVar 0) (aCons (eBin gIx (eVar 0) (eC (.int 1))) (aCons (eM (eB (aCons (eVar 1) aNil) f7) viewD) aNil))) f14)))
theorem turned_fin {f6 f7 f14 : List D → R Ow} {t : Trn} {u : Tr} {p0 : Str × List Rw} {b : Bool} {r : R Ow} (hp : t.wood[0]? = some p0) (h6 : f6 [encTn t, .str p0.1, encT u] = if b = true then .ok (.d .none) else .ex "NoTree") (h7 : f7 [encT u] = .ok (.d (encT (aboveT u)))) (h14 : b = true → f14 [encTn t, encM t.start, encT (aboveT u)] = r) (hr : (∃ o, r = .ok o) ∨ ∃ c, r = .ex c) : finR (bTurned f6 f7 f14 (envOf 0 [encTn t, encT u])) = if b = true then r else .ex "NoTree" := by
  have he : envOf 0 [encTn t, encT u] = [some (.d (encTn t)), some (.d (encT u))] := rfl
  rw [he]
  have i0 := w_ix0 t
  have i1 := w_ix1 t
  have j0 := wd_ix0 hp
  have k0 := kd_ix0 p0
  generalize encKd p0 = KD at j0 k0
  generalize encWd t.wood = WD at i0 j0
  generalize encT (aboveT u) = AU at h7 h14
  generalize encTn t = TN at i0 i1 h6 h14
  generalize encM t.start = SM at i1 h14
  generalize encT u = U at h6 h7
  cases b with
  | true =>
    have h := h14 rfl
    rw [if_pos rfl] at h6 ⊢
    rcases hr with ⟨o, rfl⟩ | ⟨c, rfl⟩ <;> simp [i0, i1, j0, k0, h6, h7, h]
  | false =>
    rw [if_neg (by decide)] at h6 ⊢
    simp [i0, i1, j0, k0, h6]
abbrev bTurnedIn (f6 f7 f14 : List D → R Ow) : Ev → SR := (sSeq (sDrop (eM (eB (aCons (eVar 0) (aCons (eBin gIx (eBin gIx (eBin gIx (eVar 0) (eC (.int 2))) (eVar 1)) (eC (.int 0))) (aCons (eVar 2) aNil))) f6) viewD))
    (sRet (eB (aCons (eVar 0) (aCons (eTup (aCons (eC (.str "call")) (aCons (eVar 1) (aCons (eC (.int 0)) aNil)))) (aCons (eM (eB (aCons (eVar 2) aNil) f7) viewD) aNil))) f14)))
theorem turnedIn_fin {f6 f7 f14 : List D → R Ow} {t : Trn} {u : Tr} {m : Nat} {p : Str × List Trm} {b : Bool} {r : R Ow} (hp : t.modes[m]? = some p) (h6 : f6 [encTn t, .str p.1, encT u] = if b = true then .ok (.d .none) else .ex "NoTree") (h7 : f7 [encT u] = .ok (.d (encT (aboveT u)))) (h14 : b = true → f14 [encTn t, encM (.call (m : Nat) 0), encT (aboveT u)] = r) (hr : (∃ o, r = .ok o) ∨ ∃ c, r = .ex c) : finR (bTurnedIn f6 f7 f14 (envOf 0 [encTn t, .int (m : Nat), encT u])) = if b = true then r else .ex "NoTree" := by
  have he : envOf 0 [encTn t, .int (m : Nat), encT u] = [some (.d (encTn t)), some (.d (.int (m : Nat))), some (.d (encT u))] := rfl
  rw [he]
  have i2 : gIx (encTn t) (.int 2) = some (moD t.modes) := w_ix2 t
  have j := mo_ix hp
  have k0 := mo_ix0 p
  rw [encM_call] at h14
  generalize encMo p = KD at j k0
  generalize moD t.modes = WD at i2 j
  generalize encT (aboveT u) = AU at h7 h14
  generalize encTn t = TN at i2 h6 h14
  generalize encT u = U at h6 h7
  cases b with
  | true =>
    have h := h14 rfl
    rw [if_pos rfl] at h6 ⊢
    rcases hr with ⟨o, rfl⟩ | ⟨c, rfl⟩ <;> simp [i2, j, k0, h6, h7, h, sizeLine_eq]
  | false =>
    rw [if_neg (by decide)] at h6 ⊢
    simp [i2, j, k0, h6]
end
end Mir
set_option Elab.async false
set_option linter.all false
set_option maxRecDepth 100000
set_option maxHeartbeats 4000000
namespace Mir
open PySem PySem.Spec L2
def ik : Int → List Nat
  | .ofNat n => TL.numL n
  | .negSucc n => 45 :: TL.numL (n + 1)
/-- a tree laid out: name, mark, blanks ahead of its mark (where it is told), ahead of (, behind it, between, ahead of ) -/
inductive LN where
  | mk (nm : List Nat) (k : Int) (mb : Option Nat) (o i g c : Nat) (bs : List LN)
def brk (o c : Nat) : List (Nat × List Nat) → List (Nat × List Nat)
  | [] => []
  | s :: ss => (o, [40]) :: (s :: ss ++ [(c, [41])])
end Mir
set_option Elab.async false
set_option linter.all false
set_option maxRecDepth 100000
set_option maxHeartbeats 4000000
namespace Mir
open PySem PySem.Spec L2
def glue (s : List Nat) : List (List Nat) → List Nat
  | [] => []
  | a :: r => a ++ (r.map fun b => s ++ b).flatten
theorem foldl_glue (s : List Nat) : ∀ (r : List (List Nat)) (a : Array Nat), (r.map tx).foldl (fun acc p => acc ++ (tx s).cps ++ p.cps) a = ⟨a.toList ++ (r.map fun b => s ++ b).flatten⟩
  | [], a => by simp
  | b :: r, a => by
    rw [List.map_cons, List.foldl_cons, foldl_glue s r]
    simp [tx]
theorem join_tx (s : List Nat) (l : List (List Nat)) : Txt.join (tx s) (l.map tx) = tx (glue s l) := by
  show Builtin.Str.glued _ _ = _
  rw [PySem.StrLaws.glued_eq_join]
  cases l with
  | nil => rfl
  | cons a r =>
    rw [List.map_cons, ← PySem.StrLaws.glued_cons, foldl_glue]
    simp [glue, tx]
theorem sum_len (l : List (List Nat)) : ((l.map tx).map fun x : Str => x.length).sum = (l.map List.length).sum := by
  rw [List.map_map]
  congr 1
theorem gJoin_tx (s : List Nat) (l : List (List Nat)) (h : (l.map List.length).sum + l.length * s.length ≤ 16777216) : gJoin (.str (tx s)) (.list (l.map fun w => .str (tx w))) = some (.str (tx (glue s l))) := by
  have e : (l.map fun w => PyData.str (tx w)) = (l.map tx).map PyData.str := by rw [List.map_map]; rfl
  rw [e, gJoin_list (by rw [sum_len, List.length_map, tx_len]; exact h), join_tx]
end Mir
set_option Elab.async false
set_option linter.all false
set_option maxRecDepth 100000
set_option maxHeartbeats 4000000
namespace Mir
open PySem PySem.Spec L2
def lets (l : List Nat) : Str := tx (l.map fun d => 97 + d)
theorem lets_inj {a b : List Nat} (h : lets a = lets b) : a = b := by
  have := tx_inj h
  exact (List.map_inj_right (fun x y e => by omega)).mp this
theorem strOk_lets {l : List Nat} (h : ∀ d ∈ l, d < 26) : PyData.strOk (lets l) = true := strOk_tx fun c hc => by
  obtain ⟨d, hd, rfl⟩ := List.mem_map.mp hc
  have := h d hd
  omega
theorem glue_nil (l : List (List Nat)) : glue [] l = l.flatten := by
  cases l with
  | nil => rfl
  | cons a r => unfold glue; simp
theorem join_lets {ds : List Nat} (hl : ds.length ≤ 1000) : gJoin (.str (Str.ofString "")) (.list (ds.map fun d => .str (tx [97 + d]))) = some (.str (lets ds)) := by
  have a := gJoin_tx [] (ds.map fun d => [97 + d]) (by
    rw [List.map_map]
    have : (ds.map (List.length ∘ fun d => [97 + d])).sum = ds.length := by
      induction ds with
      | nil => rfl
      | cons d ds ih => rw [List.map_cons, List.sum_cons, ih (by rw [List.length_cons] at hl; omega), List.length_cons]; simp; omega
    rw [this, List.length_map, List.length_nil]
    omega)
  rw [glue_nil, List.map_map] at a
  rw [empty_is]
  have e : (ds.map fun d => [97 + d]).flatten = ds.map fun d => 97 + d := by
    clear a hl
    induction ds with
    | nil => rfl
    | cons d ds ih => rw [List.map_cons, List.flatten_cons, ih]; rfl
  rw [e] at a
  exact a
def mixI (c j : Int) : Int :=
  let n1 := c % 2147483647 + 48271 * (j + 1)
  let n2 := (n1 * n1 + 69621 * j) % 2147483647
  (n2 * n2 + 16807 * j + 1) % 2147483647
noncomputable section
abbrev bMixed : Ev → SR := (sSeq (sSet 2 (eM (eM (eBinO gAdd (eBin gMod (eVar 0) (eC (.int 2147483647))) (eBin gMul (eC (.int 48271)) (eM (eBinO gAdd (eVar 1) (eC (.int 1))) viewD))) viewD) Ow.d))
    (sSeq (sSet 2 (eM (eBin gMod (eM (eBinO gAdd (eBin gMul (eVar 2) (eVar 2)) (eBin gMul (eC (.int 69621)) (eVar 1))) viewD) (eC (.int 2147483647))) Ow.d))
    (sRet (eM (eBin gMod (eM (eBinO gAdd (eB (eBinO gAdd (eBin gMul (eVar 2) (eVar 2)) (eBin gMul (eC (.int 16807)) (eVar 1))) shD) (eC (.int 1))) viewD) (eC (.int 2147483647))) Ow.d))))
theorem mixed_fin (c : Int) (j : Nat) (hj : j ≤ 1000) : finR (bMixed (envOf 1 [.int c, .int (j : Nat)])) = .ok (.d (.int (mixI c (j : Nat)))) := by
  have he : envOf 1 [.int c, .int (j : Nat)] = [some (.d (.int c)), some (.d (.int (j : Nat))), none] := rfl
  rw [he]
  have m1 : gMod (.int c) (.int 2147483647) = some (.int (c % 2147483647)) := gMod_int (by decide)
  have big : (10000000000 : Nat) < 2 ^ 250 := by decide
  have sm : ∀ i : Int, 0 ≤ i → i < 10000000000 → i.natAbs < 2 ^ 250 := fun i h0 h1 => by omega
  have m2 : gMul (.int 48271) (.int ((j : Int) + 1)) = some (.int (48271 * ((j : Int) + 1))) := gMul_small (sm _ (by decide) (by decide)) (sm _ (by omega) (by omega))
  have c0 := Int.emod_nonneg c (b := 2147483647) (by decide)
  have c1 := Int.emod_lt_of_pos c (b := 2147483647) (by decide)
  unfold mixI
  simp only
  generalize c % 2147483647 = C at m1 c0 c1
  obtain ⟨n1, hn1⟩ : ∃ n1, n1 = C + 48271 * ((j : Int) + 1) := ⟨_, rfl⟩
  rw [← hn1]
  have n10 : 0 ≤ n1 := by omega
  have n11 : n1 < 10000000000 := by omega
  have m3 : gMul (.int n1) (.int n1) = some (.int (n1 * n1)) := gMul_small (sm _ n10 n11) (sm _ n10 n11)
  have m4 : gMul (.int 69621) (.int (j : Nat)) = some (.int (69621 * (j : Int))) := gMul_small (sm _ (by decide) (by decide)) (sm _ (by omega) (by omega))
  have m5 : gMod (.int (n1 * n1 + 69621 * (j : Int))) (.int 2147483647) = some (.int ((n1 * n1 + 69621 * (j : Int)) % 2147483647)) := gMod_int (by decide)
  have d0 := Int.emod_nonneg (n1 * n1 + 69621 * (j : Int)) (b := 2147483647) (by decide)
  have d1 := Int.emod_lt_of_pos (n1 * n1 + 69621 * (j : Int)) (b := 2147483647) (by decide)
  refine fin_step (env1 := [some (.d (.int c)), some (.d (.int (j : Nat))), some (.d (.int n1))]) (by simp [m1, m2, hn1]) ?_
  refine fin_step (env1 := [some (.d (.int c)), some (.d (.int (j : Nat))), some (.d (.int ((n1 * n1 + 69621 * (j : Int)) % 2147483647)))]) (by
    generalize ((n1 * n1 + 69621 * (j : Int)) % 2147483647) = N2 at m5
    simp [m3, m4, m5]) ?_
  generalize ((n1 * n1 + 69621 * (j : Int)) % 2147483647) = n2 at d0 d1
  have m6 : gMul (.int n2) (.int n2) = some (.int (n2 * n2)) := gMul_small (sm _ d0 (by omega)) (sm _ d0 (by omega))
  have m7 : gMul (.int 16807) (.int (j : Nat)) = some (.int (16807 * (j : Int))) := gMul_small (sm _ (by decide) (by decide)) (sm _ (by omega) (by omega))
  have m8 : gMod (.int (n2 * n2 + 16807 * (j : Int) + 1)) (.int 2147483647) = some (.int ((n2 * n2 + 16807 * (j : Int) + 1) % 2147483647)) := gMod_int (by decide)
  generalize ((n2 * n2 + 16807 * (j : Int) + 1) % 2147483647) = R at m8
  simp [m6, m7, m8]
abbrev nmBase (f18 : List D → R Ow) : Ev → R Ow := (eLc (eB (aCons (eC (.int 8)) aNil) rg1) (gtName 3) cYes (eM (eBin gMod (eM (eB (aCons (eVar 0) (aCons (eVar 3) aNil)) f18) viewD) (eC (.int 26))) Ow.d) (List.map (·.2) ([("_law_j", 3)] : List (Str × Nat))))
abbrev nmRow : Ev → R Ow := (eLc (eB (aCons (eC (.int 8)) aNil) rg1) (gtName 4) cYes (eM (eJoin (eC (.str "")) (eB (eLc (eB (eM (eSl (eVar 2) oNone (eB (eM (eBinO gAdd (eVar 4) (eC (.int 1))) viewD) asI)) viewD) itD) (gtName 3) cYes (eM (eBin gIx (eVar 1) (eVar 3)) Ow.d) (List.map (·.2) ([("_law_j", 3)] : List (Str × Nat)))) shD)) Ow.d) (List.map (·.2) ([("_law_k", 4)] : List (Str × Nat))))
abbrev nmStep : Ev → SR := (sSeq (sSet 8 (eSl (eVar 2) oNone (eB (eVar 5) asI)))
    (sSeq (sPut 8 (eM (eBin gMod (eM (eBinO gAdd (eBin gIx (eB (eVarO 8) shD) (eVar 6)) (eVar 4)) viewD) (eC (.int 26))) Ow.d) (eVar 6))
    (sFrz 8 (sApp 7 (eM (eJoin (eC (.str "")) (eB (eLc (eB (eVar 8) itD) (gtName 3) cYes (eM (eBin gIx (eVar 1) (eVar 3)) Ow.d) (List.map (·.2) ([("_law_j", 3)] : List (Str × Nat)))) shD)) Ow.d)))))
abbrev bNames8 (f18 : List D → R Ow) : Ev → SR := (sSeq (sSet 1 (eM (eC (.str "abcdefghijklmnopqrstuvwxyz")) Ow.d))
    (sSeq (sSet 2 (eM (eM (nmBase f18) viewD) Ow.d))
    (sSeq (sIf (eB (eBin gEq (eBin gMod (eBin gDiv (eVar 0) (eC (.int 64))) (eC (.int 4))) (eC (.int 1))) asB)
    (sRet nmRow)
    sSkip)
    (sSeq (sSet 5 (eM (eM (eBinO gAdd (eC (.int 1)) (eBin gMod (eVar 0) (eC (.int 8)))) viewD) Ow.d))
    (sSeq (sSet 6 (eM (eBin gMod (eBin gDiv (eVar 0) (eC (.int 8))) (eVar 5)) Ow.d))
    (sSeq (sSet 7 (eLst aNil))
    (sSeq (sFor (eB (aCons (eC (.int 8)) aNil) rg1) (gtName 4)
    nmStep)
    (sRetV 7))))))))
/-- eight names, all unlike -/
structure Names8 (ls : List (List Nat)) : Prop where
  eight : ls.length = 8
  nd : ls.Nodup
  lets : ∀ l ∈ ls, ∀ d ∈ l, d < 26
  some : ∀ l ∈ ls, 1 ≤ l.length ∧ l.length ≤ 8
def nmO (ls : List (List Nat)) : Ow := .l (ls.map fun l => .d (.str (lets l)))
def nsD (ls : List (List Nat)) : D := .list (ls.map fun l => .str (lets l))
theorem viewD_nmO (ls : List (List Nat)) : viewD (nmO ls) = nsD ls := viewD_of (fun l => PyData.str (lets l)) ls
theorem abc_ch {d : Nat} (h : d < 26) : gIx (.str abc) (.int (d : Nat)) = some (.str (tx [97 + d])) := abc_ix h
theorem rg1_8 : rg1 [.int 8] = .ok ((List.range 8).map fun k : Nat => PyData.int (k : Nat)) := by rw [← rangeD_map]; exact rg1_nat 8 (by decide)
def upRow (bs : List Nat) : List (List Nat) := (List.range 8).map fun k => bs.take (k + 1)
def moved (bs : List Nat) (s b k : Nat) : List Nat := bs.set s ((b + k) % 26)
theorem upRow_ok {bs : List Nat} (h8 : bs.length = 8) (hb : ∀ d ∈ bs, d < 26) : Names8 (upRow bs) where
  eight := by unfold upRow; simp
  nd := by
    unfold upRow
    rw [List.nodup_iff_pairwise_ne, List.pairwise_map]
    refine List.Pairwise.imp_of_mem ?_ (List.pairwise_lt_range)
    intro i j hi hj hlt e
    have := congrArg List.length e
    rw [List.length_take, List.length_take, h8] at this
    rw [List.mem_range] at hi hj
    omega
  lets := fun l hl d hd => by
    obtain ⟨k, _, rfl⟩ := List.mem_map.mp hl
    exact hb d (List.mem_of_mem_take hd)
  some := fun l hl => by
    obtain ⟨k, hk, rfl⟩ := List.mem_map.mp hl
    rw [List.mem_range] at hk
    rw [List.length_take, h8]
    omega
theorem moved_ok {bs : List Nat} {s b : Nat} (h8 : bs.length ≤ 8) (hs : s < bs.length) (hb : ∀ d ∈ bs, d < 26) : Names8 ((List.range 8).map fun k => moved bs s b k) where
  eight := by simp
  nd := by
    rw [List.nodup_iff_pairwise_ne, List.pairwise_map]
    refine List.Pairwise.imp_of_mem ?_ (List.pairwise_lt_range)
    intro i j hi hj hlt e
    have := congrArg (fun l : List Nat => l[s]?) e
    simp only [moved] at this
    rw [List.getElem?_set_self hs, List.getElem?_set_self hs] at this
    have := Option.some.inj this
    rw [List.mem_range] at hi hj
    omega
  lets := fun l hl d hd => by
    obtain ⟨k, _, rfl⟩ := List.mem_map.mp hl
    rcases List.mem_or_eq_of_mem_set hd with h | h
    · exact hb d h
    · subst h; exact Nat.mod_lt _ (by decide)
  some := fun l hl => by
    obtain ⟨k, hk, rfl⟩ := List.mem_map.mp hl
    unfold moved
    rw [List.length_set]
    omega
theorem emod_nat {c : Int} {n : Nat} (h : 0 < n) : ∃ k : Nat, c % (n : Int) = (k : Int) ∧ k < n := ⟨(c % (n : Int)).toNat, by have := Int.emod_nonneg c (show (n : Int) ≠ 0 by omega); omega, by have := Int.emod_lt_of_pos c (show 0 < (n : Int) by omega); have := Int.emod_nonneg c (show (n : Int) ≠ 0 by omega); omega⟩
theorem lets_lc {ls : List Nat} (hl : ∀ d ∈ ls, d < 26) {f : Ev → SR} {c : Int} {x2 x4 x5 x6 x7 x8 : Option Ow} : lcR (gtName 3) cYes (eM (eBin gIx (eVar 1) (eVar 3)) Ow.d) [some (.d (.int c)), some (.d (.str abc)), x2, none, x4, x5, x6, x7, x8] (ls.map fun d : Nat => PyData.int (d : Nat)) = .ok (ls.map fun d => .d (.str (tx [97 + d]))) :=
  lcR_map (fun d : Nat => PyData.int (d : Nat)) (fun d => Ow.d (.str (tx [97 + d]))) ls fun d hd => ⟨[some (.d (.int c)), some (.d (.str abc)), x2, some (.d (.int (d : Nat))), x4, x5, x6, x7, x8], rfl, rfl, by simp [abc_ch (hl d hd)]⟩
theorem names_fin {f18 : List D → R Ow} (c : Int) (h18 : ∀ j : Nat, j < 8 → f18 [.int c, .int (j : Nat)] = .ok (.d (.int (mixI c (j : Nat))))) : ∃ ls, Names8 ls ∧ finR (bNames8 f18 (envOf 8 [.int c])) = .ok (nmO ls) := by
  have he : envOf 8 [.int c] = [some (.d (.int c)), none, none, none, none, none, none, none, none] := rfl
  rw [he]
  obtain ⟨bs, hbs⟩ : ∃ bs : List Nat, bs = (List.range 8).map fun j : Nat => (mixI c (j : Nat) % 26).toNat := ⟨_, rfl⟩
  have b8 : bs.length = 8 := by rw [hbs]; simp
  have b26 : ∀ d ∈ bs, d < 26 := fun d hd => by
    rw [hbs] at hd
    obtain ⟨j, _, rfl⟩ := List.mem_map.mp hd
    have := Int.emod_nonneg (mixI c (j : Nat)) (b := 26) (by decide)
    have := Int.emod_lt_of_pos (mixI c (j : Nat)) (b := 26) (by decide)
    omega
  have lc : nmBase f18 [some (.d (.int c)), some (.d (.str abc)), none, none, none, none, none, none, none] = .ok (.l (bs.map fun d : Nat => Ow.d (.int (d : Nat)))) := by
    show eLc _ _ _ _ _ _ = _
    rw [hbs, List.map_map]
    refine eLc_of (ds := (List.range 8).map fun k : Nat => PyData.int (k : Nat)) (by simp only [eB_eq, aCons_eq, eC_eq, aNil_eq, R.bind_ok, R.map_ok]; exact rg1_8) (by simp [sizeLine_eq]) (lcR_map _ _ (List.range 8) fun j hj => ?_)
    have h := h18 j (List.mem_range.mp hj)
    have e : ((mixI c (j : Nat) % 26).toNat : Int) = mixI c (j : Nat) % 26 := by have := Int.emod_nonneg (mixI c (j : Nat)) (b := 26) (by decide); omega
    refine ⟨[some (.d (.int c)), some (.d (.str abc)), none, some (.d (.int (j : Nat))), none, none, none, none, none], by simp [wipeE], rfl, ?_⟩
    show _ = R.ok (Ow.d (.int ((mixI c (j : Nat) % 26).toNat : Nat)))
    rw [e]
    generalize mixI c (j : Nat) = M at h
    have md : gMod (.int M) (.int 26) = some (.int (M % 26)) := gMod_int (by decide)
    simp [h, md]
  have vb : viewD (.l (bs.map fun d : Nat => Ow.d (.int (d : Nat)))) = .list (bs.map fun d : Nat => PyData.int (d : Nat)) := viewD_of (fun d : Nat => PyData.int (d : Nat)) bs
  refine ⟨if (c / 64) % 4 = 1 then upRow bs else (List.range 8).map fun k => moved (bs.take (1 + (c % 8).toNat)) ((c / 8) % ((1 + (c % 8).toNat : Nat) : Int)).toNat (bs.getD ((c / 8) % ((1 + (c % 8).toNat : Nat) : Int)).toNat 0) k, ?_, ?_⟩
  · split
    · exact upRow_ok b8 b26
    · obtain ⟨w, hw, w8⟩ := emod_nat (c := c) (n := 8) (by decide)
      obtain ⟨s, hs, s8⟩ := emod_nat (c := c / 8) (n := 1 + (c % 8).toNat) (by omega)
      rw [hs]
      have : (c % 8).toNat = w := by change c % ((8 : Nat) : Int) = _ at hw; omega
      refine moved_ok (by rw [List.length_take]; omega) ?_ (fun d hd => b26 d (List.mem_of_mem_take hd))
      rw [List.length_take, Int.toNat_natCast]
      omega
  refine fin_step (env1 := [some (.d (.int c)), some (.d (.str abc)), none, none, none, none, none, none, none]) rfl ?_
  refine fin_step (env1 := [some (.d (.int c)), some (.d (.str abc)), some (.d (.list (bs.map fun d : Nat => PyData.int (d : Nat)))), none, none, none, none, none, none]) (by
    rw [sSet_eq, eM_eq, eM_eq, lc, R.map_ok, R.map_ok, vb, R.st_ok]
    rfl) ?_
  have d64 : gDiv (.int c) (.int 64) = some (.int (c / 64)) := gDiv_small (by decide) (by decide)
  have m4 : gMod (.int (c / 64)) (.int 4) = some (.int (c / 64 % 4)) := gMod_int (by decide)
  have ct : (eB (eBin gEq (eBin gMod (eBin gDiv (eVar 0) (eC (.int 64))) (eC (.int 4))) (eC (.int 1))) asB) [some (.d (.int c)), some (.d (.str abc)), some (.d (.list (bs.map fun d : Nat => PyData.int (d : Nat)))), none, none, none, none, none, none] = .ok (c / 64 % 4 == 1) := by
    generalize PyData.list (bs.map fun d : Nat => PyData.int (d : Nat)) = BL
    generalize c / 64 % 4 = Z at m4
    generalize c / 64 = Y at d64 m4
    simp [d64, m4]
  show finR (sSeq (sIf _ _ _) _ _) = _
  rw [sSeq_eq, sIf_eq, ct, R.st_ok]
  have it : itD (.list (bs.map fun d : Nat => PyData.int (d : Nat))) = .ok (bs.map fun d : Nat => PyData.int (d : Nat)) := rfl
  by_cases cc : c / 64 % 4 = 1
  · rw [if_pos cc, if_pos (by simpa using cc)]
    have lr : nmRow [some (.d (.int c)), some (.d (.str abc)), some (.d (.list (bs.map fun d : Nat => PyData.int (d : Nat)))), none, none, none, none, none, none] = .ok (nmO (upRow bs)) := by
      show eLc _ _ _ _ _ _ = _
      unfold nmO upRow
      rw [List.map_map]
      refine eLc_of (ds := (List.range 8).map fun k : Nat => PyData.int (k : Nat)) (by simp only [eB_eq, aCons_eq, eC_eq, aNil_eq, R.bind_ok, R.map_ok]; exact rg1_8) (by simp [sizeLine_eq]) (lcR_map _ _ (List.range 8) fun k hk => ?_)
      refine ⟨[some (.d (.int c)), some (.d (.str abc)), some (.d (.list (bs.map fun d : Nat => PyData.int (d : Nat)))), none, some (.d (.int (k : Nat))), none, none, none, none], by
        generalize PyData.list (bs.map fun d : Nat => PyData.int (d : Nat)) = BL
        simp [wipeE], rfl, ?_⟩
      have lin : eLc (eB (eM (eSl (eVar 2) oNone (eB (eM (eBinO gAdd (eVar 4) (eC (.int 1))) viewD) asI)) viewD) itD) (gtName 3) cYes (eM (eBin gIx (eVar 1) (eVar 3)) Ow.d) (List.map (·.2) ([("_law_j", 3)] : List (Str × Nat))) [some (.d (.int c)), some (.d (.str abc)), some (.d (.list (bs.map fun d : Nat => PyData.int (d : Nat)))), none, some (.d (.int (k : Nat))), none, none, none, none] = .ok (.l ((bs.take (k + 1)).map fun d => .d (.str (tx [97 + d])))) := by
        refine eLc_of (ds := (bs.take (k + 1)).map fun d : Nat => PyData.int (d : Nat)) ?_ (by rw [List.length_map, List.length_take, sizeLine_eq]; omega) ?_
        · have sl : gSl (.list (bs.map fun d : Nat => PyData.int (d : Nat))) none (some ((k : Int) + 1)) = some (.l (((bs.take (k + 1)).map fun d : Nat => PyData.int (d : Nat)).map Ow.d)) := by
            rw [show ((k : Int) + 1) = ((k + 1 : Nat) : Int) from by omega, gSl_list, cutL_take, ← List.map_take]
          have vw := vw_ls ((bs.take (k + 1)).map fun d : Nat => PyData.int (d : Nat))
          have i2 : itD (.list ((bs.take (k + 1)).map fun d : Nat => PyData.int (d : Nat))) = .ok ((bs.take (k + 1)).map fun d : Nat => PyData.int (d : Nat)) := rfl
          generalize PyData.list (bs.map fun d : Nat => PyData.int (d : Nat)) = BL at sl
          generalize ((bs.take (k + 1)).map fun d : Nat => PyData.int (d : Nat)) = ds at sl vw i2
          generalize Ow.l (ds.map Ow.d) = OL at sl vw
          generalize PyData.list ds = DL at vw i2
          simp [sl, vw, i2]
        · generalize PyData.list (bs.map fun d : Nat => PyData.int (d : Nat)) = BL
          exact lets_lc (f := sSkip) (fun d hd => b26 d (List.mem_of_mem_take hd))
      have sh : shD (.l ((bs.take (k + 1)).map fun d => .d (.str (tx [97 + d])))) = .ok (.list ((bs.take (k + 1)).map fun d => .str (tx [97 + d]))) := unDs_of (fun d => PyData.str (tx [97 + d])) _
      have jn := join_lets (ds := bs.take (k + 1)) (by rw [List.length_take]; omega)
      rw [eM_eq, eJoin_eq (a := Str.ofString "") rfl (d := .list ((bs.take (k + 1)).map fun d => .str (tx [97 + d]))) (by rw [eB_eq, lin, R.bind_ok, sh]), jn]
      rfl
    generalize PyData.list (bs.map fun d : Nat => PyData.int (d : Nat)) = BL at lr
    rw [sRet_eq, lr]
    rfl
  · rw [if_neg cc, if_neg (by simpa using cc)]
    simp only [sSkip_eq, SR.andThen]
    obtain ⟨w, hw, w8⟩ := emod_nat (c := c) (n := 8) (by decide)
    change c % 8 = _ at hw
    rw [hw, Int.toNat_natCast]
    obtain ⟨s, hs, s8⟩ := emod_nat (c := c / 8) (n := 1 + w) (by omega)
    rw [hs, Int.toNat_natCast]
    have g8 : gMod (.int c) (.int 8) = some (.int (c % 8)) := gMod_int (by decide)
    have gd : gDiv (.int c) (.int 8) = some (.int (c / 8)) := gDiv_small (by decide) (by decide)
    have gs : gMod (.int (c / 8)) (.int ((1 + w : Nat) : Int)) = some (.int (s : Nat)) := by rw [gMod_int (by omega), hs]
    rw [hw] at g8
    have w1 : (1 : Int) + (w : Nat) = ((1 + w : Nat) : Int) := by omega
    have sl : gSl (.list (bs.map fun d : Nat => PyData.int (d : Nat))) none (some ((1 + w : Nat) : Int)) = some (.l ((bs.take (1 + w)).map fun d : Nat => .d (.int (d : Nat)))) := by
      rw [gSl_list, cutL_take, ← List.map_take, List.map_map]; rfl
    obtain ⟨B, hB⟩ : ∃ B, B = bs.take (1 + w) := ⟨_, rfl⟩
    have Bl : B.length = 1 + w := by rw [hB, List.length_take]; omega
    have B26 : ∀ d ∈ B, d < 26 := fun d hd => b26 d (List.mem_of_mem_take (hB ▸ hd))
    have Bs : B[s]? = some (bs.getD s 0) := by
      rw [hB, List.getElem?_take, if_pos s8, List.getD_eq_getElem?_getD, List.getElem?_eq_getElem (by omega)]
      rfl
    rw [← hB] at sl ⊢
    generalize bs.getD s 0 = b at Bs
    refine fin_step (env1 := [some (.d (.int c)), some (.d (.str abc)), some (.d (.list (bs.map fun d : Nat => PyData.int (d : Nat)))), none, none, some (.d (.int ((1 + w : Nat) : Int))), none, none, none]) (by
      rw [← w1]
      generalize PyData.list (bs.map fun d : Nat => PyData.int (d : Nat)) = BL
      simp [g8]) ?_
    refine fin_step (env1 := [some (.d (.int c)), some (.d (.str abc)), some (.d (.list (bs.map fun d : Nat => PyData.int (d : Nat)))), none, none, some (.d (.int ((1 + w : Nat) : Int))), some (.d (.int (s : Nat))), none, none]) (by
      generalize PyData.list (bs.map fun d : Nat => PyData.int (d : Nat)) = BL
      generalize ((1 + w : Nat) : Int) = W at gs
      simp [gd, gs]) ?_
    refine fin_step (env1 := [some (.d (.int c)), some (.d (.str abc)), some (.d (.list (bs.map fun d : Nat => PyData.int (d : Nat)))), none, none, some (.d (.int ((1 + w : Nat) : Int))), some (.d (.int (s : Nat))), some (.l []), none]) (by
      generalize PyData.list (bs.map fun d : Nat => PyData.int (d : Nat)) = BL
      simp [sizeLine_eq]) ?_
    obtain ⟨env', e1, x4, x8, e2⟩ := forL_map (g := gtName 4) (f := nmStep) (fun k : Nat => PyData.int (k : Nat)) (List.range 8)
      (fun i env => ∃ x4 x8, env = [some (.d (.int c)), some (.d (.str abc)), some (.d (.list (bs.map fun d : Nat => PyData.int (d : Nat)))), none, x4, some (.d (.int ((1 + w : Nat) : Int))), some (.d (.int (s : Nat))), some (nmO (((List.range 8).take i).map fun k => moved B s b k)), x8]) (fun i k env hk ⟨x4, x8, e⟩ => by
        subst e
        refine ⟨[some (.d (.int c)), some (.d (.str abc)), some (.d (.list (bs.map fun d : Nat => PyData.int (d : Nat)))), none, some (.d (.int (k : Nat))), some (.d (.int ((1 + w : Nat) : Int))), some (.d (.int (s : Nat))), some (nmO (((List.range 8).take i).map fun k => moved B s b k)), x8], rfl, [some (.d (.int c)), some (.d (.str abc)), some (.d (.list (bs.map fun d : Nat => PyData.int (d : Nat)))), none, some (.d (.int (k : Nat))), some (.d (.int ((1 + w : Nat) : Int))), some (.d (.int (s : Nat))), some (nmO (((List.range 8).take (i + 1)).map fun k => moved B s b k)), some (.d (.list ((moved B s b k).map fun d : Nat => PyData.int (d : Nat))))], .inl ?_, _, _, rfl⟩
        have tk : nmO (((List.range 8).take (i + 1)).map fun k => moved B s b k) = .l ((((List.range 8).take i).map fun k => moved B s b k).map (fun l => .d (.str (lets l))) ++ [.d (.str (lets (moved B s b k)))]) := by unfold nmO; rw [List.take_add_one, hk, List.map_append, List.map_append]; rfl
        have ll : ((((List.range 8).take i).map fun k => moved B s b k).map fun l => Ow.d (.str (lets l))).length < 16777216 := by rw [List.length_map, List.length_map, List.length_take, List.length_range]; omega
        have nm : nmO (((List.range 8).take i).map fun k => moved B s b k) = .l ((((List.range 8).take i).map fun k => moved B s b k).map fun l => .d (.str (lets l))) := rfl
        rw [tk, nm]
        generalize ((((List.range 8).take i).map fun k => moved B s b k).map fun l => Ow.d (.str (lets l))) = OS at ll
        have mv : (moved B s b k).length = B.length := by unfold moved; rw [List.length_set]
        have mv26 : ∀ d ∈ moved B s b k, d < 26 := fun d hd => by
          rcases List.mem_or_eq_of_mem_set hd with h | h
          · exact B26 d h
          · subst h; exact Nat.mod_lt _ (by decide)
        refine seq_nx (env1 := [some (.d (.int c)), some (.d (.str abc)), some (.d (.list (bs.map fun d : Nat => PyData.int (d : Nat)))), none, some (.d (.int (k : Nat))), some (.d (.int ((1 + w : Nat) : Int))), some (.d (.int (s : Nat))), some (.l OS), some (.l (B.map fun d : Nat => .d (.int (d : Nat))))]) (by
          generalize PyData.list (bs.map fun d : Nat => PyData.int (d : Nat)) = BL at sl
          generalize ((1 + w : Nat) : Int) = W at sl
          simp [sl]) ?_
        refine seq_nx (env1 := [some (.d (.int c)), some (.d (.str abc)), some (.d (.list (bs.map fun d : Nat => PyData.int (d : Nat)))), none, some (.d (.int (k : Nat))), some (.d (.int ((1 + w : Nat) : Int))), some (.d (.int (s : Nat))), some (.l OS), some (.l ((moved B s b k).map fun d : Nat => .d (.int (d : Nat))))]) (by
          have sh : shD (.l (B.map fun d : Nat => .d (.int (d : Nat)))) = .ok (.list (B.map fun d : Nat => .int (d : Nat))) := unDs_of (fun d : Nat => PyData.int (d : Nat)) B
          have ix : gIx (.list (B.map fun d : Nat => .int (d : Nat))) (.int (s : Nat)) = some (.int (b : Nat)) := by
            show atI (B.map fun d : Nat => PyData.int (d : Nat)) _ = _
            exact atI_natD (by rw [List.getElem?_map, Bs]; rfl)
          have md : gMod (.int ((b : Int) + (k : Nat))) (.int 26) = some (.int (((b + k) % 26 : Nat) : Int)) := by
            rw [gMod_int (by decide)]
            congr 2
          have ixn : ixN (B.map fun d : Nat => Ow.d (.int (d : Nat))).length ((s : Nat) : Int) = some s := ixN_nat (by rw [List.length_map]; omega)
          have st : (moved B s b k).map (fun d : Nat => Ow.d (.int (d : Nat))) = (B.map fun d : Nat => Ow.d (.int (d : Nat))).set s (.d (.int (((b + k) % 26 : Nat) : Int))) := by unfold moved; rw [List.map_set]
          rw [st]
          have e3 : (eM (eBin gMod (eM (eBinO gAdd (eBin gIx (eB (eVarO 8) shD) (eVar 6)) (eVar 4)) viewD) (eC (.int 26))) Ow.d) [some (.d (.int c)), some (.d (.str abc)), some (.d (.list (bs.map fun d : Nat => PyData.int (d : Nat)))), none, some (.d (.int (k : Nat))), some (.d (.int ((1 + w : Nat) : Int))), some (.d (.int (s : Nat))), some (.l OS), some (.l (B.map fun d : Nat => .d (.int (d : Nat))))] = .ok (.d (.int (((b + k) % 26 : Nat) : Int))) := by
            generalize PyData.list (bs.map fun d : Nat => PyData.int (d : Nat)) = BL
            generalize Ow.l (B.map fun d : Nat => .d (.int (d : Nat))) = OB at sh
            generalize PyData.list (B.map fun d : Nat => .int (d : Nat)) = LB at sh ix
            generalize ((1 + w : Nat) : Int) = W
            generalize (((b + k) % 26 : Nat) : Int) = Z at md
            simp [sh, ix, md]
          rw [sPut_eq, e3, R.st_ok]
          show ownL 8 _ _ = _
          rw [ownL_8]
          show R.st _ (eVar 6 _) _ = _
          rw [eVar_6, R.st_ok]
          show (match ixN (B.map fun d : Nat => Ow.d (.int (d : Nat))).length ((s : Nat) : Int) with
            | some j => SR.nx _
            | none => SR.no) = _
          rw [ixn]
          rfl) ?_
        have vm : viewD (.l ((moved B s b k).map fun d : Nat => .d (.int (d : Nat)))) = .list ((moved B s b k).map fun d : Nat => .int (d : Nat)) := viewD_of (fun d : Nat => PyData.int (d : Nat)) _
        have fz : frzV 8 [some (.d (.int c)), some (.d (.str abc)), some (.d (.list (bs.map fun d : Nat => PyData.int (d : Nat)))), none, some (.d (.int (k : Nat))), some (.d (.int ((1 + w : Nat) : Int))), some (.d (.int (s : Nat))), some (.l OS), some (.l ((moved B s b k).map fun d : Nat => .d (.int (d : Nat))))] = [some (.d (.int c)), some (.d (.str abc)), some (.d (.list (bs.map fun d : Nat => PyData.int (d : Nat)))), none, some (.d (.int (k : Nat))), some (.d (.int ((1 + w : Nat) : Int))), some (.d (.int (s : Nat))), some (.l OS), some (.d (.list ((moved B s b k).map fun d : Nat => .int (d : Nat))))] := by
          rw [← vm]
          rfl
        show sApp 7 _ (frzV 8 _) = _
        rw [fz]
        have lin : eLc (eB (eVar 8) itD) (gtName 3) cYes (eM (eBin gIx (eVar 1) (eVar 3)) Ow.d) (List.map (·.2) ([("_law_j", 3)] : List (Str × Nat))) [some (.d (.int c)), some (.d (.str abc)), some (.d (.list (bs.map fun d : Nat => PyData.int (d : Nat)))), none, some (.d (.int (k : Nat))), some (.d (.int ((1 + w : Nat) : Int))), some (.d (.int (s : Nat))), some (.l OS), some (.d (.list ((moved B s b k).map fun d : Nat => .int (d : Nat))))] = .ok (.l ((moved B s b k).map fun d => .d (.str (tx [97 + d])))) := by
          refine eLc_of (ds := (moved B s b k).map fun d : Nat => PyData.int (d : Nat)) ?_ (by rw [List.length_map, mv, Bl, sizeLine_eq]; omega) ?_
          · have i2 : itD (.list ((moved B s b k).map fun d : Nat => PyData.int (d : Nat))) = .ok ((moved B s b k).map fun d : Nat => PyData.int (d : Nat)) := rfl
            generalize PyData.list (bs.map fun d : Nat => PyData.int (d : Nat)) = BL
            generalize PyData.list ((moved B s b k).map fun d : Nat => PyData.int (d : Nat)) = ML at i2
            generalize ((1 + w : Nat) : Int) = W
            simp [i2]
          · exact lets_lc (f := sSkip) mv26
        have sh : shD (.l ((moved B s b k).map fun d => .d (.str (tx [97 + d])))) = .ok (.list ((moved B s b k).map fun d => .str (tx [97 + d]))) := unDs_of (fun d => PyData.str (tx [97 + d])) _
        have jn := join_lets (ds := moved B s b k) (by rw [mv, Bl]; omega)
        rw [sApp_eq, ownL_7, eM_eq, eJoin_eq (a := Str.ofString "") rfl (d := .list ((moved B s b k).map fun d => .str (tx [97 + d]))) (by rw [eB_eq, lin, R.bind_ok, sh]), jn]
        show (if OS.length < sizeLine then _ else _) = _
        rw [if_pos (by rw [sizeLine_eq]; exact ll)]
        rfl) [some (.d (.int c)), some (.d (.str abc)), some (.d (.list (bs.map fun d : Nat => PyData.int (d : Nat)))), none, none, some (.d (.int ((1 + w : Nat) : Int))), some (.d (.int (s : Nat))), some (.l []), none] ⟨none, none, rfl⟩
    subst e2
    rw [List.length_range] at e1
    refine fin_step (env1 := [some (.d (.int c)), some (.d (.str abc)), some (.d (.list (bs.map fun d : Nat => PyData.int (d : Nat)))), none, x4, some (.d (.int ((1 + w : Nat) : Int))), some (.d (.int (s : Nat))), some (nmO ((List.range 8).map fun k => moved B s b k)), x8]) (by
      have i8 : (eB (aCons (eC (.int 8)) aNil) rg1) [some (.d (.int c)), some (.d (.str abc)), some (.d (.list (bs.map fun d : Nat => PyData.int (d : Nat)))), none, none, some (.d (.int ((1 + w : Nat) : Int))), some (.d (.int (s : Nat))), some (.l []), none] = .ok ((List.range 8).map fun k : Nat => PyData.int (k : Nat)) := by
        simp only [eB_eq, aCons_eq, eC_eq, aNil_eq, R.bind_ok, R.map_ok]
        exact rg1_8
      rw [sFor_eq, i8, R.st_ok, e1]
      rfl) ?_
    rfl
end
end Mir
set_option Elab.async false
set_option linter.all false
set_option maxRecDepth 100000
set_option maxHeartbeats 4000000
namespace Mir
open PySem PySem.Spec L2
/-- 10 ^ 59, kept shut -/
def T59 : Int := 10 ^ 59
def greatI (z : Int) : Int := z % (2 * T59 + 1) - T59
theorem T59_pos : 0 < T59 := by unfold T59; decide
theorem T59_lt : T59 < 2 ^ 249 := by unfold T59; decide
theorem greatI_abs (z : Int) : (greatI z).natAbs < 2 ^ 250 := by
  unfold greatI
  have a := Int.emod_nonneg z (b := 2 * T59 + 1) (by have := T59_pos; omega)
  have b := Int.emod_lt_of_pos z (b := 2 * T59 + 1) (by have := T59_pos; omega)
  have c := T59_lt
  omega
theorem p59 : gPow (.int 10) (.int 59) = some (.int T59) := gPow10 59 (by decide)
noncomputable section
abbrev bGreat : Ev → SR := (sRet (eM (eBin gSub (eBin gMod (eVar 0) (eM (eBinO gAdd (eBin gMul (eC (.int 2)) (eBin gPow (eC (.int 10)) (eC (.int 59)))) (eC (.int 1))) viewD)) (eBin gPow (eC (.int 10)) (eC (.int 59)))) Ow.d))
theorem great_fin (z : Int) : finR (bGreat (envOf 0 [.int z])) = .ok (.d (.int (greatI z))) := by
  have he : envOf 0 [.int z] = [some (.d (.int z))] := rfl
  rw [he]
  have tp := T59_pos
  have tl := T59_lt
  have p := p59
  unfold greatI
  generalize T59 = T at tp tl p
  have m2 : gMul (.int 2) (.int T) = some (.int (2 * T)) := gMul_small (by decide) (by omega)
  have md : gMod (.int z) (.int (2 * T + 1)) = some (.int (z % (2 * T + 1))) := gMod_int (by omega)
  have sb : gSub (.int (z % (2 * T + 1))) (.int T) = some (.int (z % (2 * T + 1) - T)) := rfl
  generalize z % (2 * T + 1) = M at md sb
  simp [p, m2, md, sb]
abbrev bWhole : Ev → SR := (sRet (eM (eAnd (eB (eVar 0) (gIsi "int")) (eNot (eB (eVar 0) (gIsi "bool")))) Ow.d))
theorem whole_fin (z : Int) : finR (bWhole (envOf 0 [.int z])) = .ok (.d (.bool true)) := by
  have he : envOf 0 [.int z] = [some (.d (.int z))] := rfl
  rw [he]
  simp
end
end Mir
set_option Elab.async false
set_option linter.all false
set_option maxRecDepth 100000
set_option maxHeartbeats 4000000
namespace Mir
open PySem PySem.Spec L2
theorem eqv_str (x y : Str) : PyData.eqv (.str x) (.str y) = (x == y) := by
  have := gEq_str x y
  rfl
theorem lt_rows {r s : Rw} (h : r.nm ≠ s.nm) : PySem.W.dataLt (encRw r) (encRw s) = decide (r.nm.cps.toList < s.nm.cps.toList) := by
  unfold encRw
  have a : PySem.W.alike (PyData.str r.nm) (.str s.nm) = true := rfl
  rw [PySem.W.dataLt_tuple, PySem.W.dataLt_cons a, eqv_str, if_neg (by simpa using h), PySem.W.dataLt_str]
theorem str_ext {a b : Str} (h : a.cps.toList = b.cps.toList) : a = b := by rw [tx_of a, h, ← tx_of b]
theorem le_rows {r s : Rw} (h : r.nm ≠ s.nm) : PySem.W.dataLe false id (encRw r) (encRw s) = !decide (s.nm.cps.toList < r.nm.cps.toList) := by
  show (!PySem.W.dataLt (encRw s) (encRw r)) = _
  rw [lt_rows (Ne.symm h)]
theorem sort2 {r s : Rw} (h : r.nm ≠ s.nm) : sortedD [encRw r, encRw s] = if s.nm.cps.toList < r.nm.cps.toList then [encRw s, encRw r] else [encRw r, encRw s] := by
  have anti : ∀ a ∈ [encRw r, encRw s], ∀ b ∈ [encRw r, encRw s], PySem.W.dataLe false id a b = true → PySem.W.dataLe false id b a = true → a = b := by
    have no : ∀ {x y : Rw}, x.nm ≠ y.nm → PySem.W.dataLe false id (encRw x) (encRw y) = true → PySem.W.dataLe false id (encRw y) (encRw x) = true → False := fun {x y} hne h1 h2 => by
      rw [le_rows hne] at h1
      rw [le_rows (Ne.symm hne)] at h2
      simp only [Bool.not_eq_true', decide_eq_false_iff_not] at h1 h2
      exact hne (str_ext (List.le_antisymm (List.not_lt.mp h1) (List.not_lt.mp h2)))
    intro a ha b hb h1 h2
    simp only [List.mem_cons, List.not_mem_nil, or_false] at ha hb
    rcases ha with rfl | rfl <;> rcases hb with rfl | rfl
    · rfl
    · exact (no h h1 h2).elim
    · exact (no h h2 h1).elim
    · rfl
  split
  · rename_i c
    refine sortedD_gen (.swap _ _ _) ?_ anti
    have n : ¬ r.nm.cps.toList < s.nm.cps.toList := fun q => List.lt_irrefl _ (List.lt_trans c q)
    simp [le_rows (Ne.symm h), n]
  · rename_i c
    refine sortedD_gen (.refl _) ?_ anti
    simp [le_rows h, c]
theorem gSort2 {r s : Rw} (h : r.nm ≠ s.nm) : gSorted [.list [encRw r, encRw s]] = some (.l (((if s.nm.cps.toList < r.nm.cps.toList then [s, r] else [r, s] : List Rw).map encRw).map Ow.d)) := by
  obtain ⟨rows', _, e⟩ := sorted_rows [r, s]
  rw [List.map_cons, List.map_cons, List.map_nil] at e
  unfold gSorted at e ⊢
  simp only at e ⊢
  split at e
  · rename_i c
    rw [if_pos c, sort2 h]
    split <;> rfl
  · cases e
/-- names at hand: eight, all unlike -/
structure NamesD (NS : D) (N : Nat → Str) : Prop where
  ix : ∀ i : Nat, i < 8 → gIx NS (.int (i : Nat)) = some (.str (N i))
  ne : ∀ i j : Nat, i < 8 → j < 8 → i ≠ j → N i ≠ N j
  ok : ∀ i : Nat, i < 8 → PyData.strOk (N i) = true
theorem names_at {ls : List (List Nat)} (h : Names8 ls) : NamesD (nsD ls) fun i => lets (ls.getD i []) where
  ix := fun i hi => by
    have hl : i < ls.length := by rw [h.eight]; exact hi
    show atI (ls.map fun l => PyData.str (lets l)) _ = _
    refine atI_natD ?_
    rw [List.getElem?_map, List.getElem?_eq_getElem hl, List.getD_eq_getElem?_getD, List.getElem?_eq_getElem hl]
    rfl
  ne := fun i j hi hj n e => by
    have hl : i < ls.length := by rw [h.eight]; exact hi
    have hm : j < ls.length := by rw [h.eight]; exact hj
    have e := lets_inj e
    rw [List.getD_eq_getElem?_getD, List.getElem?_eq_getElem hl, List.getD_eq_getElem?_getD, List.getElem?_eq_getElem hm] at e
    have q := List.pairwise_iff_getElem.mp (List.nodup_iff_pairwise_ne.mp h.nd)
    rcases Nat.lt_or_gt_of_ne n with c | c
    · exact q i j hl hm c e
    · exact q j i hm hl c e.symm
  ok := fun i hi => by
    have hl : i < ls.length := by rw [h.eight]; exact hi
    refine strOk_lets fun d hd => ?_
    rw [List.getD_eq_getElem?_getD, List.getElem?_eq_getElem hl] at hd
    exact h.lets _ (List.getElem_mem hl) d hd
end Mir
set_option Elab.async false
set_option linter.all false
set_option maxRecDepth 100000
set_option maxHeartbeats 4000000
namespace Mir
open PySem PySem.Spec L2
structure NcTn (t : Trn) (B : Nat) : Prop where
  kinds : ∀ p ∈ t.wood, PyData.strOk p.1 = true
  rows : ∀ p ∈ t.wood, ∀ r ∈ p.2, PyData.strOk r.nm = true ∧ ∀ z ∈ r.br, PyData.strOk z = true
  start : okM t.start ∧ levM t.start ≤ B
  mkinds : ∀ p ∈ t.modes, PyData.strOk p.1 = true
  rules : ∀ p ∈ t.modes, ∀ T ∈ p.2, okM T ∧ levM T ≤ B
end Mir
set_option Elab.async false
set_option linter.all false
set_option maxRecDepth 100000
set_option maxHeartbeats 4000000
namespace Mir
open PySem PySem.Spec L2
noncomputable section
abbrev bMany (f6 f7 f12 : List D → R Ow) (j : Int) : Ev → SR := (sSeq (sDrop (eM (eB (aCons (eVar 0) (aCons (eBin gIx (eBin gIx (eBin gIx (eVar 0) (eC (.int 0))) (eC (.int 0))) (eC (.int 0))) (aCons (eVar 1) aNil))) f6) viewD))
    (sRet (eM (eBin gIx (eB (eB (aCons (eVar 0) (aCons (eBin gIx (eVar 0) (eC (.int 1))) (aCons (eM (eB (aCons (eVar 1) aNil) f7) viewD) aNil))) f12) shD) (eC (.int j))) Ow.d)))
theorem many_fin {f6 f7 f12 : List D → R Ow} {t : Trn} {u o : Tr} {p0 : Str × List Rw} (hp : t.wood[0]? = some p0) (h6 : f6 [encTn t, .str p0.1, encT u] = .ok (.d .none)) (h7 : f7 [encT u] = .ok (.d (encT (aboveT u)))) (h12 : f12 [encTn t, encM t.start, encT (aboveT u)] = .ok (.d (mesD o))) :
    finR (bMany f6 f7 f12 0 (envOf 0 [encTn t, encT u])) = .ok (.d (.int (sizeT o : Nat))) ∧ finR (bMany f6 f7 f12 1 (envOf 0 [encTn t, encT u])) = .ok (.d (.int (levT o : Nat))) := by
  have he : envOf 0 [encTn t, encT u] = [some (.d (encTn t)), some (.d (encT u))] := rfl
  rw [he]
  have i0 := w_ix0 t
  have i1 := w_ix1 t
  have j0 := wd_ix0 hp
  have k0 := kd_ix0 p0
  have m0 : gIx (mesD o) (.int 0) = some (.int (sizeT o : Nat)) := by unfold mesD; simp
  have m1 : gIx (mesD o) (.int 1) = some (.int (levT o : Nat)) := by unfold mesD; simp
  generalize mesD o = MD at h12 m0 m1
  generalize encKd p0 = KD at j0 k0
  generalize encWd t.wood = WD at i0 j0
  generalize encT (aboveT u) = AU at h7 h12
  generalize encTn t = TN at i0 i1 h6 h12
  generalize encM t.start = SM at i1 h12
  generalize encT u = U at h6 h7
  constructor <;> simp [i0, i1, j0, k0, h6, h7, h12, m0, m1]
/-- a tree's branches are of these kinds -/
def KidsOk (w : Wood) (ks : List Str) (u : Tr) : Prop := ks.length = (trBs u).length ∧ isOfs w (trBs u) ks = true
abbrev stC : Ev → R Bool := (eB (eBin gEq (eBin gIx (eVar 1) (eC (.int 0))) (eC (.str "call"))) asB)
abbrev stB (f5 : List D → R Ow) : Ev → SR := (sSeq (sSet 2 (eM (eBin gIx (eBin gIx (eVar 2) (eC (.int 2))) (eBin gIx (eVar 1) (eC (.int 2)))) Ow.d))
    (sSet 1 (eM (eM (eB (aCons (eVar 0) (aCons (eBin gIx (eVar 1) (eC (.int 1))) (aCons (eBin gIx (eVar 2) (eC (.int 0))) aNil))) f5) viewD) Ow.d)))
abbrev bSettled (f5 : List D → R Ow) : Ev → SR := (sSeq (whileN stC (stB f5) 1000000)
    (sRet (eM (eTup (aCons (eVar 1) (aCons (eVar 2) aNil))) Ow.d)))
theorem settle_loop {t : Trn} {B : Nat} (ok : SndT t B) {f5 : List D → R Ow} (h5 : ∀ (k : Nat) (p : Str × List Trm), t.modes[k]? = some p → ∀ nm, f5 [encTn t, .int (k : Nat), .str nm] = .ok (.d (ruleOf t.wood p nm))) : ∀ (n : Nat) (u : Tr) (T : Trm) (ks : List Str), levT u ≤ n → FitT t ks T → GoodM B T → KidsOk t.wood ks u →
    ∃ nm kp ad ps u' ks', madT t u T = madT t u' (.put nm kp ad ps) ∧ FitT t ks' (.put nm kp ad ps) ∧ GoodM B (.put nm kp ad ps) ∧ KidsOk t.wood ks' u' ∧ levT u' ≤ levT u ∧ ∀ k, n < k → whileN stC (stB f5) k [some (.d (encTn t)), some (.d (encM T)), some (.d (encT u))] = .nx [some (.d (encTn t)), some (.d (encM (.put nm kp ad ps))), some (.d (encT u'))]
  | n, u, .put nm kp ad ps, ks, hu, hf, hg, hk => by
    refine ⟨nm, kp, ad, ps, u, ks, rfl, hf, hg, hk, Nat.le_refl _, fun k h => ?_⟩
    obtain ⟨k, rfl⟩ : ∃ k', k = k' + 1 := ⟨k - 1, by omega⟩
    have m0 := m_ix0 nm kp ad ps
    have c : stC [some (.d (encTn t)), some (.d (encM (.put nm kp ad ps))), some (.d (encT u))] = .ok false := by
      generalize encM (.put nm kp ad ps) = E at m0
      simp [m0]
    rw [whileN, c]
    rfl
  | 0, .mk _ _ _, .call _ _, ks, hu, _, _, _ => by rw [levT] at hu; omega
  | n + 1, .mk nm mk bs, .call m y, ks, hu, hf, hg, hk => by
    rw [levT] at hu
    obtain ⟨d1, d2, q, d3, d4⟩ := hf (m, y) (by rw [callsM]; exact List.mem_singleton.mpr rfl)
    change 0 ≤ m at d1
    change 0 ≤ y at d2
    change t.modes[m.toNat]? = some q at d3
    change ks[y.toNat]? = some q.1 at d4
    obtain ⟨hl, hi⟩ := hk
    change ks.length = bs.length at hl
    change isOfs t.wood bs ks = true at hi
    obtain ⟨i, rfl⟩ : ∃ i : Nat, y = (i : Int) := ⟨y.toNat, by omega⟩
    obtain ⟨k0, rfl⟩ : ∃ k : Nat, m = (k : Int) := ⟨m.toNat, by omega⟩
    rw [Int.toNat_natCast] at d3 d4
    have il : i < bs.length := by
      have := (List.getElem?_eq_some_iff.mp d4).1
      omega
    have hb := List.getElem?_eq_getElem il
    have hbk := isOfs_at hi hb d4
    obtain ⟨ksb, r1, r2, r3, r4, r5, r6⟩ := rule_ex ok d3 hbk
    have lb : levT bs[i] ≤ levTs bs := levTs_le (Nat.le_refl _) _ (List.getElem_mem il)
    obtain ⟨nm', kp', ad', ps', u', ks', s1, s2, s3, s4, s5, s6⟩ := settle_loop ok h5 n bs[i] (ruleF t (k0 : Int) (trNm bs[i])) ksb (by omega) r4 r5 ⟨r2, r3⟩
    refine ⟨nm', kp', ad', ps', u', ks', (madT_call hb).trans s1, s2, s3, s4, by rw [levT]; omega, fun k h => ?_⟩
    obtain ⟨k, rfl⟩ : ∃ k', k = k' + 1 := ⟨k - 1, by omega⟩
    have c0 := c_ix0 (k0 : Int) (i : Int)
    have c1 := c_ix1 (k0 : Int) (i : Int)
    have c2 := c_ix2 (k0 : Int) (i : Int)
    have i2 := t_ix2 nm mk bs
    have ib : gIx (.tuple (bs.map encT)) (.int (i : Nat)) = some (encT bs[i]) := by
      show atI (bs.map encT) _ = _
      exact atI_natD (by rw [List.getElem?_map, hb]; rfl)
    have e0 : gIx (encT bs[i]) (.int 0) = some (.str (trNm bs[i])) := by generalize bs[i] = b; obtain ⟨nm, mk, bs⟩ := b; exact t_ix0 nm mk bs
    have h := h5 k0 q d3 (trNm bs[i])
    rw [r1] at h
    have cc : stC [some (.d (encTn t)), some (.d (encM (.call (k0 : Int) (i : Int)))), some (.d (encT (.mk nm mk bs)))] = .ok true := by
      generalize encM (.call (k0 : Int) (i : Int)) = E at c0
      simp [c0]
    have st : stB f5 [some (.d (encTn t)), some (.d (encM (.call (k0 : Int) (i : Int)))), some (.d (encT (.mk nm mk bs)))] = .nx [some (.d (encTn t)), some (.d (encM (ruleF t (k0 : Int) (trNm bs[i])))), some (.d (encT bs[i]))] := by
      generalize PyData.tuple (bs.map encT) = TB at i2 ib
      generalize encT (.mk nm mk bs) = RD at i2
      generalize encM (.call (k0 : Int) (i : Int)) = E at c0 c1 c2
      generalize encT bs[i] = EB at ib e0
      generalize encM (ruleF t (k0 : Int) (trNm bs[i])) = RT at h
      simp [c1, c2, i2, ib, e0, h]
    rw [whileN, cc, R.st_ok, if_pos rfl]
    simp only [st]
    exact s6 k (by omega)
/-- the way from a tree to one below it -/
def atT : Tr → List Int → Option Tr
  | t, [] => some t
  | .mk _ _ bs, b :: p => if 0 ≤ b then match bs[b.toNat]? with
    | some c => atT c p
    | none => none
    else none
def labD : Option Tr → D
  | none => .none
  | some (.mk nm mk bs) => .tuple [.str nm, .int mk, .int (bs.length : Nat)]
abbrev seStep (f15 : List D → R Ow) : Ev → SR := (sSeq (sIf (tOrE (eB (eBin gLt (eVar 5) (eC (.int 0))) asB) (eB (eBin gGe (eVar 5) (eM (eCa gLen (aCons (eBin gIx (eVar 4) (eC (.int 4))) aNil)) viewD)) asB))
    (sRet (eM (eC .none) Ow.d))
    sSkip)
    (sAsg (gtTup 2 (gtCons (gtName 4) (gtCons (gtName 2) gtNil))) (eM (eB (aCons (eVar 0) (aCons (eBin gIx (eBin gIx (eVar 4) (eC (.int 4))) (eVar 5)) (aCons (eVar 2) aNil))) f15) viewD)))
abbrev bSeenFrom (f8 f15 : List D → R Ow) : Ev → SR := (sSeq (sAsg (gtTup 2 (gtCons (gtName 4) (gtCons (gtName 2) gtNil))) (eM (eB (aCons (eVar 0) (aCons (eVar 1) (aCons (eVar 2) aNil))) f15) viewD))
    (sSeq (sFor (eB (eVar 3) itD) (gtName 5)
    (seStep f15))
    (sRet (eM (eTup (aCons (eBin gIx (eVar 4) (eC (.int 1))) (aCons (eM (eB (aCons (eVar 4) (aCons (eVar 2) aNil)) f8) viewD) (aCons (eM (eCa gLen (aCons (eBin gIx (eVar 4) (eC (.int 4))) aNil)) viewD) aNil)))) Ow.d))))
/-- what settled tells -/
def Settles (t : Trn) (B : Nat) (L : Nat) (f15 : List D → R Ow) : Prop := ∀ (u : Tr) (T : Trm) (ks : List Str), levT u ≤ L → FitT t ks T → GoodM B T → KidsOk t.wood ks u →
    ∃ nm kp ad ps u' ks', madT t u T = madT t u' (.put nm kp ad ps) ∧ FitT t ks' (.put nm kp ad ps) ∧ GoodM B (.put nm kp ad ps) ∧ KidsOk t.wood ks' u' ∧ levT u' ≤ levT u ∧ f15 [encTn t, encM T, encT u] = .ok (.d (.tuple [encM (.put nm kp ad ps), encT u']))
theorem settles_fin {t : Trn} {B L : Nat} (ok : SndT t B) (hL : L < 1000000) {f5 f15 : List D → R Ow} (h5 : ∀ (k : Nat) (p : Str × List Trm), t.modes[k]? = some p → ∀ nm, f5 [encTn t, .int (k : Nat), .str nm] = .ok (.d (ruleOf t.wood p nm))) (h15 : ∀ ds, f15 ds = finR (bSettled f5 (envOf 0 ds))) : Settles t B L f15 := fun u T ks hu hf hg hk => by
  obtain ⟨nm, kp, ad, ps, u', ks', a1, a2, a3, a4, a5, a6⟩ := settle_loop ok h5 L u T ks hu hf hg hk
  refine ⟨nm, kp, ad, ps, u', ks', a1, a2, a3, a4, a5, ?_⟩
  have he : envOf 0 [encTn t, encM T, encT u] = [some (.d (encTn t)), some (.d (encM T)), some (.d (encT u))] := rfl
  rw [h15, he]
  refine fin_step (a6 1000000 hL) ?_
  generalize encTn t = TN
  generalize encM (.put nm kp ad ps) = E
  generalize encT u' = U
  simp [sizeLine_eq]
theorem seen_loop {t : Trn} {B L : Nat} {f15 : List D → R Ow} (hs : Settles t B L f15) (T0 PL : D) : ∀ (p : List Int) (nm : Str) (kp : Bool) (ad : Int) (ps : List Trm) (u : Tr) (ks : List Str) (x5 : Option Ow), levT u ≤ L → FitT t ks (.put nm kp ad ps) → GoodM B (.put nm kp ad ps) → KidsOk t.wood ks u →
    match atT (madT t u (.put nm kp ad ps)) p with
    | none => ∃ env', forL (gtName 5) (seStep f15) (p.map PyData.int) [some (.d (encTn t)), some (.d T0), some (.d (encT u)), some (.d PL), some (.d (encM (.put nm kp ad ps))), x5] = .rt (.d .none) env'
    | some o => ∃ nm' kp' ad' ps' u' y5, o = madT t u' (.put nm' kp' ad' ps') ∧ forL (gtName 5) (seStep f15) (p.map PyData.int) [some (.d (encTn t)), some (.d T0), some (.d (encT u)), some (.d PL), some (.d (encM (.put nm kp ad ps))), x5] = .nx [some (.d (encTn t)), some (.d T0), some (.d (encT u')), some (.d PL), some (.d (encM (.put nm' kp' ad' ps'))), y5]
  | [], nm, kp, ad, ps, u, ks, x5, _, _, _, _ => ⟨nm, kp, ad, ps, u, x5, rfl, rfl⟩
  | b :: p, nm, kp, ad, ps, u, ks, x5, hu, hf, hg, hk => by
    have m4 := m_ix4 nm kp ad ps
    have l4 := tup_len (ps.map encM)
    rw [List.length_map] at l4
    obtain ⟨un, um, ub⟩ := u
    rw [madT_put, atT]
    have g : gtName 5 (.int b) [some (.d (encTn t)), some (.d T0), some (.d (encT (.mk un um ub))), some (.d PL), some (.d (encM (.put nm kp ad ps))), x5] = some [some (.d (encTn t)), some (.d T0), some (.d (encT (.mk un um ub))), some (.d PL), some (.d (encM (.put nm kp ad ps))), some (.d (.int b))] := rfl
    have fo : ∀ r : SR, seStep f15 [some (.d (encTn t)), some (.d T0), some (.d (encT (.mk un um ub))), some (.d PL), some (.d (encM (.put nm kp ad ps))), some (.d (.int b))] = r → forL (gtName 5) (seStep f15) ((b :: p).map PyData.int) [some (.d (encTn t)), some (.d T0), some (.d (encT (.mk un um ub))), some (.d PL), some (.d (encM (.put nm kp ad ps))), x5] = (match r with
      | .nx env => forL (gtName 5) (seStep f15) (p.map PyData.int) env
      | .ct env => forL (gtName 5) (seStep f15) (p.map PyData.int) env
      | .bk env => .nx env
      | r => r) := fun r hr => by
      rw [List.map_cons, forL, g]
      simp only [hr]
      cases r <;> rfl
    by_cases b0 : 0 ≤ b
    · obtain ⟨i, rfl⟩ : ∃ i : Nat, b = (i : Int) := ⟨b.toNat, by omega⟩
      rw [if_pos b0, Int.toNat_natCast, List.getElem?_map]
      by_cases il : i < ps.length
      · have hp := List.getElem?_eq_getElem il
        rw [hp]
        simp only [Option.map_some]
        have pm := List.getElem_mem il
        have okp : okM ps[i] := by have := hg.ok; rw [okM, okMs_iff] at this; exact this.2.2 _ pm
        have lvp : levM ps[i] ≤ B := by have := hg.lev; rw [levM] at this; exact levMs_le (by omega) _ pm
        have szp : sizeM ps[i] ≤ 1000 := by have := hg.few; rw [sizeM] at this; have := sizeMs_memM pm; omega
        obtain ⟨nm2, kp2, ad2, ps2, u2, ks2, s1, s2, s3, s4, s5, s6⟩ := hs (.mk un um ub) ps[i] ks hu (fit_put hf _ pm) ⟨okp, lvp, szp⟩ hk
        have ip : gIx (.tuple (ps.map encM)) (.int (i : Nat)) = some (encM ps[i]) := by
          show atI (ps.map encM) _ = _
          exact atI_natD (by rw [List.getElem?_map, hp]; rfl)
        have st : seStep f15 [some (.d (encTn t)), some (.d T0), some (.d (encT (.mk un um ub))), some (.d PL), some (.d (encM (.put nm kp ad ps))), some (.d (.int (i : Nat)))] = .nx [some (.d (encTn t)), some (.d T0), some (.d (encT u2)), some (.d PL), some (.d (encM (.put nm2 kp2 ad2 ps2))), some (.d (.int (i : Nat)))] := by
          have n1 : ¬ ((i : Nat) : Int) < 0 := by omega
          have n2 : ¬ ((ps.length : Nat) : Int) ≤ ((i : Nat) : Int) := by omega
          generalize PyData.tuple (ps.map encM) = TP at m4 l4 ip
          generalize encM (.put nm kp ad ps) = E at m4
          generalize encM (.put nm2 kp2 ad2 ps2) = E2 at s6
          generalize encM ps[i] = EP at ip s6
          generalize encT (.mk un um ub) = U at s6
          generalize encT u2 = U2 at s6
          generalize encTn t = TN at s6
          simp [m4, l4, ip, s6, n1, n2]
        have := seen_loop hs T0 PL p nm2 kp2 ad2 ps2 u2 ks2 (some (.d (.int (i : Nat)))) (by omega) s2 s3 s4
        rw [← s1] at this
        rw [fo _ st]
        exact this
      · rw [List.getElem?_eq_none (by omega)]
        simp only [Option.map_none]
        have st : seStep f15 [some (.d (encTn t)), some (.d T0), some (.d (encT (.mk un um ub))), some (.d PL), some (.d (encM (.put nm kp ad ps))), some (.d (.int (i : Nat)))] = .rt (.d .none) [some (.d (encTn t)), some (.d T0), some (.d (encT (.mk un um ub))), some (.d PL), some (.d (encM (.put nm kp ad ps))), some (.d (.int (i : Nat)))] := by
          have n1 : ¬ ((i : Nat) : Int) < 0 := by omega
          have n2 : ((ps.length : Nat) : Int) ≤ ((i : Nat) : Int) := by omega
          generalize PyData.tuple (ps.map encM) = TP at m4 l4
          generalize encM (.put nm kp ad ps) = E at m4
          generalize encT (.mk un um ub) = U
          generalize encTn t = TN
          simp [m4, l4, n1, n2]
        exact ⟨_, fo _ st⟩
    · rw [if_neg b0]
      have st : seStep f15 [some (.d (encTn t)), some (.d T0), some (.d (encT (.mk un um ub))), some (.d PL), some (.d (encM (.put nm kp ad ps))), some (.d (.int b))] = .rt (.d .none) [some (.d (encTn t)), some (.d T0), some (.d (encT (.mk un um ub))), some (.d PL), some (.d (encM (.put nm kp ad ps))), some (.d (.int b))] := by
        have n1 : b < 0 := by omega
        generalize encM (.put nm kp ad ps) = E at m4
        generalize encT (.mk un um ub) = U
        generalize encTn t = TN
        simp [n1]
      exact ⟨_, fo _ st⟩
theorem seenFrom_fin {t : Trn} {B L : Nat} {f8 f15 : List D → R Ow} (hs : Settles t B L f15) (h8 : ∀ nm kp ad ps n2 mk bs, f8 [encM (.put nm kp ad ps), encT (.mk n2 mk bs)] = .ok (.d (.int (mkOf kp ad mk)))) (u : Tr) (T : Trm) (ks : List Str) (p : List Int) (hu : levT u ≤ L) (hf : FitT t ks T) (hg : GoodM B T) (hk : KidsOk t.wood ks u) :
    finR (bSeenFrom f8 f15 (envOf 2 [encTn t, encM T, encT u, .tuple (p.map PyData.int)])) = .ok (.d (labD (atT (madT t u T) p))) := by
  have he : envOf 2 [encTn t, encM T, encT u, .tuple (p.map PyData.int)] = [some (.d (encTn t)), some (.d (encM T)), some (.d (encT u)), some (.d (.tuple (p.map PyData.int))), none, none] := rfl
  rw [he]
  obtain ⟨nm, kp, ad, ps, u', ks', a1, a2, a3, a4, a5, a6⟩ := hs u T ks hu hf hg hk
  rw [a1]
  have it : itD (.tuple (p.map PyData.int)) = .ok (p.map PyData.int) := rfl
  generalize PyData.tuple (p.map PyData.int) = PL at it
  refine fin_step (env1 := [some (.d (encTn t)), some (.d (encM T)), some (.d (encT u')), some (.d PL), some (.d (encM (.put nm kp ad ps))), none]) (by
    generalize encTn t = TN at a6
    generalize encM T = TM at a6
    generalize encT u = U at a6
    generalize encT u' = U' at a6
    generalize encM (.put nm kp ad ps) = E at a6
    simp [a6]) ?_
  have lp := seen_loop hs (encM T) PL p nm kp ad ps u' ks' none (by omega) a2 a3 a4
  have itv : (eB (eVar 3) itD) [some (.d (encTn t)), some (.d (encM T)), some (.d (encT u')), some (.d PL), some (.d (encM (.put nm kp ad ps))), none] = .ok (p.map PyData.int) := by
    generalize encTn t = TN
    generalize encM T = TM
    generalize encT u' = U'
    generalize encM (.put nm kp ad ps) = E
    simp [it]
  show finR (sSeq (sFor _ _ _) _ _) = _
  rw [sSeq_eq, sFor_eq, itv, R.st_ok]
  cases e : atT (madT t u' (.put nm kp ad ps)) p with
  | none =>
    rw [e] at lp
    obtain ⟨env', lp⟩ := lp
    rw [lp]
    rfl
  | some o =>
    rw [e] at lp
    obtain ⟨nm', kp', ad', ps', u2, y5, rfl, lp⟩ := lp
    rw [lp]
    obtain ⟨n2, mk, bs⟩ := u2
    rw [madT_put]
    have h := h8 nm' kp' ad' ps' n2 mk bs
    have m1 := m_ix1 nm' kp' ad' ps'
    have m4 := m_ix4 nm' kp' ad' ps'
    have l4 := tup_len (ps'.map encM)
    rw [List.length_map] at l4
    have lb : labD (some (.mk nm' (mkOf kp' ad' mk) (ps'.map (madT t (.mk n2 mk bs))))) = .tuple [.str nm', .int (mkOf kp' ad' mk), .int (ps'.length : Nat)] := by unfold labD; simp only; rw [List.length_map]
    rw [lb]
    show finR (sRet _ _) = _
    generalize PyData.tuple (ps'.map encM) = TP at m4 l4
    generalize encM (.put nm' kp' ad' ps') = E at h m1 m4
    generalize encT (.mk n2 mk bs) = U at h
    generalize encTn t = TN
    generalize encM T = TM
    simp [m1, m4, l4, h, sizeLine_eq]
abbrev bSeen (f6 f7 f16 : List D → R Ow) : Ev → SR := (sSeq (sDrop (eM (eB (aCons (eVar 0) (aCons (eBin gIx (eBin gIx (eBin gIx (eVar 0) (eC (.int 0))) (eC (.int 0))) (eC (.int 0))) (aCons (eVar 1) aNil))) f6) viewD))
    (sRet (eB (aCons (eVar 0) (aCons (eBin gIx (eVar 0) (eC (.int 1))) (aCons (eM (eB (aCons (eVar 1) aNil) f7) viewD) (aCons (eVar 2) aNil)))) f16)))
theorem seen_fin {f6 f7 f16 : List D → R Ow} {t : Trn} {u : Tr} {PL r : D} {p0 : Str × List Rw} (hp : t.wood[0]? = some p0) (h6 : f6 [encTn t, .str p0.1, encT u] = .ok (.d .none)) (h7 : f7 [encT u] = .ok (.d (encT (aboveT u)))) (h16 : f16 [encTn t, encM t.start, encT (aboveT u), PL] = .ok (.d r)) : finR (bSeen f6 f7 f16 (envOf 0 [encTn t, encT u, PL])) = .ok (.d r) := by
  have he : envOf 0 [encTn t, encT u, PL] = [some (.d (encTn t)), some (.d (encT u)), some (.d PL)] := rfl
  rw [he]
  have i0 := w_ix0 t
  have i1 := w_ix1 t
  have j0 := wd_ix0 hp
  have k0 := kd_ix0 p0
  generalize encKd p0 = KD at j0 k0
  generalize encWd t.wood = WD at i0 j0
  generalize encT (aboveT u) = AU at h7 h16
  generalize encTn t = TN at i0 i1 h6 h16
  generalize encM t.start = SM at i1 h16
  generalize encT u = U at h6 h7
  simp [i0, i1, j0, k0, h6, h7, h16]
end
end Mir
set_option Elab.async false
set_option linter.all false
set_option maxRecDepth 100000
set_option maxHeartbeats 4000000
namespace Mir
open PySem PySem.Spec L2
mutual
/-- what a rule puts, its calls' outcome at hand -/
def putL (mk : Int) (b : Tr) : Trm → Tr
  | .call _ _ => b
  | .put nm kp ad ps => .mk nm (mkOf kp ad mk) (putLs mk b ps)
def putLs (mk : Int) (b : Tr) : List Trm → List Tr
  | [] => []
  | p :: ps => putL mk b p :: putLs mk b ps
end
theorem putLs_map (mk : Int) (b : Tr) : ∀ ps, putLs mk b ps = ps.map (putL mk b)
  | [] => by rw [putLs]; rfl
  | p :: ps => by rw [putLs, putLs_map mk b ps]; rfl
theorem putL_put (mk : Int) (b : Tr) (nm : Str) (kp : Bool) (ad : Int) (ps : List Trm) : putL mk b (.put nm kp ad ps) = .mk nm (mkOf kp ad mk) (ps.map (putL mk b)) := by rw [putL, putLs_map]
mutual
theorem mad_putL (t : Trn) (nm : Str) (mk : Int) (bs : List Tr) (b : Tr) : ∀ T : Trm, (∀ c ∈ callsM T, madT t (.mk nm mk bs) (.call c.1 c.2) = b) → madT t (.mk nm mk bs) T = putL mk b T
  | .call m i, h => by
    rw [putL]
    exact h (m, i) (by rw [callsM]; exact List.mem_singleton.mpr rfl)
  | .put n kp ad ps, h => by
    rw [madT_put, putL, mad_putLs t nm mk bs b ps fun c hc => h c (by rw [callsM]; exact hc)]
theorem mad_putLs (t : Trn) (nm : Str) (mk : Int) (bs : List Tr) (b : Tr) : ∀ ps : List Trm, (∀ c ∈ callsMs ps, madT t (.mk nm mk bs) (.call c.1 c.2) = b) → ps.map (madT t (.mk nm mk bs)) = putLs mk b ps
  | [], _ => by rw [putLs]; rfl
  | p :: ps, h => by
    rw [List.map_cons, putLs, mad_putL t nm mk bs b p fun c hc => h c (by rw [callsMs]; exact List.mem_append_left _ hc), mad_putLs t nm mk bs b ps fun c hc => h c (by rw [callsMs]; exact List.mem_append_right _ hc)]
end
/-- rows and turnings of one kind -/
def rws2 (N : Nat → Str) : List Rw := if (N 2).cps.toList < (N 1).cps.toList then [⟨N 2, [N 0]⟩, ⟨N 1, []⟩] else [⟨N 1, []⟩, ⟨N 2, [N 0]⟩]
def rls2 (N : Nat → Str) (B F : Trm) : List Trm := if (N 2).cps.toList < (N 1).cps.toList then [F, B] else [B, F]
def tn2 (N : Nat → Str) (B F : Trm) : Trn := ⟨[(N 0, rws2 N)], .call 0 0, [(N 0, rls2 N B F)]⟩
def chK (N : Nat → Str) (M : Nat → Int) : Nat → Tr
  | 0 => .mk (N 1) (M 0) []
  | k + 1 => .mk (N 2) (M (k + 1)) [chK N M k]
theorem chK_lev (N : Nat → Str) (M : Nat → Int) : ∀ k, levT (chK N M k) = k + 1
  | 0 => by rw [chK, levT, levTs]
  | k + 1 => by rw [chK, levT, levTs, levTs, chK_lev N M k]; omega
theorem chK_nm (N : Nat → Str) (M : Nat → Int) (k : Nat) : trNm (chK N M k) = if k = 0 then N 1 else N 2 := by cases k <;> rfl
structure Two (BB : Nat) (B F : Trm) : Prop where
  gB : GoodM BB B
  gF : GoodM BB F
  nB : callsM B = []
  nF : ∀ c ∈ callsM F, c = (0, 0)
section
variable {N : Nat → Str} (h12 : N 1 ≠ N 2) {BB : Nat} {B F : Trm} (hT : Two BB B F) (M : Nat → Int)
theorem rows_t2 : rowsOf (tn2 N B F).wood (N 0) = rws2 N := by
  show (bif N 0 == N 0 then rws2 N else rowsOf [] (N 0)) = rws2 N
  rw [beq_self_eq_true]
  rfl
include h12
theorem n12' : (N 1 == N 2) = false ∧ (N 2 == N 1) = false := ⟨by rw [beq_eq_false_iff_ne]; exact h12, by rw [beq_eq_false_iff_ne]; exact h12.symm⟩
theorem br_t2 : brOf (rws2 N) (N 1) = some [] ∧ brOf (rws2 N) (N 2) = some [N 0] ∧ (∀ nm ks, brOf (rws2 N) nm = some ks → ks = [] ∨ ks = [N 0]) := by
  obtain ⟨a, b⟩ := n12' h12
  unfold rws2
  split
  · refine ⟨by simp [brOf, b], by simp [brOf], fun nm ks h => ?_⟩
    simp only [brOf] at h
    split at h
    · cases h; exact .inr rfl
    · split at h
      · cases h; exact .inl rfl
      · cases h
  · refine ⟨by simp [brOf], by simp [brOf, a], fun nm ks h => ?_⟩
    simp only [brOf] at h
    split at h
    · cases h; exact .inl rfl
    · split at h
      · cases h; exact .inr rfl
      · cases h
theorem rule_t2 : ruleF (tn2 N B F) 0 (N 1) = B ∧ ruleF (tn2 N B F) 0 (N 2) = F := by
  obtain ⟨a, b⟩ := n12' h12
  have e : ∀ nm, ruleF (tn2 N B F) 0 nm = (match numOf (rws2 N) nm 0 with
    | none => none
    | some i => (rls2 N B F)[i]?).getD noTm := fun nm => by
    show ((match numOf (rowsOf (tn2 N B F).wood (N 0)) nm 0 with
    | none => none
    | some i => (rls2 N B F)[i]?).getD noTm) = _
    rw [rows_t2]
  rw [e, e]
  unfold rws2 rls2
  by_cases lt : (N 2).cps.toList < (N 1).cps.toList
  · rw [if_pos lt, if_pos lt]
    simp [numOf, b]
  · rw [if_neg lt, if_neg lt]
    simp [numOf, a]
theorem isOf_t2 : ∀ k, isOf (tn2 N B F).wood (chK N M k) (N 0) = true
  | 0 => by
    rw [chK, isOf_mk, rows_t2, (br_t2 h12).1]
    simp [isOfs]
  | k + 1 => by
    rw [chK, isOf_mk, rows_t2, (br_t2 h12).2.1]
    simp [isOfs, isOf_t2 k]
include hT
theorem snd_t2 : SndT (tn2 N B F) BB where
  few := by show [(N 0, rls2 N B F)].length ≤ 1000; simp
  wide := fun k nm ks h => by
    have e : rowsOf (tn2 N B F).wood k = rws2 N ∨ rowsOf (tn2 N B F).wood k = [] := by
      show (bif N 0 == k then rws2 N else []) = rws2 N ∨ (bif N 0 == k then rws2 N else []) = []
      cases N 0 == k
      · exact .inr rfl
      · exact .inl rfl
    rcases e with e | e
    · rw [e] at h
      rcases (br_t2 h12).2.2 nm ks h with rfl | rfl <;> simp
    · rw [e] at h; cases h
  lens := fun p hp => by
    have hp : p = (N 0, rls2 N B F) := List.mem_singleton.mp hp
    subst hp
    rw [rows_t2]
    unfold rws2 rls2
    split <;> rfl
  fits := fun p hp i row T hr hTm => by
    have hp : p = (N 0, rls2 N B F) := List.mem_singleton.mp hp
    subst hp
    rw [rows_t2] at hr
    change (rls2 N B F)[i]? = some T at hTm
    have fb : FitT (tn2 N B F) [] B := fun c hcc => by rw [hT.nB] at hcc; cases hcc
    have ff : FitT (tn2 N B F) [N 0] F := fun c hcc => by
      rw [hT.nF c hcc]
      exact ⟨Int.le_refl _, Int.le_refl _, _, rfl, rfl⟩
    unfold rws2 at hr
    unfold rls2 at hTm
    split at hr
    · rename_i c
      rw [if_pos c] at hTm
      match i, hr, hTm with
      | 0, hr, hTm => cases hr; cases hTm; exact ⟨ff, hT.gF⟩
      | 1, hr, hTm => cases hr; cases hTm; exact ⟨fb, hT.gB⟩
      | i + 2, hr, hTm => simp at hr
    · rename_i c
      rw [if_neg c] at hTm
      match i, hr, hTm with
      | 0, hr, hTm => cases hr; cases hTm; exact ⟨fb, hT.gB⟩
      | 1, hr, hTm => cases hr; cases hTm; exact ⟨ff, hT.gF⟩
      | i + 2, hr, hTm => simp at hr
omit hT h12 in
theorem start_t2 (h : 1 ≤ BB) : FitT (tn2 N B F) [N 0] (tn2 N B F).start ∧ GoodM BB (tn2 N B F).start := by
  refine ⟨fun c hcc => ?_, call_okM _ _, by show levM (.call 0 0) ≤ BB; rw [levM]; omega, by show sizeM (.call 0 0) ≤ 1000; rw [sizeM]; omega⟩
  have : c = (0, 0) := by
    change c ∈ callsM (.call 0 0) at hcc
    rwa [callsM, List.mem_singleton] at hcc
  subst this
  exact ⟨Int.le_refl _, Int.le_refl _, _, rfl, rfl⟩
/-- the chain's outcome -/
def out2 (B F : Trm) (M : Nat → Int) : Nat → Tr
  | 0 => putL (M 0) noTr B
  | k + 1 => putL (M (k + 1)) (out2 B F M k) F
where noTr : Tr := .mk Str.empty 0 []
theorem mad_t2 : ∀ k, madT (tn2 N B F) (chK N M k) (ruleF (tn2 N B F) 0 (trNm (chK N M k))) = out2 B F M k
  | 0 => by
    rw [chK_nm, if_pos rfl, (rule_t2 h12).1, chK, out2]
    exact mad_putL _ _ _ _ _ B fun c hc => by rw [hT.nB] at hc; cases hc
  | k + 1 => by
    rw [chK_nm, if_neg (by omega), (rule_t2 h12).2, chK, out2]
    refine mad_putL _ _ _ _ _ F fun c hc => ?_
    rw [hT.nF c hc]
    exact (madT_call (i := 0) rfl).trans (mad_t2 k)
theorem above_t2 (k : Nat) : madT (tn2 N B F) (aboveT (chK N M k)) (tn2 N B F).start = out2 B F M k := by
  unfold aboveT
  exact (madT_call (m := 0) (i := 0) rfl).trans (mad_t2 h12 hT M k)
end
def leafT (nm : Str) : Trm := .put nm true 0 []
def wideT (nm : Str) (A : Int) (c : Nat) (inner : List Trm) : Trm := .put nm false A (List.replicate c (leafT nm) ++ inner)
def deepT (nm : Str) (A : Int) (inner : List Trm) : Nat → Trm
  | 0 => .put nm true A inner
  | c + 1 => .put nm (c % 2 == 0) A [deepT nm A inner c]
theorem sizeTs_app' : ∀ a b : List Tr, sizeTs (a ++ b) = sizeTs a + sizeTs b
  | [], b => by rw [List.nil_append, sizeTs]; omega
  | x :: a, b => by rw [List.cons_append, sizeTs, sizeTs, sizeTs_app' a b]; omega
theorem levTs_app : ∀ a b : List Tr, levTs (a ++ b) = max (levTs a) (levTs b)
  | [], b => by rw [List.nil_append, levTs]; omega
  | x :: a, b => by rw [List.cons_append, levTs, levTs, levTs_app a b]; omega
theorem levMs_app : ∀ a b : List Trm, levMs (a ++ b) = max (levMs a) (levMs b)
  | [], b => by rw [List.nil_append, levMs]; omega
  | x :: a, b => by rw [List.cons_append, levMs, levMs, levMs_app a b]; omega
theorem leaves (nm : Str) : ∀ c, sizeMs (List.replicate c (leafT nm)) = c ∧ levMs (List.replicate c (leafT nm)) = min c 1 ∧ callsMs (List.replicate c (leafT nm)) = []
  | 0 => by simp [sizeMs, levMs, callsMs]
  | c + 1 => by
    obtain ⟨a, b, d⟩ := leaves nm c
    rw [List.replicate_succ, sizeMs, levMs, callsMs, a, b, d]
    unfold leafT
    rw [sizeM, levM, callsM, sizeMs, levMs, callsMs]
    refine ⟨by omega, by omega, rfl⟩
theorem leavesT (nm : Str) (mk : Int) (b : Tr) : ∀ c, sizeTs ((List.replicate c (leafT nm)).map (putL mk b)) = c ∧ levTs ((List.replicate c (leafT nm)).map (putL mk b)) = min c 1
  | 0 => by simp [sizeTs, levTs]
  | c + 1 => by
    obtain ⟨a, d⟩ := leavesT nm mk b c
    rw [List.replicate_succ, List.map_cons, sizeTs, levTs, a, d]
    unfold leafT
    rw [putL, sizeT, levT, putLs, sizeTs, levTs]
    refine ⟨by omega, by omega⟩
theorem good_wide {nm : Str} (hn : PyData.strOk nm = true) (A : Int) {c : Nat} (hc : c ≤ 900) {inner : List Trm} (hi : inner = [] ∨ inner = [.call 0 0]) : GoodM 2 (wideT nm A c inner) ∧ ∀ x ∈ callsM (wideT nm A c inner), inner ≠ [] ∧ x = (0, 0) := by
  obtain ⟨a, b, d⟩ := leaves nm c
  unfold wideT
  refine ⟨⟨?_, ?_, ?_⟩, fun x hx => ?_⟩
  · rw [okM, okMs_iff]
    refine ⟨hn, by rcases hi with rfl | rfl <;> simp <;> omega, fun p hp => ?_⟩
    rcases List.mem_append.mp hp with hp | hp
    · rw [List.eq_of_mem_replicate hp, leafT, okM, okMs]
      exact ⟨hn, by simp, trivial⟩
    · rcases hi with rfl | rfl
      · cases hp
      · rw [List.mem_singleton.mp hp]
        exact call_okM _ _
  · rw [levM, levMs_app, b]
    rcases hi with rfl | rfl
    · rw [levMs]; omega
    · rw [levMs, levMs, levM]; omega
  · rw [sizeM, sizeMs_app, a]
    rcases hi with rfl | rfl
    · rw [sizeMs]; omega
    · rw [sizeMs, sizeMs, sizeM]; omega
  · rw [callsM, callsMs_app, d, List.nil_append] at hx
    rcases hi with rfl | rfl
    · rw [callsMs] at hx; cases hx
    · rw [callsMs, callsMs, callsM, List.append_nil, List.mem_singleton] at hx
      exact ⟨by simp, hx⟩
theorem good_deep {nm : Str} (hn : PyData.strOk nm = true) (A : Int) {inner : List Trm} (hi : inner = [] ∨ inner = [.call 0 0]) : ∀ c, okM (deepT nm A inner c) ∧ levM (deepT nm A inner c) = c + 1 + inner.length ∧ sizeM (deepT nm A inner c) = c + 1 + inner.length ∧ ∀ x ∈ callsM (deepT nm A inner c), inner ≠ [] ∧ x = (0, 0)
  | 0 => by
    rw [deepT]
    rcases hi with rfl | rfl
    · refine ⟨by rw [okM, okMs]; exact ⟨hn, by simp, trivial⟩, by rw [levM, levMs]; rfl, by rw [sizeM, sizeMs]; rfl, fun x hx => ?_⟩
      rw [callsM, callsMs] at hx
      cases hx
    · refine ⟨by rw [okM, okMs_iff]; exact ⟨hn, by simp, fun p hp => by rw [List.mem_singleton.mp hp]; exact call_okM _ _⟩, by rw [levM, levMs, levMs, levM]; simp, by rw [sizeM, sizeMs, sizeMs, sizeM]; simp, fun x hx => ?_⟩
      rw [callsM, callsMs, callsMs, callsM, List.append_nil, List.mem_singleton] at hx
      exact ⟨by simp, hx⟩
  | c + 1 => by
    obtain ⟨a, b, d, e⟩ := good_deep hn A hi c
    rw [deepT]
    refine ⟨by rw [okM, okMs_iff]; exact ⟨hn, by simp, fun p hp => by rw [List.mem_singleton.mp hp]; exact a⟩, by rw [levM, levMs, levMs, b]; omega, by rw [sizeM, sizeMs, sizeMs, d]; omega, fun x hx => ?_⟩
    rw [callsM, callsMs, callsMs, List.append_nil] at hx
    exact e x hx
theorem put_wide (nm : Str) (A mk : Int) (b : Tr) (c : Nat) : (sizeT (putL mk b (wideT nm A c [])) = c + 1 ∧ levT (putL mk b (wideT nm A c [])) = 1 + min c 1) ∧ sizeT (putL mk b (wideT nm A c [.call 0 0])) = c + 1 + sizeT b ∧ levT (putL mk b (wideT nm A c [.call 0 0])) = 1 + max (min c 1) (levT b) := by
  obtain ⟨s, l⟩ := leavesT nm mk b c
  unfold wideT
  rw [putL_put, putL_put, List.map_append, List.map_append, sizeT, sizeT, levT, levT, sizeTs_app', sizeTs_app', levTs_app, levTs_app, s, l]
  simp only [List.map_cons, List.map_nil, putL, sizeTs, levTs]
  refine ⟨⟨by omega, by omega⟩, by omega, by omega⟩
theorem put_deep (nm : Str) (A mk : Int) (b : Tr) : ∀ c, (sizeT (putL mk b (deepT nm A [] c)) = c + 1 ∧ levT (putL mk b (deepT nm A [] c)) = c + 1) ∧ sizeT (putL mk b (deepT nm A [.call 0 0] c)) = c + 1 + sizeT b ∧ levT (putL mk b (deepT nm A [.call 0 0] c)) = c + 1 + levT b
  | 0 => by
    refine ⟨⟨?_, ?_⟩, ?_, ?_⟩ <;> simp only [deepT, putL, putLs, sizeT, sizeTs, levT, levTs] <;> omega
  | c + 1 => by
    obtain ⟨⟨a, d⟩, e, f⟩ := put_deep nm A mk b c
    simp only [deepT, putL, putLs, sizeT, sizeTs, levT, levTs, a, d, e, f]
    refine ⟨⟨by omega, by omega⟩, by omega, by omega⟩
end Mir
set_option Elab.async false
set_option linter.all false
set_option maxRecDepth 100000
set_option maxHeartbeats 4000000
namespace G
open PySem PySem.Spec L2 Mir
def top (i : Nat) : Stmt := PySem.Challenge.pw_turnery_k26_outcomes_too_great.main.body.getD i (.Pass ⟨0, 0, 0, 0⟩)
abbrev s_calls_of : Stmt := top 5
abbrev s_rows_of : Stmt := top 7
abbrev s_row_of : Stmt := top 8
abbrev s_is_of : Stmt := top 9
abbrev s_row_number : Stmt := top 11
abbrev s_rule_of : Stmt := top 12
abbrev s_look : Stmt := top 14
abbrev s_above : Stmt := top 15
abbrev s_mark_of : Stmt := top 16
abbrev s_modes_on : Stmt := top 17
abbrev s_measure : Stmt := top 18
abbrev s_below_of : Stmt := top 19
abbrev s_measured : Stmt := top 20
abbrev s_many : Stmt := top 21
abbrev s_tall : Stmt := top 22
abbrev s_settled : Stmt := top 23
abbrev s_seen_from : Stmt := top 24
abbrev s_seen : Stmt := top 25
abbrev s_made : Stmt := top 27
abbrev s_made_within : Stmt := top 28
abbrev s_turned : Stmt := top 29
abbrev s_turned_in : Stmt := top 30
abbrev s__law_cell_at : Stmt := top 32
abbrev s__law_mixed : Stmt := top 33
abbrev s__law_names : Stmt := top 34
abbrev s__law_great : Stmt := top 35
abbrev s__law_whole : Stmt := top 36
abbrev s__law_wide : Stmt := top 37
abbrev s__law_deep : Stmt := top 38
abbrev s__law_kept : Stmt := top 39
abbrev s__law_put : Stmt := top 40
abbrev s__law_walk : Stmt := top 41
abbrev s__law_answer : Stmt := top 42
abbrev s__law_rules : Stmt := top 43
abbrev s_law : Stmt := top 44
/-- calls_of: 0 term, 1 found, 2 part -/
noncomputable def b_calls_of (m : Nat → List PyData → R Ow) : Ev → SR :=
    (sSeq (sIf (eB (eBin gEq (eBin gIx (eVar 0) (eC (.int 0))) (eC (.str "call"))) asB)
    (sRet (eLst (aCons (eTup (aCons (eBin gIx (eVar 0) (eC (.int 1))) (aCons (eBin gIx (eVar 0) (eC (.int 2))) aNil))) aNil)))
    sSkip)
    (sSeq (sSet 1 (eLst aNil))
    (sSeq (sFor (eB (eBin gIx (eVar 0) (eC (.int 4))) itD) (gtName 2)
    (sExt 1 (eB (eB (aCons (eVar 2) aNil) (m 0)) shD)))
    (sRetV 1))))
/-- rows_of: 0 wood, 1 kind, 2 told, 3 rows -/
noncomputable def b_rows_of (m : Nat → List PyData → R Ow) : Ev → SR :=
    (sSeq (sFor (eB (eVar 0) itD) (gtTup 2 (gtCons (gtName 2) (gtCons (gtName 3) gtNil)))
    (sIf (eB (eBin gEq (eVar 2) (eVar 1)) asB)
    (sRet (eM (eVar 3) Ow.d))
    sSkip))
    (sRet (eLst aNil)))
/-- row_of: 0 wood, 1 kind, 2 name, 3 told, 4 branches -/
noncomputable def b_row_of (m : Nat → List PyData → R Ow) : Ev → SR :=
    (sSeq (sFor (eB (eM (eB (aCons (eVar 0) (aCons (eVar 1) aNil)) (m 1)) viewD) itD) (gtTup 2 (gtCons (gtName 3) (gtCons (gtName 4) gtNil)))
    (sIf (eB (eBin gEq (eVar 3) (eVar 2)) asB)
    (sRet (eM (eVar 4) Ow.d))
    sSkip))
    (sRet (eM (eC .none) Ow.d)))
/-- is_of: 0 wood, 1 kind, 2 tree, 3 branches, 4 wanted, 5 branch -/
noncomputable def b_is_of (m : Nat → List PyData → R Ow) : Ev → SR :=
    (sSeq (sSet 3 (eM (eM (eB (aCons (eVar 0) (aCons (eVar 1) (aCons (eBin gIx (eVar 2) (eC (.int 0))) aNil))) (m 2)) viewD) Ow.d))
    (sSeq (sIf (tOrE (eB (eBin gIsN (eVar 3) (eC .none)) asB) (eB (eBin gNe (eM (eCa gLen (aCons (eVar 3) aNil)) viewD) (eM (eCa gLen (aCons (eBin gIx (eVar 2) (eC (.int 2))) aNil)) viewD)) asB))
    (sRet (eM (eC (.bool false)) Ow.d))
    sSkip)
    (sSeq (sFor (eB (aCons (eVar 3) (aCons (eBin gIx (eVar 2) (eC (.int 2))) aNil)) zpArg) (gtTup 2 (gtCons (gtName 4) (gtCons (gtName 5) gtNil)))
    (sIf (tNotE (eB (eM (eB (aCons (eVar 0) (aCons (eVar 4) (aCons (eVar 5) aNil))) (m 3)) viewD) asB))
    (sRet (eM (eC (.bool false)) Ow.d))
    sSkip))
    (sRet (eM (eC (.bool true)) Ow.d)))))
/-- row_number: 0 wood, 1 kind, 2 name, 3 k, 4 row -/
noncomputable def b_row_number (m : Nat → List PyData → R Ow) : Ev → SR :=
    (sSeq (sFor (eB (aCons (eM (eB (aCons (eVar 0) (aCons (eVar 1) aNil)) (m 1)) viewD) aNil) enArg) (gtTup 2 (gtCons (gtName 3) (gtCons (gtName 4) gtNil)))
    (sIf (eB (eBin gEq (eBin gIx (eVar 4) (eC (.int 0))) (eVar 2)) asB)
    (sRet (eM (eVar 3) Ow.d))
    sSkip))
    (sRet (eM (eC .none) Ow.d)))
/-- rule_of: 0 turning, 1 mode, 2 name, 3 kind, 4 rules, 5 k -/
noncomputable def b_rule_of (m : Nat → List PyData → R Ow) : Ev → SR :=
    (sSeq (sAsg (gtTup 2 (gtCons (gtName 3) (gtCons (gtName 4) gtNil))) (eBin gIx (eBin gIx (eVar 0) (eC (.int 2))) (eVar 1)))
    (sSeq (sSet 5 (eM (eM (eB (aCons (eBin gIx (eVar 0) (eC (.int 0))) (aCons (eVar 3) (aCons (eVar 2) aNil))) (m 4)) viewD) Ow.d))
    (sSeq (sIf (eB (eBin gIsN (eVar 5) (eC .none)) asB)
    (sRet (eM (eC .none) Ow.d))
    sSkip)
    (sRet (eM (eBin gIx (eVar 4) (eVar 5)) Ow.d)))))
/-- look: 0 turning, 1 kind, 2 tree -/
noncomputable def b_look (m : Nat → List PyData → R Ow) : Ev → SR :=
    (sIf (tNotE (eB (eM (eB (aCons (eBin gIx (eVar 0) (eC (.int 0))) (aCons (eVar 1) (aCons (eVar 2) aNil))) (m 3)) viewD) asB))
    (sRaise "NoTree")
    sSkip)
/-- above: 0 tree -/
noncomputable def b_above (m : Nat → List PyData → R Ow) : Ev → SR :=
    (sRet (eM (eTup (aCons (eC (.str "")) (aCons (eC (.int 0)) (aCons (eTup (aCons (eVar 0) aNil)) aNil)))) Ow.d))
/-- mark_of: 0 put, 1 read -/
noncomputable def b_mark_of (m : Nat → List PyData → R Ow) : Ev → SR :=
    (sSeq (sIf (eB (eBin gIx (eVar 0) (eC (.int 2))) asB)
    (sRet (eBinO gAdd (eBin gIx (eVar 0) (eC (.int 3))) (eBin gIx (eVar 1) (eC (.int 1)))))
    sSkip)
    (sRet (eM (eBin gIx (eVar 0) (eC (.int 3))) Ow.d)))
/-- modes_on: 0 terms, 1 branch, 2 found, 3 term, 4 mode, 5 number -/
noncomputable def b_modes_on (m : Nat → List PyData → R Ow) : Ev → SR :=
    (sSeq (sSet 2 eDictNew)
    (sSeq (sFor (eB (eVar 0) itD) (gtName 3)
    (sFor (eB (eM (eB (aCons (eVar 3) aNil) (m 0)) viewD) itD) (gtTup 2 (gtCons (gtName 4) (gtCons (gtName 5) gtNil)))
    (sIf (eB (eBin gEq (eVar 5) (eVar 1)) asB)
    (sPutM 2 (eC (.bool true)) (eVar 4))
    sSkip)))
    (sRet (eSortM 2))))
/-- measure: 0 term, 1 below, 2 names, 3 deep, 4 part, 5 found -/
noncomputable def b_measure (m : Nat → List PyData → R Ow) : Ev → SR :=
    (sSeq (sIf (eB (eBin gEq (eBin gIx (eVar 0) (eC (.int 0))) (eC (.str "call"))) asB)
    (sRet (eM (eBin gGetD (eBin gIx (eVar 1) (eBin gIx (eVar 0) (eC (.int 2)))) (eBin gIx (eVar 0) (eC (.int 1)))) Ow.d))
    sSkip)
    (sSeq (sSet 2 (eM (eC (.int 1)) Ow.d))
    (sSeq (sSet 3 (eM (eC (.int 0)) Ow.d))
    (sSeq (sFor (eB (eBin gIx (eVar 0) (eC (.int 4))) itD) (gtName 4)
    (sSeq (sSet 5 (eM (eM (eB (aCons (eVar 4) (aCons (eVar 1) aNil)) (m 10)) viewD) Ow.d))
    (sSeq (sAug gAddA 2 (eBin gIx (eVar 5) (eC (.int 0))))
    (sSet 3 (eM (eM (eCa gMax2 (aCons (eVar 3) (aCons (eBin gIx (eVar 5) (eC (.int 1))) aNil))) viewD) Ow.d)))))
    (sRet (eM (eTup (aCons (eVar 2) (aCons (eM (eBinO gAdd (eVar 3) (eC (.int 1))) viewD) aNil))) Ow.d))))))
/-- below_of: 0 turning, 1 terms, 2 read, 3 below, 4 branch, 5 tree, 6 modes, 7 rules, 8 mode, 9 inner, 10 found, 11 rule -/
noncomputable def b_below_of (m : Nat → List PyData → R Ow) : Ev → SR :=
    (sSeq (sSet 3 (eLst aNil))
    (sSeq (sFor (eB (aCons (eBin gIx (eVar 2) (eC (.int 2))) aNil) enArg) (gtTup 2 (gtCons (gtName 4) (gtCons (gtName 5) gtNil)))
    (sSeq (sSet 6 (eM (eM (eB (aCons (eVar 1) (aCons (eVar 4) aNil)) (m 9)) viewD) Ow.d))
    (sSeq (sSet 7 (eM (eM (eLc (eB (eVar 6) itD) (gtName 8) cYes (eB (aCons (eVar 0) (aCons (eVar 8) (aCons (eBin gIx (eVar 5) (eC (.int 0))) aNil))) (m 5)) (List.map (·.2) ([("mode", 8)] : List (Str × Nat)))) viewD) Ow.d))
    (sSeq (sSet 9 (eM (eM (eB (aCons (eVar 0) (aCons (eVar 7) (aCons (eVar 5) aNil))) (m 11)) viewD) Ow.d))
    (sSeq (sSet 10 eDictNew)
    (sSeq (sFor (eB (aCons (eVar 6) (aCons (eVar 7) aNil)) zpArg) (gtTup 2 (gtCons (gtName 8) (gtCons (gtName 11) gtNil)))
    (sPutM 10 (eM (eB (aCons (eVar 11) (aCons (eVar 9) aNil)) (m 10)) viewD) (eVar 8)))
    (sFrz 10 (sApp 3 (eM (eVar 10) Ow.d)))))))))
    (sRetV 3)))
/-- measured: 0 turning, 1 term, 2 read -/
noncomputable def b_measured (m : Nat → List PyData → R Ow) : Ev → SR :=
    (sRet (eB (aCons (eVar 1) (aCons (eM (eB (aCons (eVar 0) (aCons (eM (eLst (aCons (eVar 1) aNil)) viewD) (aCons (eVar 2) aNil))) (m 11)) viewD) aNil)) (m 10)))
/-- many: 0 turning, 1 tree -/
noncomputable def b_many (m : Nat → List PyData → R Ow) : Ev → SR :=
    (sSeq (sDrop (eM (eB (aCons (eVar 0) (aCons (eBin gIx (eBin gIx (eBin gIx (eVar 0) (eC (.int 0))) (eC (.int 0))) (eC (.int 0))) (aCons (eVar 1) aNil))) (m 6)) viewD))
    (sRet (eM (eBin gIx (eB (eB (aCons (eVar 0) (aCons (eBin gIx (eVar 0) (eC (.int 1))) (aCons (eM (eB (aCons (eVar 1) aNil) (m 7)) viewD) aNil))) (m 12)) shD) (eC (.int 0))) Ow.d)))
/-- tall: 0 turning, 1 tree -/
noncomputable def b_tall (m : Nat → List PyData → R Ow) : Ev → SR :=
    (sSeq (sDrop (eM (eB (aCons (eVar 0) (aCons (eBin gIx (eBin gIx (eBin gIx (eVar 0) (eC (.int 0))) (eC (.int 0))) (eC (.int 0))) (aCons (eVar 1) aNil))) (m 6)) viewD))
    (sRet (eM (eBin gIx (eB (eB (aCons (eVar 0) (aCons (eBin gIx (eVar 0) (eC (.int 1))) (aCons (eM (eB (aCons (eVar 1) aNil) (m 7)) viewD) aNil))) (m 12)) shD) (eC (.int 1))) Ow.d)))
/-- settled: 0 turning, 1 term, 2 read -/
noncomputable def b_settled (m : Nat → List PyData → R Ow) : Ev → SR :=
    (sSeq (whileN (eB (eBin gEq (eBin gIx (eVar 1) (eC (.int 0))) (eC (.str "call"))) asB)
    (sSeq (sSet 2 (eM (eBin gIx (eBin gIx (eVar 2) (eC (.int 2))) (eBin gIx (eVar 1) (eC (.int 2)))) Ow.d))
    (sSet 1 (eM (eM (eB (aCons (eVar 0) (aCons (eBin gIx (eVar 1) (eC (.int 1))) (aCons (eBin gIx (eVar 2) (eC (.int 0))) aNil))) (m 5)) viewD) Ow.d))) 1000000)
    (sRet (eM (eTup (aCons (eVar 1) (aCons (eVar 2) aNil))) Ow.d)))
/-- seen_from: 0 turning, 1 term, 2 read, 3 place, 4 here, 5 branch -/
noncomputable def b_seen_from (m : Nat → List PyData → R Ow) : Ev → SR :=
    (sSeq (sAsg (gtTup 2 (gtCons (gtName 4) (gtCons (gtName 2) gtNil))) (eM (eB (aCons (eVar 0) (aCons (eVar 1) (aCons (eVar 2) aNil))) (m 15)) viewD))
    (sSeq (sFor (eB (eVar 3) itD) (gtName 5)
    (sSeq (sIf (tOrE (eB (eBin gLt (eVar 5) (eC (.int 0))) asB) (eB (eBin gGe (eVar 5) (eM (eCa gLen (aCons (eBin gIx (eVar 4) (eC (.int 4))) aNil)) viewD)) asB))
    (sRet (eM (eC .none) Ow.d))
    sSkip)
    (sAsg (gtTup 2 (gtCons (gtName 4) (gtCons (gtName 2) gtNil))) (eM (eB (aCons (eVar 0) (aCons (eBin gIx (eBin gIx (eVar 4) (eC (.int 4))) (eVar 5)) (aCons (eVar 2) aNil))) (m 15)) viewD))))
    (sRet (eM (eTup (aCons (eBin gIx (eVar 4) (eC (.int 1))) (aCons (eM (eB (aCons (eVar 4) (aCons (eVar 2) aNil)) (m 8)) viewD) (aCons (eM (eCa gLen (aCons (eBin gIx (eVar 4) (eC (.int 4))) aNil)) viewD) aNil)))) Ow.d))))
/-- seen: 0 turning, 1 tree, 2 place -/
noncomputable def b_seen (m : Nat → List PyData → R Ow) : Ev → SR :=
    (sSeq (sDrop (eM (eB (aCons (eVar 0) (aCons (eBin gIx (eBin gIx (eBin gIx (eVar 0) (eC (.int 0))) (eC (.int 0))) (eC (.int 0))) (aCons (eVar 1) aNil))) (m 6)) viewD))
    (sRet (eB (aCons (eVar 0) (aCons (eBin gIx (eVar 0) (eC (.int 1))) (aCons (eM (eB (aCons (eVar 1) aNil) (m 7)) viewD) (aCons (eVar 2) aNil)))) (m 16))))
/-- made: 0 turning, 1 term, 2 read, 3 branch, 4 parts, 5 part -/
noncomputable def b_made (m : Nat → List PyData → R Ow) : Ev → SR :=
    (sSeq (sIf (eB (eBin gEq (eBin gIx (eVar 1) (eC (.int 0))) (eC (.str "call"))) asB)
    (sSeq (sSet 3 (eM (eBin gIx (eBin gIx (eVar 2) (eC (.int 2))) (eBin gIx (eVar 1) (eC (.int 2)))) Ow.d))
    (sRet (eB (aCons (eVar 0) (aCons (eM (eB (aCons (eVar 0) (aCons (eBin gIx (eVar 1) (eC (.int 1))) (aCons (eBin gIx (eVar 3) (eC (.int 0))) aNil))) (m 5)) viewD) (aCons (eVar 3) aNil))) (m 18))))
    sSkip)
    (sSeq (sSet 4 (eLst aNil))
    (sSeq (sFor (eB (eBin gIx (eVar 1) (eC (.int 4))) itD) (gtName 5)
    (sApp 4 (eB (aCons (eVar 0) (aCons (eVar 5) (aCons (eVar 2) aNil))) (m 18))))
    (sRet (eM (eTup (aCons (eBin gIx (eVar 1) (eC (.int 1))) (aCons (eM (eB (aCons (eVar 1) (aCons (eVar 2) aNil)) (m 8)) viewD) (aCons (eM (eCa gTuple (aCons (eB (eVarO 4) shD) aNil)) viewD) aNil)))) Ow.d)))))
/-- made_within: 0 turning, 1 term, 2 read, 3 names, 4 deep -/
noncomputable def b_made_within (m : Nat → List PyData → R Ow) : Ev → SR :=
    (sSeq (sAsg (gtTup 2 (gtCons (gtName 3) (gtCons (gtName 4) gtNil))) (eM (eB (aCons (eVar 0) (aCons (eVar 1) (aCons (eVar 2) aNil))) (m 12)) viewD))
    (sSeq (sIf (tOrE (eB (eBin gGt (eVar 3) (eC (.int 400))) asB) (eB (eBin gGt (eVar 4) (eC (.int 60))) asB))
    (sRaise "TooGreat")
    sSkip)
    (sRet (eB (aCons (eVar 0) (aCons (eVar 1) (aCons (eVar 2) aNil))) (m 18)))))
/-- turned: 0 turning, 1 tree -/
noncomputable def b_turned (m : Nat → List PyData → R Ow) : Ev → SR :=
    (sSeq (sDrop (eM (eB (aCons (eVar 0) (aCons (eBin gIx (eBin gIx (eBin gIx (eVar 0) (eC (.int 0))) (eC (.int 0))) (eC (.int 0))) (aCons (eVar 1) aNil))) (m 6)) viewD))
    (sRet (eB (aCons (eVar 0) (aCons (eBin gIx (eVar 0) (eC (.int 1))) (aCons (eM (eB (aCons (eVar 1) aNil) (m 7)) viewD) aNil))) (m 19))))
/-- turned_in: 0 turning, 1 mode, 2 tree -/
noncomputable def b_turned_in (m : Nat → List PyData → R Ow) : Ev → SR :=
    (sSeq (sDrop (eM (eB (aCons (eVar 0) (aCons (eBin gIx (eBin gIx (eBin gIx (eVar 0) (eC (.int 2))) (eVar 1)) (eC (.int 0))) (aCons (eVar 2) aNil))) (m 6)) viewD))
    (sRet (eB (aCons (eVar 0) (aCons (eTup (aCons (eC (.str "call")) (aCons (eVar 1) (aCons (eC (.int 0)) aNil)))) (aCons (eM (eB (aCons (eVar 2) aNil) (m 7)) viewD) aNil))) (m 19))))
/-- _law_cell_at: 0 _law_script, 1 _law_k -/
noncomputable def b__law_cell_at (m : Nat → List PyData → R Ow) : Ev → SR :=
    (sSeq (sIf (eB (eBin gLt (eVar 1) (eM (eCa gLen (aCons (eVar 0) aNil)) viewD)) asB)
    (sRet (eM (eBin gIx (eVar 0) (eVar 1)) Ow.d))
    sSkip)
    (sRet (eM (eC (.int 0)) Ow.d)))
/-- _law_mixed: 0 _law_cell, 1 _law_k, 2 _law_number -/
noncomputable def b__law_mixed (m : Nat → List PyData → R Ow) : Ev → SR :=
    (sSeq (sSet 2 (eM (eM (eBinO gAdd (eBin gMod (eVar 0) (eC (.int 2147483647))) (eBin gMul (eC (.int 48271)) (eM (eBinO gAdd (eVar 1) (eC (.int 1))) viewD))) viewD) Ow.d))
    (sSeq (sSet 2 (eM (eBin gMod (eM (eBinO gAdd (eBin gMul (eVar 2) (eVar 2)) (eBin gMul (eC (.int 69621)) (eVar 1))) viewD) (eC (.int 2147483647))) Ow.d))
    (sRet (eM (eBin gMod (eM (eBinO gAdd (eB (eBinO gAdd (eBin gMul (eVar 2) (eVar 2)) (eBin gMul (eC (.int 16807)) (eVar 1))) shD) (eC (.int 1))) viewD) (eC (.int 2147483647))) Ow.d))))
/-- _law_names: 0 _law_cell, 1 _law_letters, 2 _law_base, 3 _law_j, 4 _law_k, 5 _law_width, 6 _law_spot, 7 _law_names_here, 8 _law_moved -/
noncomputable def b__law_names (m : Nat → List PyData → R Ow) : Ev → SR :=
    (sSeq (sSet 1 (eM (eC (.str "abcdefghijklmnopqrstuvwxyz")) Ow.d))
    (sSeq (sSet 2 (eM (eM (eLc (eB (aCons (eC (.int 8)) aNil) rg1) (gtName 3) cYes (eM (eBin gMod (eM (eB (aCons (eVar 0) (aCons (eVar 3) aNil)) (m 23)) viewD) (eC (.int 26))) Ow.d) (List.map (·.2) ([("_law_j", 3)] : List (Str × Nat)))) viewD) Ow.d))
    (sSeq (sIf (eB (eBin gEq (eBin gMod (eBin gDiv (eVar 0) (eC (.int 64))) (eC (.int 4))) (eC (.int 1))) asB)
    (sRet (eLc (eB (aCons (eC (.int 8)) aNil) rg1) (gtName 4) cYes (eM (eJoin (eC (.str "")) (eB (eLc (eB (eM (eSl (eVar 2) oNone (eB (eM (eBinO gAdd (eVar 4) (eC (.int 1))) viewD) asI)) viewD) itD) (gtName 3) cYes (eM (eBin gIx (eVar 1) (eVar 3)) Ow.d) (List.map (·.2) ([("_law_j", 3)] : List (Str × Nat)))) shD)) Ow.d) (List.map (·.2) ([("_law_k", 4)] : List (Str × Nat)))))
    sSkip)
    (sSeq (sSet 5 (eM (eM (eBinO gAdd (eC (.int 1)) (eBin gMod (eVar 0) (eC (.int 8)))) viewD) Ow.d))
    (sSeq (sSet 6 (eM (eBin gMod (eBin gDiv (eVar 0) (eC (.int 8))) (eVar 5)) Ow.d))
    (sSeq (sSet 7 (eLst aNil))
    (sSeq (sFor (eB (aCons (eC (.int 8)) aNil) rg1) (gtName 4)
    (sSeq (sSet 8 (eSl (eVar 2) oNone (eB (eVar 5) asI)))
    (sSeq (sPut 8 (eM (eBin gMod (eM (eBinO gAdd (eBin gIx (eB (eVarO 8) shD) (eVar 6)) (eVar 4)) viewD) (eC (.int 26))) Ow.d) (eVar 6))
    (sFrz 8 (sApp 7 (eM (eJoin (eC (.str "")) (eB (eLc (eB (eVar 8) itD) (gtName 3) cYes (eM (eBin gIx (eVar 1) (eVar 3)) Ow.d) (List.map (·.2) ([("_law_j", 3)] : List (Str × Nat)))) shD)) Ow.d))))))
    (sRetV 7))))))))
/-- _law_great: 0 _law_cell -/
noncomputable def b__law_great (m : Nat → List PyData → R Ow) : Ev → SR :=
    (sRet (eM (eBin gSub (eBin gMod (eVar 0) (eM (eBinO gAdd (eBin gMul (eC (.int 2)) (eBin gPow (eC (.int 10)) (eC (.int 59)))) (eC (.int 1))) viewD)) (eBin gPow (eC (.int 10)) (eC (.int 59)))) Ow.d))
/-- _law_whole: 0 _law_found -/
noncomputable def b__law_whole (m : Nat → List PyData → R Ow) : Ev → SR :=
    (sRet (eM (eAnd (eB (eVar 0) (gIsi "int")) (eNot (eB (eVar 0) (gIsi "bool")))) Ow.d))
/-- _law_wide: 0 _law_name, 1 _law_add, 2 _law_count, 3 _law_inner, 4 _law_k -/
noncomputable def b__law_wide (m : Nat → List PyData → R Ow) : Ev → SR :=
    (sRet (eM (eTup (aCons (eC (.str "put")) (aCons (eVar 0) (aCons (eC (.bool false)) (aCons (eVar 1) (aCons (eM (eBinO gAdd (eB (eCa gTuple (aCons (eB (eLc (eB (aCons (eVar 2) aNil) rg1) (gtName 4) cYes (eM (eTup (aCons (eC (.str "put")) (aCons (eVar 0) (aCons (eC (.bool true)) (aCons (eC (.int 0)) (aCons (eTup aNil) aNil)))))) Ow.d) (List.map (·.2) ([("_law_k", 4)] : List (Str × Nat)))) shD) aNil)) shD) (eVar 3)) viewD) aNil)))))) Ow.d))
/-- _law_deep: 0 _law_name, 1 _law_add, 2 _law_count, 3 _law_inner, 4 _law_term, 5 _law_k -/
noncomputable def b__law_deep (m : Nat → List PyData → R Ow) : Ev → SR :=
    (sSeq (sSet 4 (eM (eTup (aCons (eC (.str "put")) (aCons (eVar 0) (aCons (eC (.bool true)) (aCons (eVar 1) (aCons (eVar 3) aNil)))))) Ow.d))
    (sSeq (sFor (eB (aCons (eVar 2) aNil) rg1) (gtName 5)
    (sSet 4 (eM (eTup (aCons (eC (.str "put")) (aCons (eVar 0) (aCons (eBin gEq (eBin gMod (eVar 5) (eC (.int 2))) (eC (.int 0))) (aCons (eVar 1) (aCons (eTup (aCons (eVar 4) aNil)) aNil)))))) Ow.d)))
    (sRet (eM (eVar 4) Ow.d))))
/-- _law_kept: 0 _law_term, 1 _law_mark -/
noncomputable def b__law_kept (m : Nat → List PyData → R Ow) : Ev → SR :=
    (sRet (eBinO gAdd (eBin gIx (eVar 0) (eC (.int 3))) (eBin gMul (eVar 1) (eM (eCa gInt (aCons (eBin gIx (eVar 0) (eC (.int 2))) aNil)) viewD))))
/-- _law_put: 0 _law_term, 1 _law_mark, 2 _law_below, 3 _law_parts, 4 _law_part -/
noncomputable def b__law_put (m : Nat → List PyData → R Ow) : Ev → SR :=
    (sSeq (sIf (eB (eBin gEq (eBin gIx (eVar 0) (eC (.int 0))) (eC (.str "call"))) asB)
    (sRet (eM (eVar 2) Ow.d))
    sSkip)
    (sSeq (sSet 3 (eM (eM (eLc (eB (eBin gIx (eVar 0) (eC (.int 4))) itD) (gtName 4) cYes (eB (aCons (eVar 4) (aCons (eVar 1) (aCons (eVar 2) aNil))) (m 30)) (List.map (·.2) ([("_law_part", 4)] : List (Str × Nat)))) viewD) Ow.d))
    (sRet (eM (eTup (aCons (eBin gIx (eVar 0) (eC (.int 1))) (aCons (eM (eB (aCons (eVar 0) (aCons (eVar 1) aNil)) (m 29)) viewD) (aCons (eM (eCa gTuple (aCons (eVar 3) aNil)) viewD) aNil)))) Ow.d))))
/-- _law_walk: 0 _law_found, 1 _law_due, 2 _law_todo, 3 _law_one, 4 _law_other -/
noncomputable def b__law_walk (m : Nat → List PyData → R Ow) : Ev → SR :=
    (sSeq (sSet 2 (eLst (aCons (eTup (aCons (eVar 0) (aCons (eVar 1) aNil))) aNil)))
    (sSeq (whileN (eB (eBin gNe (eM (eVarO 2) viewD) (eM (eLst aNil) viewD)) asB)
    (sSeq (sXAsg (gtTup 2 (gtCons (gtName 3) (gtCons (gtName 4) gtNil))) (xPop 2))
    (sSeq (sIf (tOrE (tNotE (eB (eB (eVar 3) (gIsi "tuple")) asB)) (tOrE (eB (eBin gNe (eM (eCa gLen (aCons (eVar 3) aNil)) viewD) (eC (.int 3))) asB) (tNotE (eB (eB (eBin gIx (eVar 3) (eC (.int 0))) (gIsi "str")) asB))))
    (sRet (eM (eC (.bool false)) Ow.d))
    sSkip)
    (sSeq (sIf (tOrE (tNotE (eB (eM (eB (aCons (eBin gIx (eVar 3) (eC (.int 1))) aNil) (m 26)) viewD) asB)) (tOrE (eB (eBin gNe (eM (eSl (eVar 3) oNone (eB (eC (.int 2)) asI)) viewD) (eM (eSl (eVar 4) oNone (eB (eC (.int 2)) asI)) viewD)) asB) (tNotE (eB (eB (eBin gIx (eVar 3) (eC (.int 2))) (gIsi "tuple")) asB))))
    (sRet (eM (eC (.bool false)) Ow.d))
    sSkip)
    (sSeq (sIf (eB (eBin gNe (eM (eCa gLen (aCons (eBin gIx (eVar 3) (eC (.int 2))) aNil)) viewD) (eM (eCa gLen (aCons (eBin gIx (eVar 4) (eC (.int 2))) aNil)) viewD)) asB)
    (sRet (eM (eC (.bool false)) Ow.d))
    sSkip)
    (sExt 2 (eB (eListZip (aCons (eBin gIx (eVar 3) (eC (.int 2))) (aCons (eBin gIx (eVar 4) (eC (.int 2))) aNil))) shD)))))) 1000000)
    (sRet (eM (eC (.bool true)) Ow.d))))
/-- _law_answer: 0 _law_turning, 1 _law_tree, 2 _law_ask, 3 e -/
noncomputable def b__law_answer (m : Nat → List PyData → R Ow) : Ev → SR :=
    (sTryT [("NoTree", false), ("TooGreat", true)] 3
    (sSeq (sIf (eB (eBin gEq (eVar 2) (eC (.int 0))) asB)
    (sRet (eB (aCons (eVar 0) (aCons (eVar 1) aNil)) (m 20)))
    sSkip)
    (sRet (eB (aCons (eVar 0) (aCons (eC (.int 0)) (aCons (eVar 1) aNil))) (m 21))))
    (sRet (eLst (aCons (eAnd (eB (eVar 3) (gIsE [("NoTree", true), ("TooGreat", true)])) (eAnd (eB (eVar 3) (gIsE [("NoTree", true), ("TooGreat", true)])) (eNot (eB (eVar 3) (gIsE [("NoTree", true), ("TooGreat", false)]))))) aNil))))
/-- _law_rules: 0 _law_names_here, 1 _law_add, 2 _law_sides, 3 _law_each, 4 _law_last, 5 _law_call -/
noncomputable def b__law_rules (m : Nat → List PyData → R Ow) : Ev → SR :=
    (sSeq (sSet 5 (eM (eTup (aCons (eTup (aCons (eC (.str "call")) (aCons (eC (.int 0)) (aCons (eC (.int 0)) aNil)))) aNil)) Ow.d))
    (sSeq (sIf (eB (eVar 2) asB)
    (sRet (eLst (aCons (eM (eB (aCons (eBin gIx (eVar 0) (eC (.int 3))) (aCons (eVar 1) (aCons (eBin gSub (eVar 4) (eC (.int 1))) (aCons (eTup aNil) aNil)))) (m 27)) viewD) (aCons (eM (eB (aCons (eBin gIx (eVar 0) (eC (.int 4))) (aCons (eVar 1) (aCons (eBin gSub (eVar 3) (eC (.int 1))) (aCons (eVar 5) aNil)))) (m 27)) viewD) aNil))))
    sSkip)
    (sRet (eLst (aCons (eM (eB (aCons (eBin gIx (eVar 0) (eC (.int 3))) (aCons (eVar 1) (aCons (eBin gSub (eVar 4) (eC (.int 1))) (aCons (eTup aNil) aNil)))) (m 28)) viewD) (aCons (eM (eB (aCons (eBin gIx (eVar 0) (eC (.int 4))) (aCons (eVar 1) (aCons (eBin gSub (eVar 3) (eC (.int 1))) (aCons (eVar 5) aNil)))) (m 28)) viewD) aNil))))))
/-- law: 0 _law_script, 1 _law_names_here, 2 _law_number, 3 _law_goal, 4 _law_sides, 5 _law_each, 6 _law_steps, 7 _law_last, 8 _law_bare, 9 _law_full, 10 _law_rows, 11 _law_rules_here, 12 _law_turning, 13 _law_mark, 14 _law_tree, 15 _law_due, 16 _law_k, 17 _law_deep_here, 18 _law_ask, 19 _law_found -/
noncomputable def b_law (m : Nat → List PyData → R Ow) : Ev → SR :=
    (sSeq (sSet 1 (eM (eM (eB (aCons (eM (eB (aCons (eVar 0) (aCons (eC (.int 0)) aNil)) (m 22)) viewD) aNil) (m 24)) viewD) Ow.d))
    (sSeq (sSet 2 (eM (eM (eB (aCons (eM (eB (aCons (eVar 0) (aCons (eC (.int 1)) aNil)) (m 22)) viewD) (aCons (eC (.int 1)) aNil)) (m 23)) viewD) Ow.d))
    (sSeq (sSet 3 (eM (eBin gIx (eB (eLst (aCons (eM (eBinO gAdd (eC (.int 398)) (eBin gMod (eVar 2) (eC (.int 6)))) viewD) (aCons (eM (eBinO gAdd (eC (.int 58)) (eBin gMod (eVar 2) (eC (.int 6)))) viewD) (aCons (eM (eBinO gAdd (eC (.int 14)) (eBin gMod (eVar 2) (eC (.int 30)))) viewD) aNil)))) shD) (eBin gMod (eBin gDiv (eVar 2) (eC (.int 8))) (eC (.int 3)))) Ow.d))
    (sSeq (sSet 4 (eM (eBin gEq (eBin gMod (eBin gDiv (eVar 2) (eC (.int 8))) (eC (.int 3))) (eC (.int 0))) Ow.d))
    (sSeq (sSet 5 (eM (eBin gIx (eB (eLst (aCons (eM (eBinO gAdd (eC (.int 2)) (eBin gMod (eBin gDiv (eVar 2) (eC (.int 64))) (eC (.int 6)))) viewD) (aCons (eM (eBinO gAdd (eC (.int 12)) (eBin gMod (eBin gDiv (eVar 2) (eC (.int 64))) (eC (.int 8)))) viewD) aNil))) shD) (eM (eCa gInt (aCons (eVar 4) aNil)) viewD)) Ow.d))
    (sSeq (sSet 6 (eM (eBin gDiv (eBin gSub (eVar 3) (eC (.int 1))) (eVar 5)) Ow.d))
    (sSeq (sSet 7 (eM (eBin gSub (eVar 3) (eBin gMul (eVar 6) (eVar 5))) Ow.d))
    (sSeq (sAsg (gtLst 2 (gtCons (gtName 8) (gtCons (gtName 9) gtNil))) (eM (eB (aCons (eVar 1) (aCons (eM (eB (aCons (eM (eB (aCons (eVar 0) (aCons (eC (.int 2)) aNil)) (m 22)) viewD) aNil) (m 25)) viewD) (aCons (eVar 4) (aCons (eVar 5) (aCons (eVar 7) aNil))))) (m 33)) viewD))
    (sSeq (sSet 10 (eM (eM (eCa gSorted (aCons (eB (eLst (aCons (eTup (aCons (eBin gIx (eVar 1) (eC (.int 1))) (aCons (eTup aNil) aNil))) (aCons (eTup (aCons (eBin gIx (eVar 1) (eC (.int 2))) (aCons (eTup (aCons (eBin gIx (eVar 1) (eC (.int 0))) aNil)) aNil))) aNil))) shD) aNil)) viewD) Ow.d))
    (sSeq (sSet 11 (eM (eM (eLst (aCons (eVar 8) (aCons (eVar 9) aNil))) viewD) Ow.d))
    (sSeq (sIf (eB (eBin gLtS (eBin gIx (eVar 1) (eC (.int 2))) (eBin gIx (eVar 1) (eC (.int 1)))) asB)
    (sSet 11 (eM (eM (eLst (aCons (eVar 9) (aCons (eVar 8) aNil))) viewD) Ow.d))
    sSkip)
    (sSeq (sSet 12 (eM (eTup (aCons (eM (eLst (aCons (eTup (aCons (eBin gIx (eVar 1) (eC (.int 0))) (aCons (eVar 10) aNil))) aNil)) viewD) (aCons (eTup (aCons (eC (.str "call")) (aCons (eC (.int 0)) (aCons (eC (.int 0)) aNil)))) (aCons (eM (eLst (aCons (eTup (aCons (eBin gIx (eVar 1) (eC (.int 0))) (aCons (eVar 11) aNil))) aNil)) viewD) aNil)))) Ow.d))
    (sSeq (sSet 13 (eM (eM (eB (aCons (eM (eB (aCons (eVar 0) (aCons (eC (.int 3)) aNil)) (m 22)) viewD) aNil) (m 25)) viewD) Ow.d))
    (sSeq (sSet 14 (eM (eTup (aCons (eBin gIx (eVar 1) (eC (.int 1))) (aCons (eVar 13) (aCons (eTup aNil) aNil)))) Ow.d))
    (sSeq (sSet 15 (eM (eM (eB (aCons (eVar 8) (aCons (eVar 13) (aCons (eC .none) aNil))) (m 30)) viewD) Ow.d))
    (sSeq (sFor (eB (aCons (eVar 6) aNil) rg1) (gtName 16)
    (sSeq (sSet 13 (eM (eM (eB (aCons (eM (eB (aCons (eVar 0) (aCons (eM (eBinO gAdd (eC (.int 4)) (eVar 16)) viewD) aNil)) (m 22)) viewD) aNil) (m 25)) viewD) Ow.d))
    (sSeq (sSet 14 (eM (eTup (aCons (eBin gIx (eVar 1) (eC (.int 2))) (aCons (eVar 13) (aCons (eTup (aCons (eVar 14) aNil)) aNil)))) Ow.d))
    (sSet 15 (eM (eM (eB (aCons (eVar 9) (aCons (eVar 13) (aCons (eVar 15) aNil))) (m 30)) viewD) Ow.d)))))
    (sSeq (sSet 17 (eM (eVar 3) Ow.d))
    (sSeq (sIf (eB (eVar 4) asB)
    (sSet 17 (eM (eM (eBinO gAdd (eB (eBinO gAdd (eVar 6) (eC (.int 1))) shD) (eB (eCa gInt (aCons (eBin gGt (eVar 7) (eC (.int 1))) aNil)) shD)) viewD) Ow.d))
    sSkip)
    (sSeq (sIf (tOrE (eB (eBin gNe (eM (eB (aCons (eVar 12) (aCons (eVar 14) aNil)) (m 13)) viewD) (eVar 3)) asB) (tOrE (eB (eBin gNe (eM (eB (aCons (eVar 12) (aCons (eVar 14) aNil)) (m 14)) viewD) (eVar 17)) asB) (eB (eBin gNe (eBin gIx (eB (eB (aCons (eVar 12) (aCons (eVar 14) (aCons (eTup aNil) aNil))) (m 17)) shD) (eC (.int 0))) (eBin gIx (eVar 15) (eC (.int 0)))) asB)))
    (sRet (eM (eC (.bool false)) Ow.d))
    sSkip)
    (sSeq (sFor (eB (aCons (eC (.int 2)) aNil) rg1) (gtName 18)
    (sSeq (sSet 19 (eM (eM (eB (aCons (eVar 12) (aCons (eVar 14) (aCons (eVar 18) aNil))) (m 32)) viewD) Ow.d))
    (sIf (tOrE (eB (eBin gGt (eVar 3) (eC (.int 400))) asB) (eB (eBin gGt (eVar 17) (eC (.int 60))) asB))
    (sIf (eB (eBin gNe (eVar 19) (eM (eLst (aCons (eC (.bool true)) aNil)) viewD)) asB)
    (sRet (eM (eC (.bool false)) Ow.d))
    sSkip)
    (sIf (tNotE (eB (eM (eB (aCons (eVar 19) (aCons (eVar 15) aNil)) (m 31)) viewD) asB))
    (sRet (eM (eC (.bool false)) Ow.d))
    sSkip))))
    (sRet (eB (aCons (eM (eB (aCons (eVar 12) (aCons (eTup (aCons (eBin gIx (eVar 1) (eC (.int 1))) (aCons (eVar 13) (aCons (eTup aNil) aNil)))) (aCons (eC (.int 0)) aNil))) (m 32)) viewD) (aCons (eM (eB (aCons (eVar 8) (aCons (eVar 13) (aCons (eC .none) aNil))) (m 30)) viewD) aNil)) (m 31)))))))))))))))))))))))
noncomputable def mir : Nat → Nat → List PyData → R Ow
  | 0, _ => fun _ => .no
  | n + 1, i => match i with
    | 0 => runB 2 (b_calls_of (mir n))
    | 1 => runB 2 (b_rows_of (mir n))
    | 2 => runB 2 (b_row_of (mir n))
    | 3 => runB 3 (b_is_of (mir n))
    | 4 => runB 2 (b_row_number (mir n))
    | 5 => runB 3 (b_rule_of (mir n))
    | 6 => runB 0 (b_look (mir n))
    | 7 => runB 0 (b_above (mir n))
    | 8 => runB 0 (b_mark_of (mir n))
    | 9 => runB 4 (b_modes_on (mir n))
    | 10 => runB 4 (b_measure (mir n))
    | 11 => runB 9 (b_below_of (mir n))
    | 12 => runB 0 (b_measured (mir n))
    | 13 => runB 0 (b_many (mir n))
    | 14 => runB 0 (b_tall (mir n))
    | 15 => runB 0 (b_settled (mir n))
    | 16 => runB 2 (b_seen_from (mir n))
    | 17 => runB 0 (b_seen (mir n))
    | 18 => runB 3 (b_made (mir n))
    | 19 => runB 2 (b_made_within (mir n))
    | 20 => runB 0 (b_turned (mir n))
    | 21 => runB 0 (b_turned_in (mir n))
    | 22 => runB 0 (b__law_cell_at (mir n))
    | 23 => runB 1 (b__law_mixed (mir n))
    | 24 => runB 8 (b__law_names (mir n))
    | 25 => runB 0 (b__law_great (mir n))
    | 26 => runB 0 (b__law_whole (mir n))
    | 27 => runB 1 (b__law_wide (mir n))
    | 28 => runB 2 (b__law_deep (mir n))
    | 29 => runB 0 (b__law_kept (mir n))
    | 30 => runB 2 (b__law_put (mir n))
    | 31 => runB 3 (b__law_walk (mir n))
    | 32 => runB 1 (b__law_answer (mir n))
    | 33 => runB 1 (b__law_rules (mir n))
    | 34 => runB 19 (b_law (mir n))
    | _ => fun _ => .no
theorem mir_calls_of (n : Nat) (ds : List PyData) : mir (n + 1) 0 ds = runB 2 (b_calls_of (mir n)) ds := rfl
theorem mir_rows_of (n : Nat) (ds : List PyData) : mir (n + 1) 1 ds = runB 2 (b_rows_of (mir n)) ds := rfl
theorem mir_row_of (n : Nat) (ds : List PyData) : mir (n + 1) 2 ds = runB 2 (b_row_of (mir n)) ds := rfl
theorem mir_is_of (n : Nat) (ds : List PyData) : mir (n + 1) 3 ds = runB 3 (b_is_of (mir n)) ds := rfl
theorem mir_row_number (n : Nat) (ds : List PyData) : mir (n + 1) 4 ds = runB 2 (b_row_number (mir n)) ds := rfl
theorem mir_rule_of (n : Nat) (ds : List PyData) : mir (n + 1) 5 ds = runB 3 (b_rule_of (mir n)) ds := rfl
theorem mir_look (n : Nat) (ds : List PyData) : mir (n + 1) 6 ds = runB 0 (b_look (mir n)) ds := rfl
theorem mir_above (n : Nat) (ds : List PyData) : mir (n + 1) 7 ds = runB 0 (b_above (mir n)) ds := rfl
theorem mir_mark_of (n : Nat) (ds : List PyData) : mir (n + 1) 8 ds = runB 0 (b_mark_of (mir n)) ds := rfl
theorem mir_modes_on (n : Nat) (ds : List PyData) : mir (n + 1) 9 ds = runB 4 (b_modes_on (mir n)) ds := rfl
theorem mir_measure (n : Nat) (ds : List PyData) : mir (n + 1) 10 ds = runB 4 (b_measure (mir n)) ds := rfl
theorem mir_below_of (n : Nat) (ds : List PyData) : mir (n + 1) 11 ds = runB 9 (b_below_of (mir n)) ds := rfl
theorem mir_measured (n : Nat) (ds : List PyData) : mir (n + 1) 12 ds = runB 0 (b_measured (mir n)) ds := rfl
theorem mir_many (n : Nat) (ds : List PyData) : mir (n + 1) 13 ds = runB 0 (b_many (mir n)) ds := rfl
theorem mir_tall (n : Nat) (ds : List PyData) : mir (n + 1) 14 ds = runB 0 (b_tall (mir n)) ds := rfl
theorem mir_settled (n : Nat) (ds : List PyData) : mir (n + 1) 15 ds = runB 0 (b_settled (mir n)) ds := rfl
theorem mir_seen_from (n : Nat) (ds : List PyData) : mir (n + 1) 16 ds = runB 2 (b_seen_from (mir n)) ds := rfl
theorem mir_seen (n : Nat) (ds : List PyData) : mir (n + 1) 17 ds = runB 0 (b_seen (mir n)) ds := rfl
theorem mir_made (n : Nat) (ds : List PyData) : mir (n + 1) 18 ds = runB 3 (b_made (mir n)) ds := rfl
theorem mir_made_within (n : Nat) (ds : List PyData) : mir (n + 1) 19 ds = runB 2 (b_made_within (mir n)) ds := rfl
theorem mir_turned (n : Nat) (ds : List PyData) : mir (n + 1) 20 ds = runB 0 (b_turned (mir n)) ds := rfl
theorem mir_turned_in (n : Nat) (ds : List PyData) : mir (n + 1) 21 ds = runB 0 (b_turned_in (mir n)) ds := rfl
theorem mir__law_cell_at (n : Nat) (ds : List PyData) : mir (n + 1) 22 ds = runB 0 (b__law_cell_at (mir n)) ds := rfl
theorem mir__law_mixed (n : Nat) (ds : List PyData) : mir (n + 1) 23 ds = runB 1 (b__law_mixed (mir n)) ds := rfl
theorem mir__law_names (n : Nat) (ds : List PyData) : mir (n + 1) 24 ds = runB 8 (b__law_names (mir n)) ds := rfl
theorem mir__law_great (n : Nat) (ds : List PyData) : mir (n + 1) 25 ds = runB 0 (b__law_great (mir n)) ds := rfl
theorem mir__law_whole (n : Nat) (ds : List PyData) : mir (n + 1) 26 ds = runB 0 (b__law_whole (mir n)) ds := rfl
theorem mir__law_wide (n : Nat) (ds : List PyData) : mir (n + 1) 27 ds = runB 1 (b__law_wide (mir n)) ds := rfl
theorem mir__law_deep (n : Nat) (ds : List PyData) : mir (n + 1) 28 ds = runB 2 (b__law_deep (mir n)) ds := rfl
theorem mir__law_kept (n : Nat) (ds : List PyData) : mir (n + 1) 29 ds = runB 0 (b__law_kept (mir n)) ds := rfl
theorem mir__law_put (n : Nat) (ds : List PyData) : mir (n + 1) 30 ds = runB 2 (b__law_put (mir n)) ds := rfl
theorem mir__law_walk (n : Nat) (ds : List PyData) : mir (n + 1) 31 ds = runB 3 (b__law_walk (mir n)) ds := rfl
theorem mir__law_answer (n : Nat) (ds : List PyData) : mir (n + 1) 32 ds = runB 1 (b__law_answer (mir n)) ds := rfl
theorem mir__law_rules (n : Nat) (ds : List PyData) : mir (n + 1) 33 ds = runB 1 (b__law_rules (mir n)) ds := rfl
theorem mir_law (n : Nat) (ds : List PyData) : mir (n + 1) 34 ds = runB 19 (b_law (mir n)) ds := rfl
theorem run_calls_of (m : Nat → List PyData → R Ow) (ds : List PyData) : runB 2 (b_calls_of m) ds = finR (((sSeq (sIf (eB (eBin gEq (eBin gIx (eVar 0) (eC (.int 0))) (eC (.str "call"))) asB)
    (sRet (eLst (aCons (eTup (aCons (eBin gIx (eVar 0) (eC (.int 1))) (aCons (eBin gIx (eVar 0) (eC (.int 2))) aNil))) aNil)))
    sSkip)
    (sSeq (sSet 1 (eLst aNil))
    (sSeq (sFor (eB (eBin gIx (eVar 0) (eC (.int 4))) itD) (gtName 2)
    (sExt 1 (eB (eB (aCons (eVar 2) aNil) (m 0)) shD)))
    (sRetV 1))))) (envOf 2 ds)) := runB_fin _ _ _
theorem run_rows_of (m : Nat → List PyData → R Ow) (ds : List PyData) : runB 2 (b_rows_of m) ds = finR (((sSeq (sFor (eB (eVar 0) itD) (gtTup 2 (gtCons (gtName 2) (gtCons (gtName 3) gtNil)))
    (sIf (eB (eBin gEq (eVar 2) (eVar 1)) asB)
    (sRet (eM (eVar 3) Ow.d))
    sSkip))
    (sRet (eLst aNil)))) (envOf 2 ds)) := runB_fin _ _ _
theorem run_row_of (m : Nat → List PyData → R Ow) (ds : List PyData) : runB 2 (b_row_of m) ds = finR (((sSeq (sFor (eB (eM (eB (aCons (eVar 0) (aCons (eVar 1) aNil)) (m 1)) viewD) itD) (gtTup 2 (gtCons (gtName 3) (gtCons (gtName 4) gtNil)))
    (sIf (eB (eBin gEq (eVar 3) (eVar 2)) asB)
    (sRet (eM (eVar 4) Ow.d))
    sSkip))
    (sRet (eM (eC .none) Ow.d)))) (envOf 2 ds)) := runB_fin _ _ _
theorem run_is_of (m : Nat → List PyData → R Ow) (ds : List PyData) : runB 3 (b_is_of m) ds = finR (((sSeq (sSet 3 (eM (eM (eB (aCons (eVar 0) (aCons (eVar 1) (aCons (eBin gIx (eVar 2) (eC (.int 0))) aNil))) (m 2)) viewD) Ow.d))
    (sSeq (sIf (tOrE (eB (eBin gIsN (eVar 3) (eC .none)) asB) (eB (eBin gNe (eM (eCa gLen (aCons (eVar 3) aNil)) viewD) (eM (eCa gLen (aCons (eBin gIx (eVar 2) (eC (.int 2))) aNil)) viewD)) asB))
    (sRet (eM (eC (.bool false)) Ow.d))
    sSkip)
    (sSeq (sFor (eB (aCons (eVar 3) (aCons (eBin gIx (eVar 2) (eC (.int 2))) aNil)) zpArg) (gtTup 2 (gtCons (gtName 4) (gtCons (gtName 5) gtNil)))
    (sIf (tNotE (eB (eM (eB (aCons (eVar 0) (aCons (eVar 4) (aCons (eVar 5) aNil))) (m 3)) viewD) asB))
    (sRet (eM (eC (.bool false)) Ow.d))
    sSkip))
    (sRet (eM (eC (.bool true)) Ow.d)))))) (envOf 3 ds)) := runB_fin _ _ _
theorem run_row_number (m : Nat → List PyData → R Ow) (ds : List PyData) : runB 2 (b_row_number m) ds = finR (((sSeq (sFor (eB (aCons (eM (eB (aCons (eVar 0) (aCons (eVar 1) aNil)) (m 1)) viewD) aNil) enArg) (gtTup 2 (gtCons (gtName 3) (gtCons (gtName 4) gtNil)))
    (sIf (eB (eBin gEq (eBin gIx (eVar 4) (eC (.int 0))) (eVar 2)) asB)
    (sRet (eM (eVar 3) Ow.d))
    sSkip))
    (sRet (eM (eC .none) Ow.d)))) (envOf 2 ds)) := runB_fin _ _ _
theorem run_rule_of (m : Nat → List PyData → R Ow) (ds : List PyData) : runB 3 (b_rule_of m) ds = finR (((sSeq (sAsg (gtTup 2 (gtCons (gtName 3) (gtCons (gtName 4) gtNil))) (eBin gIx (eBin gIx (eVar 0) (eC (.int 2))) (eVar 1)))
    (sSeq (sSet 5 (eM (eM (eB (aCons (eBin gIx (eVar 0) (eC (.int 0))) (aCons (eVar 3) (aCons (eVar 2) aNil))) (m 4)) viewD) Ow.d))
    (sSeq (sIf (eB (eBin gIsN (eVar 5) (eC .none)) asB)
    (sRet (eM (eC .none) Ow.d))
    sSkip)
    (sRet (eM (eBin gIx (eVar 4) (eVar 5)) Ow.d)))))) (envOf 3 ds)) := runB_fin _ _ _
theorem run_look (m : Nat → List PyData → R Ow) (ds : List PyData) : runB 0 (b_look m) ds = finR (((sIf (tNotE (eB (eM (eB (aCons (eBin gIx (eVar 0) (eC (.int 0))) (aCons (eVar 1) (aCons (eVar 2) aNil))) (m 3)) viewD) asB))
    (sRaise "NoTree")
    sSkip)) (envOf 0 ds)) := runB_fin _ _ _
theorem run_above (m : Nat → List PyData → R Ow) (ds : List PyData) : runB 0 (b_above m) ds = finR (((sRet (eM (eTup (aCons (eC (.str "")) (aCons (eC (.int 0)) (aCons (eTup (aCons (eVar 0) aNil)) aNil)))) Ow.d))) (envOf 0 ds)) := runB_fin _ _ _
theorem run_mark_of (m : Nat → List PyData → R Ow) (ds : List PyData) : runB 0 (b_mark_of m) ds = finR (((sSeq (sIf (eB (eBin gIx (eVar 0) (eC (.int 2))) asB)
    (sRet (eBinO gAdd (eBin gIx (eVar 0) (eC (.int 3))) (eBin gIx (eVar 1) (eC (.int 1)))))
    sSkip)
    (sRet (eM (eBin gIx (eVar 0) (eC (.int 3))) Ow.d)))) (envOf 0 ds)) := runB_fin _ _ _
theorem run_modes_on (m : Nat → List PyData → R Ow) (ds : List PyData) : runB 4 (b_modes_on m) ds = finR (((sSeq (sSet 2 eDictNew)
    (sSeq (sFor (eB (eVar 0) itD) (gtName 3)
    (sFor (eB (eM (eB (aCons (eVar 3) aNil) (m 0)) viewD) itD) (gtTup 2 (gtCons (gtName 4) (gtCons (gtName 5) gtNil)))
    (sIf (eB (eBin gEq (eVar 5) (eVar 1)) asB)
    (sPutM 2 (eC (.bool true)) (eVar 4))
    sSkip)))
    (sRet (eSortM 2))))) (envOf 4 ds)) := runB_fin _ _ _
theorem run_measure (m : Nat → List PyData → R Ow) (ds : List PyData) : runB 4 (b_measure m) ds = finR (((sSeq (sIf (eB (eBin gEq (eBin gIx (eVar 0) (eC (.int 0))) (eC (.str "call"))) asB)
    (sRet (eM (eBin gGetD (eBin gIx (eVar 1) (eBin gIx (eVar 0) (eC (.int 2)))) (eBin gIx (eVar 0) (eC (.int 1)))) Ow.d))
    sSkip)
    (sSeq (sSet 2 (eM (eC (.int 1)) Ow.d))
    (sSeq (sSet 3 (eM (eC (.int 0)) Ow.d))
    (sSeq (sFor (eB (eBin gIx (eVar 0) (eC (.int 4))) itD) (gtName 4)
    (sSeq (sSet 5 (eM (eM (eB (aCons (eVar 4) (aCons (eVar 1) aNil)) (m 10)) viewD) Ow.d))
    (sSeq (sAug gAddA 2 (eBin gIx (eVar 5) (eC (.int 0))))
    (sSet 3 (eM (eM (eCa gMax2 (aCons (eVar 3) (aCons (eBin gIx (eVar 5) (eC (.int 1))) aNil))) viewD) Ow.d)))))
    (sRet (eM (eTup (aCons (eVar 2) (aCons (eM (eBinO gAdd (eVar 3) (eC (.int 1))) viewD) aNil))) Ow.d))))))) (envOf 4 ds)) := runB_fin _ _ _
theorem run_below_of (m : Nat → List PyData → R Ow) (ds : List PyData) : runB 9 (b_below_of m) ds = finR (((sSeq (sSet 3 (eLst aNil))
    (sSeq (sFor (eB (aCons (eBin gIx (eVar 2) (eC (.int 2))) aNil) enArg) (gtTup 2 (gtCons (gtName 4) (gtCons (gtName 5) gtNil)))
    (sSeq (sSet 6 (eM (eM (eB (aCons (eVar 1) (aCons (eVar 4) aNil)) (m 9)) viewD) Ow.d))
    (sSeq (sSet 7 (eM (eM (eLc (eB (eVar 6) itD) (gtName 8) cYes (eB (aCons (eVar 0) (aCons (eVar 8) (aCons (eBin gIx (eVar 5) (eC (.int 0))) aNil))) (m 5)) (List.map (·.2) ([("mode", 8)] : List (Str × Nat)))) viewD) Ow.d))
    (sSeq (sSet 9 (eM (eM (eB (aCons (eVar 0) (aCons (eVar 7) (aCons (eVar 5) aNil))) (m 11)) viewD) Ow.d))
    (sSeq (sSet 10 eDictNew)
    (sSeq (sFor (eB (aCons (eVar 6) (aCons (eVar 7) aNil)) zpArg) (gtTup 2 (gtCons (gtName 8) (gtCons (gtName 11) gtNil)))
    (sPutM 10 (eM (eB (aCons (eVar 11) (aCons (eVar 9) aNil)) (m 10)) viewD) (eVar 8)))
    (sFrz 10 (sApp 3 (eM (eVar 10) Ow.d)))))))))
    (sRetV 3)))) (envOf 9 ds)) := runB_fin _ _ _
theorem run_measured (m : Nat → List PyData → R Ow) (ds : List PyData) : runB 0 (b_measured m) ds = finR (((sRet (eB (aCons (eVar 1) (aCons (eM (eB (aCons (eVar 0) (aCons (eM (eLst (aCons (eVar 1) aNil)) viewD) (aCons (eVar 2) aNil))) (m 11)) viewD) aNil)) (m 10)))) (envOf 0 ds)) := runB_fin _ _ _
theorem run_many (m : Nat → List PyData → R Ow) (ds : List PyData) : runB 0 (b_many m) ds = finR (((sSeq (sDrop (eM (eB (aCons (eVar 0) (aCons (eBin gIx (eBin gIx (eBin gIx (eVar 0) (eC (.int 0))) (eC (.int 0))) (eC (.int 0))) (aCons (eVar 1) aNil))) (m 6)) viewD))
    (sRet (eM (eBin gIx (eB (eB (aCons (eVar 0) (aCons (eBin gIx (eVar 0) (eC (.int 1))) (aCons (eM (eB (aCons (eVar 1) aNil) (m 7)) viewD) aNil))) (m 12)) shD) (eC (.int 0))) Ow.d)))) (envOf 0 ds)) := runB_fin _ _ _
theorem run_tall (m : Nat → List PyData → R Ow) (ds : List PyData) : runB 0 (b_tall m) ds = finR (((sSeq (sDrop (eM (eB (aCons (eVar 0) (aCons (eBin gIx (eBin gIx (eBin gIx (eVar 0) (eC (.int 0))) (eC (.int 0))) (eC (.int 0))) (aCons (eVar 1) aNil))) (m 6)) viewD))
    (sRet (eM (eBin gIx (eB (eB (aCons (eVar 0) (aCons (eBin gIx (eVar 0) (eC (.int 1))) (aCons (eM (eB (aCons (eVar 1) aNil) (m 7)) viewD) aNil))) (m 12)) shD) (eC (.int 1))) Ow.d)))) (envOf 0 ds)) := runB_fin _ _ _
theorem run_settled (m : Nat → List PyData → R Ow) (ds : List PyData) : runB 0 (b_settled m) ds = finR (((sSeq (whileN (eB (eBin gEq (eBin gIx (eVar 1) (eC (.int 0))) (eC (.str "call"))) asB)
    (sSeq (sSet 2 (eM (eBin gIx (eBin gIx (eVar 2) (eC (.int 2))) (eBin gIx (eVar 1) (eC (.int 2)))) Ow.d))
    (sSet 1 (eM (eM (eB (aCons (eVar 0) (aCons (eBin gIx (eVar 1) (eC (.int 1))) (aCons (eBin gIx (eVar 2) (eC (.int 0))) aNil))) (m 5)) viewD) Ow.d))) 1000000)
    (sRet (eM (eTup (aCons (eVar 1) (aCons (eVar 2) aNil))) Ow.d)))) (envOf 0 ds)) := runB_fin _ _ _
theorem run_seen_from (m : Nat → List PyData → R Ow) (ds : List PyData) : runB 2 (b_seen_from m) ds = finR (((sSeq (sAsg (gtTup 2 (gtCons (gtName 4) (gtCons (gtName 2) gtNil))) (eM (eB (aCons (eVar 0) (aCons (eVar 1) (aCons (eVar 2) aNil))) (m 15)) viewD))
    (sSeq (sFor (eB (eVar 3) itD) (gtName 5)
    (sSeq (sIf (tOrE (eB (eBin gLt (eVar 5) (eC (.int 0))) asB) (eB (eBin gGe (eVar 5) (eM (eCa gLen (aCons (eBin gIx (eVar 4) (eC (.int 4))) aNil)) viewD)) asB))
    (sRet (eM (eC .none) Ow.d))
    sSkip)
    (sAsg (gtTup 2 (gtCons (gtName 4) (gtCons (gtName 2) gtNil))) (eM (eB (aCons (eVar 0) (aCons (eBin gIx (eBin gIx (eVar 4) (eC (.int 4))) (eVar 5)) (aCons (eVar 2) aNil))) (m 15)) viewD))))
    (sRet (eM (eTup (aCons (eBin gIx (eVar 4) (eC (.int 1))) (aCons (eM (eB (aCons (eVar 4) (aCons (eVar 2) aNil)) (m 8)) viewD) (aCons (eM (eCa gLen (aCons (eBin gIx (eVar 4) (eC (.int 4))) aNil)) viewD) aNil)))) Ow.d))))) (envOf 2 ds)) := runB_fin _ _ _
theorem run_seen (m : Nat → List PyData → R Ow) (ds : List PyData) : runB 0 (b_seen m) ds = finR (((sSeq (sDrop (eM (eB (aCons (eVar 0) (aCons (eBin gIx (eBin gIx (eBin gIx (eVar 0) (eC (.int 0))) (eC (.int 0))) (eC (.int 0))) (aCons (eVar 1) aNil))) (m 6)) viewD))
    (sRet (eB (aCons (eVar 0) (aCons (eBin gIx (eVar 0) (eC (.int 1))) (aCons (eM (eB (aCons (eVar 1) aNil) (m 7)) viewD) (aCons (eVar 2) aNil)))) (m 16))))) (envOf 0 ds)) := runB_fin _ _ _
theorem run_made (m : Nat → List PyData → R Ow) (ds : List PyData) : runB 3 (b_made m) ds = finR (((sSeq (sIf (eB (eBin gEq (eBin gIx (eVar 1) (eC (.int 0))) (eC (.str "call"))) asB)
    (sSeq (sSet 3 (eM (eBin gIx (eBin gIx (eVar 2) (eC (.int 2))) (eBin gIx (eVar 1) (eC (.int 2)))) Ow.d))
    (sRet (eB (aCons (eVar 0) (aCons (eM (eB (aCons (eVar 0) (aCons (eBin gIx (eVar 1) (eC (.int 1))) (aCons (eBin gIx (eVar 3) (eC (.int 0))) aNil))) (m 5)) viewD) (aCons (eVar 3) aNil))) (m 18))))
    sSkip)
    (sSeq (sSet 4 (eLst aNil))
    (sSeq (sFor (eB (eBin gIx (eVar 1) (eC (.int 4))) itD) (gtName 5)
    (sApp 4 (eB (aCons (eVar 0) (aCons (eVar 5) (aCons (eVar 2) aNil))) (m 18))))
    (sRet (eM (eTup (aCons (eBin gIx (eVar 1) (eC (.int 1))) (aCons (eM (eB (aCons (eVar 1) (aCons (eVar 2) aNil)) (m 8)) viewD) (aCons (eM (eCa gTuple (aCons (eB (eVarO 4) shD) aNil)) viewD) aNil)))) Ow.d)))))) (envOf 3 ds)) := runB_fin _ _ _
theorem run_made_within (m : Nat → List PyData → R Ow) (ds : List PyData) : runB 2 (b_made_within m) ds = finR (((sSeq (sAsg (gtTup 2 (gtCons (gtName 3) (gtCons (gtName 4) gtNil))) (eM (eB (aCons (eVar 0) (aCons (eVar 1) (aCons (eVar 2) aNil))) (m 12)) viewD))
    (sSeq (sIf (tOrE (eB (eBin gGt (eVar 3) (eC (.int 400))) asB) (eB (eBin gGt (eVar 4) (eC (.int 60))) asB))
    (sRaise "TooGreat")
    sSkip)
    (sRet (eB (aCons (eVar 0) (aCons (eVar 1) (aCons (eVar 2) aNil))) (m 18)))))) (envOf 2 ds)) := runB_fin _ _ _
theorem run_turned (m : Nat → List PyData → R Ow) (ds : List PyData) : runB 0 (b_turned m) ds = finR (((sSeq (sDrop (eM (eB (aCons (eVar 0) (aCons (eBin gIx (eBin gIx (eBin gIx (eVar 0) (eC (.int 0))) (eC (.int 0))) (eC (.int 0))) (aCons (eVar 1) aNil))) (m 6)) viewD))
    (sRet (eB (aCons (eVar 0) (aCons (eBin gIx (eVar 0) (eC (.int 1))) (aCons (eM (eB (aCons (eVar 1) aNil) (m 7)) viewD) aNil))) (m 19))))) (envOf 0 ds)) := runB_fin _ _ _
theorem run_turned_in (m : Nat → List PyData → R Ow) (ds : List PyData) : runB 0 (b_turned_in m) ds = finR (((sSeq (sDrop (eM (eB (aCons (eVar 0) (aCons (eBin gIx (eBin gIx (eBin gIx (eVar 0) (eC (.int 2))) (eVar 1)) (eC (.int 0))) (aCons (eVar 2) aNil))) (m 6)) viewD))
    (sRet (eB (aCons (eVar 0) (aCons (eTup (aCons (eC (.str "call")) (aCons (eVar 1) (aCons (eC (.int 0)) aNil)))) (aCons (eM (eB (aCons (eVar 2) aNil) (m 7)) viewD) aNil))) (m 19))))) (envOf 0 ds)) := runB_fin _ _ _
theorem run__law_cell_at (m : Nat → List PyData → R Ow) (ds : List PyData) : runB 0 (b__law_cell_at m) ds = finR (((sSeq (sIf (eB (eBin gLt (eVar 1) (eM (eCa gLen (aCons (eVar 0) aNil)) viewD)) asB)
    (sRet (eM (eBin gIx (eVar 0) (eVar 1)) Ow.d))
    sSkip)
    (sRet (eM (eC (.int 0)) Ow.d)))) (envOf 0 ds)) := runB_fin _ _ _
theorem run__law_mixed (m : Nat → List PyData → R Ow) (ds : List PyData) : runB 1 (b__law_mixed m) ds = finR (((sSeq (sSet 2 (eM (eM (eBinO gAdd (eBin gMod (eVar 0) (eC (.int 2147483647))) (eBin gMul (eC (.int 48271)) (eM (eBinO gAdd (eVar 1) (eC (.int 1))) viewD))) viewD) Ow.d))
    (sSeq (sSet 2 (eM (eBin gMod (eM (eBinO gAdd (eBin gMul (eVar 2) (eVar 2)) (eBin gMul (eC (.int 69621)) (eVar 1))) viewD) (eC (.int 2147483647))) Ow.d))
    (sRet (eM (eBin gMod (eM (eBinO gAdd (eB (eBinO gAdd (eBin gMul (eVar 2) (eVar 2)) (eBin gMul (eC (.int 16807)) (eVar 1))) shD) (eC (.int 1))) viewD) (eC (.int 2147483647))) Ow.d))))) (envOf 1 ds)) := runB_fin _ _ _
theorem run__law_names (m : Nat → List PyData → R Ow) (ds : List PyData) : runB 8 (b__law_names m) ds = finR (((sSeq (sSet 1 (eM (eC (.str "abcdefghijklmnopqrstuvwxyz")) Ow.d))
    (sSeq (sSet 2 (eM (eM (eLc (eB (aCons (eC (.int 8)) aNil) rg1) (gtName 3) cYes (eM (eBin gMod (eM (eB (aCons (eVar 0) (aCons (eVar 3) aNil)) (m 23)) viewD) (eC (.int 26))) Ow.d) (List.map (·.2) ([("_law_j", 3)] : List (Str × Nat)))) viewD) Ow.d))
    (sSeq (sIf (eB (eBin gEq (eBin gMod (eBin gDiv (eVar 0) (eC (.int 64))) (eC (.int 4))) (eC (.int 1))) asB)
    (sRet (eLc (eB (aCons (eC (.int 8)) aNil) rg1) (gtName 4) cYes (eM (eJoin (eC (.str "")) (eB (eLc (eB (eM (eSl (eVar 2) oNone (eB (eM (eBinO gAdd (eVar 4) (eC (.int 1))) viewD) asI)) viewD) itD) (gtName 3) cYes (eM (eBin gIx (eVar 1) (eVar 3)) Ow.d) (List.map (·.2) ([("_law_j", 3)] : List (Str × Nat)))) shD)) Ow.d) (List.map (·.2) ([("_law_k", 4)] : List (Str × Nat)))))
    sSkip)
    (sSeq (sSet 5 (eM (eM (eBinO gAdd (eC (.int 1)) (eBin gMod (eVar 0) (eC (.int 8)))) viewD) Ow.d))
    (sSeq (sSet 6 (eM (eBin gMod (eBin gDiv (eVar 0) (eC (.int 8))) (eVar 5)) Ow.d))
    (sSeq (sSet 7 (eLst aNil))
    (sSeq (sFor (eB (aCons (eC (.int 8)) aNil) rg1) (gtName 4)
    (sSeq (sSet 8 (eSl (eVar 2) oNone (eB (eVar 5) asI)))
    (sSeq (sPut 8 (eM (eBin gMod (eM (eBinO gAdd (eBin gIx (eB (eVarO 8) shD) (eVar 6)) (eVar 4)) viewD) (eC (.int 26))) Ow.d) (eVar 6))
    (sFrz 8 (sApp 7 (eM (eJoin (eC (.str "")) (eB (eLc (eB (eVar 8) itD) (gtName 3) cYes (eM (eBin gIx (eVar 1) (eVar 3)) Ow.d) (List.map (·.2) ([("_law_j", 3)] : List (Str × Nat)))) shD)) Ow.d))))))
    (sRetV 7))))))))) (envOf 8 ds)) := runB_fin _ _ _
theorem run__law_great (m : Nat → List PyData → R Ow) (ds : List PyData) : runB 0 (b__law_great m) ds = finR (((sRet (eM (eBin gSub (eBin gMod (eVar 0) (eM (eBinO gAdd (eBin gMul (eC (.int 2)) (eBin gPow (eC (.int 10)) (eC (.int 59)))) (eC (.int 1))) viewD)) (eBin gPow (eC (.int 10)) (eC (.int 59)))) Ow.d))) (envOf 0 ds)) := runB_fin _ _ _
theorem run__law_whole (m : Nat → List PyData → R Ow) (ds : List PyData) : runB 0 (b__law_whole m) ds = finR (((sRet (eM (eAnd (eB (eVar 0) (gIsi "int")) (eNot (eB (eVar 0) (gIsi "bool")))) Ow.d))) (envOf 0 ds)) := runB_fin _ _ _
theorem run__law_wide (m : Nat → List PyData → R Ow) (ds : List PyData) : runB 1 (b__law_wide m) ds = finR (((sRet (eM (eTup (aCons (eC (.str "put")) (aCons (eVar 0) (aCons (eC (.bool false)) (aCons (eVar 1) (aCons (eM (eBinO gAdd (eB (eCa gTuple (aCons (eB (eLc (eB (aCons (eVar 2) aNil) rg1) (gtName 4) cYes (eM (eTup (aCons (eC (.str "put")) (aCons (eVar 0) (aCons (eC (.bool true)) (aCons (eC (.int 0)) (aCons (eTup aNil) aNil)))))) Ow.d) (List.map (·.2) ([("_law_k", 4)] : List (Str × Nat)))) shD) aNil)) shD) (eVar 3)) viewD) aNil)))))) Ow.d))) (envOf 1 ds)) := runB_fin _ _ _
theorem run__law_deep (m : Nat → List PyData → R Ow) (ds : List PyData) : runB 2 (b__law_deep m) ds = finR (((sSeq (sSet 4 (eM (eTup (aCons (eC (.str "put")) (aCons (eVar 0) (aCons (eC (.bool true)) (aCons (eVar 1) (aCons (eVar 3) aNil)))))) Ow.d))
    (sSeq (sFor (eB (aCons (eVar 2) aNil) rg1) (gtName 5)
    (sSet 4 (eM (eTup (aCons (eC (.str "put")) (aCons (eVar 0) (aCons (eBin gEq (eBin gMod (eVar 5) (eC (.int 2))) (eC (.int 0))) (aCons (eVar 1) (aCons (eTup (aCons (eVar 4) aNil)) aNil)))))) Ow.d)))
    (sRet (eM (eVar 4) Ow.d))))) (envOf 2 ds)) := runB_fin _ _ _
theorem run__law_kept (m : Nat → List PyData → R Ow) (ds : List PyData) : runB 0 (b__law_kept m) ds = finR (((sRet (eBinO gAdd (eBin gIx (eVar 0) (eC (.int 3))) (eBin gMul (eVar 1) (eM (eCa gInt (aCons (eBin gIx (eVar 0) (eC (.int 2))) aNil)) viewD))))) (envOf 0 ds)) := runB_fin _ _ _
theorem run__law_put (m : Nat → List PyData → R Ow) (ds : List PyData) : runB 2 (b__law_put m) ds = finR (((sSeq (sIf (eB (eBin gEq (eBin gIx (eVar 0) (eC (.int 0))) (eC (.str "call"))) asB)
    (sRet (eM (eVar 2) Ow.d))
    sSkip)
    (sSeq (sSet 3 (eM (eM (eLc (eB (eBin gIx (eVar 0) (eC (.int 4))) itD) (gtName 4) cYes (eB (aCons (eVar 4) (aCons (eVar 1) (aCons (eVar 2) aNil))) (m 30)) (List.map (·.2) ([("_law_part", 4)] : List (Str × Nat)))) viewD) Ow.d))
    (sRet (eM (eTup (aCons (eBin gIx (eVar 0) (eC (.int 1))) (aCons (eM (eB (aCons (eVar 0) (aCons (eVar 1) aNil)) (m 29)) viewD) (aCons (eM (eCa gTuple (aCons (eVar 3) aNil)) viewD) aNil)))) Ow.d))))) (envOf 2 ds)) := runB_fin _ _ _
theorem run__law_walk (m : Nat → List PyData → R Ow) (ds : List PyData) : runB 3 (b__law_walk m) ds = finR (((sSeq (sSet 2 (eLst (aCons (eTup (aCons (eVar 0) (aCons (eVar 1) aNil))) aNil)))
    (sSeq (whileN (eB (eBin gNe (eM (eVarO 2) viewD) (eM (eLst aNil) viewD)) asB)
    (sSeq (sXAsg (gtTup 2 (gtCons (gtName 3) (gtCons (gtName 4) gtNil))) (xPop 2))
    (sSeq (sIf (tOrE (tNotE (eB (eB (eVar 3) (gIsi "tuple")) asB)) (tOrE (eB (eBin gNe (eM (eCa gLen (aCons (eVar 3) aNil)) viewD) (eC (.int 3))) asB) (tNotE (eB (eB (eBin gIx (eVar 3) (eC (.int 0))) (gIsi "str")) asB))))
    (sRet (eM (eC (.bool false)) Ow.d))
    sSkip)
    (sSeq (sIf (tOrE (tNotE (eB (eM (eB (aCons (eBin gIx (eVar 3) (eC (.int 1))) aNil) (m 26)) viewD) asB)) (tOrE (eB (eBin gNe (eM (eSl (eVar 3) oNone (eB (eC (.int 2)) asI)) viewD) (eM (eSl (eVar 4) oNone (eB (eC (.int 2)) asI)) viewD)) asB) (tNotE (eB (eB (eBin gIx (eVar 3) (eC (.int 2))) (gIsi "tuple")) asB))))
    (sRet (eM (eC (.bool false)) Ow.d))
    sSkip)
    (sSeq (sIf (eB (eBin gNe (eM (eCa gLen (aCons (eBin gIx (eVar 3) (eC (.int 2))) aNil)) viewD) (eM (eCa gLen (aCons (eBin gIx (eVar 4) (eC (.int 2))) aNil)) viewD)) asB)
    (sRet (eM (eC (.bool false)) Ow.d))
    sSkip)
    (sExt 2 (eB (eListZip (aCons (eBin gIx (eVar 3) (eC (.int 2))) (aCons (eBin gIx (eVar 4) (eC (.int 2))) aNil))) shD)))))) 1000000)
    (sRet (eM (eC (.bool true)) Ow.d))))) (envOf 3 ds)) := runB_fin _ _ _
theorem run__law_answer (m : Nat → List PyData → R Ow) (ds : List PyData) : runB 1 (b__law_answer m) ds = finR (((sTryT [("NoTree", false), ("TooGreat", true)] 3
    (sSeq (sIf (eB (eBin gEq (eVar 2) (eC (.int 0))) asB)
    (sRet (eB (aCons (eVar 0) (aCons (eVar 1) aNil)) (m 20)))
    sSkip)
    (sRet (eB (aCons (eVar 0) (aCons (eC (.int 0)) (aCons (eVar 1) aNil))) (m 21))))
    (sRet (eLst (aCons (eAnd (eB (eVar 3) (gIsE [("NoTree", true), ("TooGreat", true)])) (eAnd (eB (eVar 3) (gIsE [("NoTree", true), ("TooGreat", true)])) (eNot (eB (eVar 3) (gIsE [("NoTree", true), ("TooGreat", false)]))))) aNil))))) (envOf 1 ds)) := runB_fin _ _ _
theorem run__law_rules (m : Nat → List PyData → R Ow) (ds : List PyData) : runB 1 (b__law_rules m) ds = finR (((sSeq (sSet 5 (eM (eTup (aCons (eTup (aCons (eC (.str "call")) (aCons (eC (.int 0)) (aCons (eC (.int 0)) aNil)))) aNil)) Ow.d))
    (sSeq (sIf (eB (eVar 2) asB)
    (sRet (eLst (aCons (eM (eB (aCons (eBin gIx (eVar 0) (eC (.int 3))) (aCons (eVar 1) (aCons (eBin gSub (eVar 4) (eC (.int 1))) (aCons (eTup aNil) aNil)))) (m 27)) viewD) (aCons (eM (eB (aCons (eBin gIx (eVar 0) (eC (.int 4))) (aCons (eVar 1) (aCons (eBin gSub (eVar 3) (eC (.int 1))) (aCons (eVar 5) aNil)))) (m 27)) viewD) aNil))))
    sSkip)
    (sRet (eLst (aCons (eM (eB (aCons (eBin gIx (eVar 0) (eC (.int 3))) (aCons (eVar 1) (aCons (eBin gSub (eVar 4) (eC (.int 1))) (aCons (eTup aNil) aNil)))) (m 28)) viewD) (aCons (eM (eB (aCons (eBin gIx (eVar 0) (eC (.int 4))) (aCons (eVar 1) (aCons (eBin gSub (eVar 3) (eC (.int 1))) (aCons (eVar 5) aNil)))) (m 28)) viewD) aNil))))))) (envOf 1 ds)) := runB_fin _ _ _
theorem run_law (m : Nat → List PyData → R Ow) (ds : List PyData) : runB 19 (b_law m) ds = finR (((sSeq (sSet 1 (eM (eM (eB (aCons (eM (eB (aCons (eVar 0) (aCons (eC (.int 0)) aNil)) (m 22)) viewD) aNil) (m 24)) viewD) Ow.d))
    (sSeq (sSet 2 (eM (eM (eB (aCons (eM (eB (aCons (eVar 0) (aCons (eC (.int 1)) aNil)) (m 22)) viewD) (aCons (eC (.int 1)) aNil)) (m 23)) viewD) Ow.d))
    (sSeq (sSet 3 (eM (eBin gIx (eB (eLst (aCons (eM (eBinO gAdd (eC (.int 398)) (eBin gMod (eVar 2) (eC (.int 6)))) viewD) (aCons (eM (eBinO gAdd (eC (.int 58)) (eBin gMod (eVar 2) (eC (.int 6)))) viewD) (aCons (eM (eBinO gAdd (eC (.int 14)) (eBin gMod (eVar 2) (eC (.int 30)))) viewD) aNil)))) shD) (eBin gMod (eBin gDiv (eVar 2) (eC (.int 8))) (eC (.int 3)))) Ow.d))
    (sSeq (sSet 4 (eM (eBin gEq (eBin gMod (eBin gDiv (eVar 2) (eC (.int 8))) (eC (.int 3))) (eC (.int 0))) Ow.d))
    (sSeq (sSet 5 (eM (eBin gIx (eB (eLst (aCons (eM (eBinO gAdd (eC (.int 2)) (eBin gMod (eBin gDiv (eVar 2) (eC (.int 64))) (eC (.int 6)))) viewD) (aCons (eM (eBinO gAdd (eC (.int 12)) (eBin gMod (eBin gDiv (eVar 2) (eC (.int 64))) (eC (.int 8)))) viewD) aNil))) shD) (eM (eCa gInt (aCons (eVar 4) aNil)) viewD)) Ow.d))
    (sSeq (sSet 6 (eM (eBin gDiv (eBin gSub (eVar 3) (eC (.int 1))) (eVar 5)) Ow.d))
    (sSeq (sSet 7 (eM (eBin gSub (eVar 3) (eBin gMul (eVar 6) (eVar 5))) Ow.d))
    (sSeq (sAsg (gtLst 2 (gtCons (gtName 8) (gtCons (gtName 9) gtNil))) (eM (eB (aCons (eVar 1) (aCons (eM (eB (aCons (eM (eB (aCons (eVar 0) (aCons (eC (.int 2)) aNil)) (m 22)) viewD) aNil) (m 25)) viewD) (aCons (eVar 4) (aCons (eVar 5) (aCons (eVar 7) aNil))))) (m 33)) viewD))
    (sSeq (sSet 10 (eM (eM (eCa gSorted (aCons (eB (eLst (aCons (eTup (aCons (eBin gIx (eVar 1) (eC (.int 1))) (aCons (eTup aNil) aNil))) (aCons (eTup (aCons (eBin gIx (eVar 1) (eC (.int 2))) (aCons (eTup (aCons (eBin gIx (eVar 1) (eC (.int 0))) aNil)) aNil))) aNil))) shD) aNil)) viewD) Ow.d))
    (sSeq (sSet 11 (eM (eM (eLst (aCons (eVar 8) (aCons (eVar 9) aNil))) viewD) Ow.d))
    (sSeq (sIf (eB (eBin gLtS (eBin gIx (eVar 1) (eC (.int 2))) (eBin gIx (eVar 1) (eC (.int 1)))) asB)
    (sSet 11 (eM (eM (eLst (aCons (eVar 9) (aCons (eVar 8) aNil))) viewD) Ow.d))
    sSkip)
    (sSeq (sSet 12 (eM (eTup (aCons (eM (eLst (aCons (eTup (aCons (eBin gIx (eVar 1) (eC (.int 0))) (aCons (eVar 10) aNil))) aNil)) viewD) (aCons (eTup (aCons (eC (.str "call")) (aCons (eC (.int 0)) (aCons (eC (.int 0)) aNil)))) (aCons (eM (eLst (aCons (eTup (aCons (eBin gIx (eVar 1) (eC (.int 0))) (aCons (eVar 11) aNil))) aNil)) viewD) aNil)))) Ow.d))
    (sSeq (sSet 13 (eM (eM (eB (aCons (eM (eB (aCons (eVar 0) (aCons (eC (.int 3)) aNil)) (m 22)) viewD) aNil) (m 25)) viewD) Ow.d))
    (sSeq (sSet 14 (eM (eTup (aCons (eBin gIx (eVar 1) (eC (.int 1))) (aCons (eVar 13) (aCons (eTup aNil) aNil)))) Ow.d))
    (sSeq (sSet 15 (eM (eM (eB (aCons (eVar 8) (aCons (eVar 13) (aCons (eC .none) aNil))) (m 30)) viewD) Ow.d))
    (sSeq (sFor (eB (aCons (eVar 6) aNil) rg1) (gtName 16)
    (sSeq (sSet 13 (eM (eM (eB (aCons (eM (eB (aCons (eVar 0) (aCons (eM (eBinO gAdd (eC (.int 4)) (eVar 16)) viewD) aNil)) (m 22)) viewD) aNil) (m 25)) viewD) Ow.d))
    (sSeq (sSet 14 (eM (eTup (aCons (eBin gIx (eVar 1) (eC (.int 2))) (aCons (eVar 13) (aCons (eTup (aCons (eVar 14) aNil)) aNil)))) Ow.d))
    (sSet 15 (eM (eM (eB (aCons (eVar 9) (aCons (eVar 13) (aCons (eVar 15) aNil))) (m 30)) viewD) Ow.d)))))
    (sSeq (sSet 17 (eM (eVar 3) Ow.d))
    (sSeq (sIf (eB (eVar 4) asB)
    (sSet 17 (eM (eM (eBinO gAdd (eB (eBinO gAdd (eVar 6) (eC (.int 1))) shD) (eB (eCa gInt (aCons (eBin gGt (eVar 7) (eC (.int 1))) aNil)) shD)) viewD) Ow.d))
    sSkip)
    (sSeq (sIf (tOrE (eB (eBin gNe (eM (eB (aCons (eVar 12) (aCons (eVar 14) aNil)) (m 13)) viewD) (eVar 3)) asB) (tOrE (eB (eBin gNe (eM (eB (aCons (eVar 12) (aCons (eVar 14) aNil)) (m 14)) viewD) (eVar 17)) asB) (eB (eBin gNe (eBin gIx (eB (eB (aCons (eVar 12) (aCons (eVar 14) (aCons (eTup aNil) aNil))) (m 17)) shD) (eC (.int 0))) (eBin gIx (eVar 15) (eC (.int 0)))) asB)))
    (sRet (eM (eC (.bool false)) Ow.d))
    sSkip)
    (sSeq (sFor (eB (aCons (eC (.int 2)) aNil) rg1) (gtName 18)
    (sSeq (sSet 19 (eM (eM (eB (aCons (eVar 12) (aCons (eVar 14) (aCons (eVar 18) aNil))) (m 32)) viewD) Ow.d))
    (sIf (tOrE (eB (eBin gGt (eVar 3) (eC (.int 400))) asB) (eB (eBin gGt (eVar 17) (eC (.int 60))) asB))
    (sIf (eB (eBin gNe (eVar 19) (eM (eLst (aCons (eC (.bool true)) aNil)) viewD)) asB)
    (sRet (eM (eC (.bool false)) Ow.d))
    sSkip)
    (sIf (tNotE (eB (eM (eB (aCons (eVar 19) (aCons (eVar 15) aNil)) (m 31)) viewD) asB))
    (sRet (eM (eC (.bool false)) Ow.d))
    sSkip))))
    (sRet (eB (aCons (eM (eB (aCons (eVar 12) (aCons (eTup (aCons (eBin gIx (eVar 1) (eC (.int 1))) (aCons (eVar 13) (aCons (eTup aNil) aNil)))) (aCons (eC (.int 0)) aNil))) (m 32)) viewD) (aCons (eM (eB (aCons (eVar 8) (aCons (eVar 13) (aCons (eC .none) aNil))) (m 30)) viewD) aNil)) (m 31)))))))))))))))))))))))) (envOf 19 ds)) := runB_fin _ _ _
abbrev N_calls_of : List Str := ["term", "found", "part"]
theorem sc_calls_of : FnScope N_calls_of ["term"] (defScope s_calls_of) := ⟨rfl, rfl, rfl, by decide +kernel, rfl, by decide +kernel, by decide +kernel⟩
abbrev N_rows_of : List Str := ["wood", "kind", "told", "rows"]
theorem sc_rows_of : FnScope N_rows_of ["wood", "kind"] (defScope s_rows_of) := ⟨rfl, rfl, rfl, by decide +kernel, rfl, by decide +kernel, by decide +kernel⟩
abbrev N_row_of : List Str := ["wood", "kind", "name", "told", "branches"]
theorem sc_row_of : FnScope N_row_of ["wood", "kind", "name"] (defScope s_row_of) := ⟨rfl, rfl, rfl, by decide +kernel, rfl, by decide +kernel, by decide +kernel⟩
abbrev N_is_of : List Str := ["wood", "kind", "tree", "branches", "wanted", "branch"]
theorem sc_is_of : FnScope N_is_of ["wood", "kind", "tree"] (defScope s_is_of) := ⟨rfl, rfl, rfl, by decide +kernel, rfl, by decide +kernel, by decide +kernel⟩
abbrev N_row_number : List Str := ["wood", "kind", "name", "k", "row"]
theorem sc_row_number : FnScope N_row_number ["wood", "kind", "name"] (defScope s_row_number) := ⟨rfl, rfl, rfl, by decide +kernel, rfl, by decide +kernel, by decide +kernel⟩
abbrev N_rule_of : List Str := ["turning", "mode", "name", "kind", "rules", "k"]
theorem sc_rule_of : FnScope N_rule_of ["turning", "mode", "name"] (defScope s_rule_of) := ⟨rfl, rfl, rfl, by decide +kernel, rfl, by decide +kernel, by decide +kernel⟩
abbrev N_look : List Str := ["turning", "kind", "tree"]
theorem sc_look : FnScope N_look ["turning", "kind", "tree"] (defScope s_look) := ⟨rfl, rfl, rfl, by decide +kernel, rfl, by decide +kernel, by decide +kernel⟩
abbrev N_above : List Str := ["tree"]
theorem sc_above : FnScope N_above ["tree"] (defScope s_above) := ⟨rfl, rfl, rfl, by decide +kernel, rfl, by decide +kernel, by decide +kernel⟩
abbrev N_mark_of : List Str := ["put", "read"]
theorem sc_mark_of : FnScope N_mark_of ["put", "read"] (defScope s_mark_of) := ⟨rfl, rfl, rfl, by decide +kernel, rfl, by decide +kernel, by decide +kernel⟩
abbrev N_modes_on : List Str := ["terms", "branch", "found", "term", "mode", "number"]
theorem sc_modes_on : FnScope N_modes_on ["terms", "branch"] (defScope s_modes_on) := ⟨rfl, rfl, rfl, by decide +kernel, rfl, by decide +kernel, by decide +kernel⟩
abbrev N_measure : List Str := ["term", "below", "names", "deep", "part", "found"]
theorem sc_measure : FnScope N_measure ["term", "below"] (defScope s_measure) := ⟨rfl, rfl, rfl, by decide +kernel, rfl, by decide +kernel, by decide +kernel⟩
abbrev N_below_of : List Str := ["turning", "terms", "read", "below", "branch", "tree", "modes", "rules", "mode", "inner", "found", "rule"]
theorem sc_below_of : FnScope N_below_of ["turning", "terms", "read"] (defScope s_below_of) := ⟨rfl, rfl, rfl, by decide +kernel, rfl, by decide +kernel, by decide +kernel⟩
abbrev N_measured : List Str := ["turning", "term", "read"]
theorem sc_measured : FnScope N_measured ["turning", "term", "read"] (defScope s_measured) := ⟨rfl, rfl, rfl, by decide +kernel, rfl, by decide +kernel, by decide +kernel⟩
abbrev N_many : List Str := ["turning", "tree"]
theorem sc_many : FnScope N_many ["turning", "tree"] (defScope s_many) := ⟨rfl, rfl, rfl, by decide +kernel, rfl, by decide +kernel, by decide +kernel⟩
abbrev N_tall : List Str := ["turning", "tree"]
theorem sc_tall : FnScope N_tall ["turning", "tree"] (defScope s_tall) := ⟨rfl, rfl, rfl, by decide +kernel, rfl, by decide +kernel, by decide +kernel⟩
abbrev N_settled : List Str := ["turning", "term", "read"]
theorem sc_settled : FnScope N_settled ["turning", "term", "read"] (defScope s_settled) := ⟨rfl, rfl, rfl, by decide +kernel, rfl, by decide +kernel, by decide +kernel⟩
abbrev N_seen_from : List Str := ["turning", "term", "read", "place", "here", "branch"]
theorem sc_seen_from : FnScope N_seen_from ["turning", "term", "read", "place"] (defScope s_seen_from) := ⟨rfl, rfl, rfl, by decide +kernel, rfl, by decide +kernel, by decide +kernel⟩
abbrev N_seen : List Str := ["turning", "tree", "place"]
theorem sc_seen : FnScope N_seen ["turning", "tree", "place"] (defScope s_seen) := ⟨rfl, rfl, rfl, by decide +kernel, rfl, by decide +kernel, by decide +kernel⟩
abbrev N_made : List Str := ["turning", "term", "read", "branch", "parts", "part"]
theorem sc_made : FnScope N_made ["turning", "term", "read"] (defScope s_made) := ⟨rfl, rfl, rfl, by decide +kernel, rfl, by decide +kernel, by decide +kernel⟩
abbrev N_made_within : List Str := ["turning", "term", "read", "names", "deep"]
theorem sc_made_within : FnScope N_made_within ["turning", "term", "read"] (defScope s_made_within) := ⟨rfl, rfl, rfl, by decide +kernel, rfl, by decide +kernel, by decide +kernel⟩
abbrev N_turned : List Str := ["turning", "tree"]
theorem sc_turned : FnScope N_turned ["turning", "tree"] (defScope s_turned) := ⟨rfl, rfl, rfl, by decide +kernel, rfl, by decide +kernel, by decide +kernel⟩
abbrev N_turned_in : List Str := ["turning", "mode", "tree"]
theorem sc_turned_in : FnScope N_turned_in ["turning", "mode", "tree"] (defScope s_turned_in) := ⟨rfl, rfl, rfl, by decide +kernel, rfl, by decide +kernel, by decide +kernel⟩
abbrev N__law_cell_at : List Str := ["_law_script", "_law_k"]
theorem sc__law_cell_at : FnScope N__law_cell_at ["_law_script", "_law_k"] (defScope s__law_cell_at) := ⟨rfl, rfl, rfl, by decide +kernel, rfl, by decide +kernel, by decide +kernel⟩
abbrev N__law_mixed : List Str := ["_law_cell", "_law_k", "_law_number"]
theorem sc__law_mixed : FnScope N__law_mixed ["_law_cell", "_law_k"] (defScope s__law_mixed) := ⟨rfl, rfl, rfl, by decide +kernel, rfl, by decide +kernel, by decide +kernel⟩
abbrev N__law_names : List Str := ["_law_cell", "_law_letters", "_law_base", "_law_j", "_law_k", "_law_width", "_law_spot", "_law_names_here", "_law_moved"]
theorem sc__law_names : FnScope N__law_names ["_law_cell"] (defScope s__law_names) := ⟨rfl, rfl, rfl, by decide +kernel, rfl, by decide +kernel, by decide +kernel⟩
abbrev N__law_great : List Str := ["_law_cell"]
theorem sc__law_great : FnScope N__law_great ["_law_cell"] (defScope s__law_great) := ⟨rfl, rfl, rfl, by decide +kernel, rfl, by decide +kernel, by decide +kernel⟩
abbrev N__law_whole : List Str := ["_law_found"]
theorem sc__law_whole : FnScope N__law_whole ["_law_found"] (defScope s__law_whole) := ⟨rfl, rfl, rfl, by decide +kernel, rfl, by decide +kernel, by decide +kernel⟩
abbrev N__law_wide : List Str := ["_law_name", "_law_add", "_law_count", "_law_inner", "_law_k"]
theorem sc__law_wide : FnScope N__law_wide ["_law_name", "_law_add", "_law_count", "_law_inner"] (defScope s__law_wide) := ⟨rfl, rfl, rfl, by decide +kernel, rfl, by decide +kernel, by decide +kernel⟩
abbrev N__law_deep : List Str := ["_law_name", "_law_add", "_law_count", "_law_inner", "_law_term", "_law_k"]
theorem sc__law_deep : FnScope N__law_deep ["_law_name", "_law_add", "_law_count", "_law_inner"] (defScope s__law_deep) := ⟨rfl, rfl, rfl, by decide +kernel, rfl, by decide +kernel, by decide +kernel⟩
abbrev N__law_kept : List Str := ["_law_term", "_law_mark"]
theorem sc__law_kept : FnScope N__law_kept ["_law_term", "_law_mark"] (defScope s__law_kept) := ⟨rfl, rfl, rfl, by decide +kernel, rfl, by decide +kernel, by decide +kernel⟩
abbrev N__law_put : List Str := ["_law_term", "_law_mark", "_law_below", "_law_parts", "_law_part"]
theorem sc__law_put : FnScope N__law_put ["_law_term", "_law_mark", "_law_below"] (defScope s__law_put) := ⟨rfl, rfl, rfl, by decide +kernel, rfl, by decide +kernel, by decide +kernel⟩
abbrev N__law_walk : List Str := ["_law_found", "_law_due", "_law_todo", "_law_one", "_law_other"]
theorem sc__law_walk : FnScope N__law_walk ["_law_found", "_law_due"] (defScope s__law_walk) := ⟨rfl, rfl, rfl, by decide +kernel, rfl, by decide +kernel, by decide +kernel⟩
abbrev N__law_answer : List Str := ["_law_turning", "_law_tree", "_law_ask", "e"]
theorem sc__law_answer : FnScope N__law_answer ["_law_turning", "_law_tree", "_law_ask"] (defScope s__law_answer) := ⟨rfl, rfl, rfl, by decide +kernel, rfl, by decide +kernel, by decide +kernel⟩
abbrev N__law_rules : List Str := ["_law_names_here", "_law_add", "_law_sides", "_law_each", "_law_last", "_law_call"]
theorem sc__law_rules : FnScope N__law_rules ["_law_names_here", "_law_add", "_law_sides", "_law_each", "_law_last"] (defScope s__law_rules) := ⟨rfl, rfl, rfl, by decide +kernel, rfl, by decide +kernel, by decide +kernel⟩
abbrev N_law : List Str := ["_law_script", "_law_names_here", "_law_number", "_law_goal", "_law_sides", "_law_each", "_law_steps", "_law_last", "_law_bare", "_law_full", "_law_rows", "_law_rules_here", "_law_turning", "_law_mark", "_law_tree", "_law_due", "_law_k", "_law_deep_here", "_law_ask", "_law_found"]
theorem sc_law : FnScope N_law ["_law_script"] (defScope s_law) := ⟨rfl, rfl, rfl, by decide +kernel, rfl, by decide +kernel, by decide +kernel⟩
structure Txt (K : PySem.W.Frag) (mg : Str → Option Value) (f : Nat → Addr) (fd : Nat → FuncData) (cl : Nat → Addr) : Prop where
  F_calls_of : Fun K "calls_of" "calls_of" s_calls_of (f 0) (fd 0)
  B_calls_of : Binds K (fd 0) ["term"] []
  M_calls_of : mg "calls_of" = some (.ref (f 0))
  F_rows_of : Fun K "rows_of" "rows_of" s_rows_of (f 1) (fd 1)
  B_rows_of : Binds K (fd 1) ["wood", "kind"] []
  M_rows_of : mg "rows_of" = some (.ref (f 1))
  F_row_of : Fun K "row_of" "row_of" s_row_of (f 2) (fd 2)
  B_row_of : Binds K (fd 2) ["wood", "kind", "name"] []
  M_row_of : mg "row_of" = some (.ref (f 2))
  F_is_of : Fun K "is_of" "is_of" s_is_of (f 3) (fd 3)
  B_is_of : Binds K (fd 3) ["wood", "kind", "tree"] []
  M_is_of : mg "is_of" = some (.ref (f 3))
  F_row_number : Fun K "row_number" "row_number" s_row_number (f 4) (fd 4)
  B_row_number : Binds K (fd 4) ["wood", "kind", "name"] []
  M_row_number : mg "row_number" = some (.ref (f 4))
  F_rule_of : Fun K "rule_of" "rule_of" s_rule_of (f 5) (fd 5)
  B_rule_of : Binds K (fd 5) ["turning", "mode", "name"] []
  M_rule_of : mg "rule_of" = some (.ref (f 5))
  F_look : Fun K "look" "look" s_look (f 6) (fd 6)
  B_look : Binds K (fd 6) ["turning", "kind", "tree"] []
  M_look : mg "look" = some (.ref (f 6))
  F_above : Fun K "above" "above" s_above (f 7) (fd 7)
  B_above : Binds K (fd 7) ["tree"] []
  M_above : mg "above" = some (.ref (f 7))
  F_mark_of : Fun K "mark_of" "mark_of" s_mark_of (f 8) (fd 8)
  B_mark_of : Binds K (fd 8) ["put", "read"] []
  M_mark_of : mg "mark_of" = some (.ref (f 8))
  F_modes_on : Fun K "modes_on" "modes_on" s_modes_on (f 9) (fd 9)
  B_modes_on : Binds K (fd 9) ["terms", "branch"] []
  M_modes_on : mg "modes_on" = some (.ref (f 9))
  F_measure : Fun K "measure" "measure" s_measure (f 10) (fd 10)
  B_measure : Binds K (fd 10) ["term", "below"] []
  M_measure : mg "measure" = some (.ref (f 10))
  F_below_of : Fun K "below_of" "below_of" s_below_of (f 11) (fd 11)
  B_below_of : Binds K (fd 11) ["turning", "terms", "read"] []
  M_below_of : mg "below_of" = some (.ref (f 11))
  F_measured : Fun K "measured" "measured" s_measured (f 12) (fd 12)
  B_measured : Binds K (fd 12) ["turning", "term", "read"] []
  M_measured : mg "measured" = some (.ref (f 12))
  F_many : Fun K "many" "many" s_many (f 13) (fd 13)
  B_many : Binds K (fd 13) ["turning", "tree"] []
  M_many : mg "many" = some (.ref (f 13))
  F_tall : Fun K "tall" "tall" s_tall (f 14) (fd 14)
  B_tall : Binds K (fd 14) ["turning", "tree"] []
  M_tall : mg "tall" = some (.ref (f 14))
  F_settled : Fun K "settled" "settled" s_settled (f 15) (fd 15)
  B_settled : Binds K (fd 15) ["turning", "term", "read"] []
  M_settled : mg "settled" = some (.ref (f 15))
  F_seen_from : Fun K "seen_from" "seen_from" s_seen_from (f 16) (fd 16)
  B_seen_from : Binds K (fd 16) ["turning", "term", "read", "place"] []
  M_seen_from : mg "seen_from" = some (.ref (f 16))
  F_seen : Fun K "seen" "seen" s_seen (f 17) (fd 17)
  B_seen : Binds K (fd 17) ["turning", "tree", "place"] []
  M_seen : mg "seen" = some (.ref (f 17))
  F_made : Fun K "made" "made" s_made (f 18) (fd 18)
  B_made : Binds K (fd 18) ["turning", "term", "read"] []
  M_made : mg "made" = some (.ref (f 18))
  F_made_within : Fun K "made_within" "made_within" s_made_within (f 19) (fd 19)
  B_made_within : Binds K (fd 19) ["turning", "term", "read"] []
  M_made_within : mg "made_within" = some (.ref (f 19))
  F_turned : Fun K "turned" "turned" s_turned (f 20) (fd 20)
  B_turned : Binds K (fd 20) ["turning", "tree"] []
  M_turned : mg "turned" = some (.ref (f 20))
  F_turned_in : Fun K "turned_in" "turned_in" s_turned_in (f 21) (fd 21)
  B_turned_in : Binds K (fd 21) ["turning", "mode", "tree"] []
  M_turned_in : mg "turned_in" = some (.ref (f 21))
  F__law_cell_at : Fun K "_law_cell_at" "_law_cell_at" s__law_cell_at (f 22) (fd 22)
  B__law_cell_at : Binds K (fd 22) ["_law_script", "_law_k"] []
  M__law_cell_at : mg "_law_cell_at" = some (.ref (f 22))
  F__law_mixed : Fun K "_law_mixed" "_law_mixed" s__law_mixed (f 23) (fd 23)
  B__law_mixed : Binds K (fd 23) ["_law_cell", "_law_k"] []
  M__law_mixed : mg "_law_mixed" = some (.ref (f 23))
  F__law_names : Fun K "_law_names" "_law_names" s__law_names (f 24) (fd 24)
  B__law_names : Binds K (fd 24) ["_law_cell"] []
  M__law_names : mg "_law_names" = some (.ref (f 24))
  F__law_great : Fun K "_law_great" "_law_great" s__law_great (f 25) (fd 25)
  B__law_great : Binds K (fd 25) ["_law_cell"] []
  M__law_great : mg "_law_great" = some (.ref (f 25))
  F__law_whole : Fun K "_law_whole" "_law_whole" s__law_whole (f 26) (fd 26)
  B__law_whole : Binds K (fd 26) ["_law_found"] []
  M__law_whole : mg "_law_whole" = some (.ref (f 26))
  F__law_wide : Fun K "_law_wide" "_law_wide" s__law_wide (f 27) (fd 27)
  B__law_wide : Binds K (fd 27) ["_law_name", "_law_add", "_law_count", "_law_inner"] []
  M__law_wide : mg "_law_wide" = some (.ref (f 27))
  F__law_deep : Fun K "_law_deep" "_law_deep" s__law_deep (f 28) (fd 28)
  B__law_deep : Binds K (fd 28) ["_law_name", "_law_add", "_law_count", "_law_inner"] []
  M__law_deep : mg "_law_deep" = some (.ref (f 28))
  F__law_kept : Fun K "_law_kept" "_law_kept" s__law_kept (f 29) (fd 29)
  B__law_kept : Binds K (fd 29) ["_law_term", "_law_mark"] []
  M__law_kept : mg "_law_kept" = some (.ref (f 29))
  F__law_put : Fun K "_law_put" "_law_put" s__law_put (f 30) (fd 30)
  B__law_put : Binds K (fd 30) ["_law_term", "_law_mark", "_law_below"] []
  M__law_put : mg "_law_put" = some (.ref (f 30))
  F__law_walk : Fun K "_law_walk" "_law_walk" s__law_walk (f 31) (fd 31)
  B__law_walk : Binds K (fd 31) ["_law_found", "_law_due"] []
  M__law_walk : mg "_law_walk" = some (.ref (f 31))
  F__law_answer : Fun K "_law_answer" "_law_answer" s__law_answer (f 32) (fd 32)
  B__law_answer : Binds K (fd 32) ["_law_turning", "_law_tree", "_law_ask"] []
  M__law_answer : mg "_law_answer" = some (.ref (f 32))
  F__law_rules : Fun K "_law_rules" "_law_rules" s__law_rules (f 33) (fd 33)
  B__law_rules : Binds K (fd 33) ["_law_names_here", "_law_add", "_law_sides", "_law_each", "_law_last"] []
  M__law_rules : mg "_law_rules" = some (.ref (f 33))
  F_law : Fun K "law" "law" s_law (f 34) (fd 34)
  B_law : Binds K (fd 34) ["_law_script"] []
  M_law : mg "law" = some (.ref (f 34))
  z_ValueError : mg "ValueError" = none
  z_bool : mg "bool" = none
  z_enumerate : mg "enumerate" = none
  z_int : mg "int" = none
  z_isinstance : mg "isinstance" = none
  z_len : mg "len" = none
  z_list : mg "list" = none
  z_max : mg "max" = none
  z_range : mg "range" = none
  z_sorted : mg "sorted" = none
  z_str : mg "str" = none
  z_tuple : mg "tuple" = none
  z_zip : mg "zip" = none
  cn_NoTree : PySem.W.nsIn K PySem.mainGlobals "NoTree" = some (some (.ref (cl 0)))
  cg_NoTree : mg "NoTree" = some (.ref (cl 0))
  cx_NoTree : ExcT K mg "NoTree" (cl 0)
  cc_NoTree : ExcC K (cl 0)
  cn_TooGreat : PySem.W.nsIn K PySem.mainGlobals "TooGreat" = some (some (.ref (cl 1)))
  cg_TooGreat : mg "TooGreat" = some (.ref (cl 1))
  cx_TooGreat : ExcT K mg "TooGreat" (cl 1)
  cc_TooGreat : ExcC K (cl 1)
  cg_TurnError : mg "TurnError" = some (.ref (cl 2))
  ci_NoTree_NoTree : PySem.W.kitOne K (.ref (cl 0)) (.ref (cl 0)) = some true
  ci_TooGreat_NoTree : PySem.W.kitOne K (.ref (cl 1)) (.ref (cl 0)) = some false
  ci_NoTree_ValueError : PySem.W.kitOne K (.ref (cl 0)) (.type "ValueError") = some true
  ci_TooGreat_ValueError : PySem.W.kitOne K (.ref (cl 1)) (.type "ValueError") = some true
  ci_NoTree_TurnError : PySem.W.kitOne K (.ref (cl 0)) (.ref (cl 2)) = some true
  ci_TooGreat_TurnError : PySem.W.kitOne K (.ref (cl 1)) (.ref (cl 2)) = some true
  cm_TooGreat_TooGreat : PySem.W.exmOne K (.ref (cl 1)) (.ref (cl 1)) = some true
  cm_NoTree_TooGreat : PySem.W.exmOne K (.ref (cl 0)) (.ref (cl 1)) = some false
  kn_NoTree : PySem.W.kitOne K (.type "NoneType") (.ref (cl 0)) = some false
  kn_ValueError : PySem.W.kitOne K (.type "NoneType") (.type "ValueError") = some false
  kn_TurnError : PySem.W.kitOne K (.type "NoneType") (.ref (cl 2)) = some false
structure Fns (P : Program) (w : World) (K : PySem.W.Frag) (mg : Str → Option Value) (base : Heap) (f : Nat → Addr) (fd : Nat → FuncData) (n : Nat) : Prop where
  g_calls_of : FnOk P w K mg base (L2.CX P w) n (f 0) (fd 0) ["term"] (spM ⟨K, w⟩ mg 1 (mir n 0))
  g_rows_of : FnOk P w K mg base (L2.CX P w) n (f 1) (fd 1) ["wood", "kind"] (spM ⟨K, w⟩ mg 2 (mir n 1))
  g_row_of : FnOk P w K mg base (L2.CX P w) n (f 2) (fd 2) ["wood", "kind", "name"] (spM ⟨K, w⟩ mg 3 (mir n 2))
  g_is_of : FnOk P w K mg base (L2.CX P w) n (f 3) (fd 3) ["wood", "kind", "tree"] (spM ⟨K, w⟩ mg 3 (mir n 3))
  g_row_number : FnOk P w K mg base (L2.CX P w) n (f 4) (fd 4) ["wood", "kind", "name"] (spM ⟨K, w⟩ mg 3 (mir n 4))
  g_rule_of : FnOk P w K mg base (L2.CX P w) n (f 5) (fd 5) ["turning", "mode", "name"] (spM ⟨K, w⟩ mg 3 (mir n 5))
  g_look : FnOk P w K mg base (L2.CX P w) n (f 6) (fd 6) ["turning", "kind", "tree"] (spM ⟨K, w⟩ mg 3 (mir n 6))
  g_above : FnOk P w K mg base (L2.CX P w) n (f 7) (fd 7) ["tree"] (spM ⟨K, w⟩ mg 1 (mir n 7))
  g_mark_of : FnOk P w K mg base (L2.CX P w) n (f 8) (fd 8) ["put", "read"] (spM ⟨K, w⟩ mg 2 (mir n 8))
  g_modes_on : FnOk P w K mg base (L2.CX P w) n (f 9) (fd 9) ["terms", "branch"] (spM ⟨K, w⟩ mg 2 (mir n 9))
  g_measure : FnOk P w K mg base (L2.CX P w) n (f 10) (fd 10) ["term", "below"] (spM ⟨K, w⟩ mg 2 (mir n 10))
  g_below_of : FnOk P w K mg base (L2.CX P w) n (f 11) (fd 11) ["turning", "terms", "read"] (spM ⟨K, w⟩ mg 3 (mir n 11))
  g_measured : FnOk P w K mg base (L2.CX P w) n (f 12) (fd 12) ["turning", "term", "read"] (spM ⟨K, w⟩ mg 3 (mir n 12))
  g_many : FnOk P w K mg base (L2.CX P w) n (f 13) (fd 13) ["turning", "tree"] (spM ⟨K, w⟩ mg 2 (mir n 13))
  g_tall : FnOk P w K mg base (L2.CX P w) n (f 14) (fd 14) ["turning", "tree"] (spM ⟨K, w⟩ mg 2 (mir n 14))
  g_settled : FnOk P w K mg base (L2.CX P w) n (f 15) (fd 15) ["turning", "term", "read"] (spM ⟨K, w⟩ mg 3 (mir n 15))
  g_seen_from : FnOk P w K mg base (L2.CX P w) n (f 16) (fd 16) ["turning", "term", "read", "place"] (spM ⟨K, w⟩ mg 4 (mir n 16))
  g_seen : FnOk P w K mg base (L2.CX P w) n (f 17) (fd 17) ["turning", "tree", "place"] (spM ⟨K, w⟩ mg 3 (mir n 17))
  g_made : FnOk P w K mg base (L2.CX P w) n (f 18) (fd 18) ["turning", "term", "read"] (spM ⟨K, w⟩ mg 3 (mir n 18))
  g_made_within : FnOk P w K mg base (L2.CX P w) n (f 19) (fd 19) ["turning", "term", "read"] (spM ⟨K, w⟩ mg 3 (mir n 19))
  g_turned : FnOk P w K mg base (L2.CX P w) n (f 20) (fd 20) ["turning", "tree"] (spM ⟨K, w⟩ mg 2 (mir n 20))
  g_turned_in : FnOk P w K mg base (L2.CX P w) n (f 21) (fd 21) ["turning", "mode", "tree"] (spM ⟨K, w⟩ mg 3 (mir n 21))
  g__law_cell_at : FnOk P w K mg base (L2.CX P w) n (f 22) (fd 22) ["_law_script", "_law_k"] (spM ⟨K, w⟩ mg 2 (mir n 22))
  g__law_mixed : FnOk P w K mg base (L2.CX P w) n (f 23) (fd 23) ["_law_cell", "_law_k"] (spM ⟨K, w⟩ mg 2 (mir n 23))
  g__law_names : FnOk P w K mg base (L2.CX P w) n (f 24) (fd 24) ["_law_cell"] (spM ⟨K, w⟩ mg 1 (mir n 24))
  g__law_great : FnOk P w K mg base (L2.CX P w) n (f 25) (fd 25) ["_law_cell"] (spM ⟨K, w⟩ mg 1 (mir n 25))
  g__law_whole : FnOk P w K mg base (L2.CX P w) n (f 26) (fd 26) ["_law_found"] (spM ⟨K, w⟩ mg 1 (mir n 26))
  g__law_wide : FnOk P w K mg base (L2.CX P w) n (f 27) (fd 27) ["_law_name", "_law_add", "_law_count", "_law_inner"] (spM ⟨K, w⟩ mg 4 (mir n 27))
  g__law_deep : FnOk P w K mg base (L2.CX P w) n (f 28) (fd 28) ["_law_name", "_law_add", "_law_count", "_law_inner"] (spM ⟨K, w⟩ mg 4 (mir n 28))
  g__law_kept : FnOk P w K mg base (L2.CX P w) n (f 29) (fd 29) ["_law_term", "_law_mark"] (spM ⟨K, w⟩ mg 2 (mir n 29))
  g__law_put : FnOk P w K mg base (L2.CX P w) n (f 30) (fd 30) ["_law_term", "_law_mark", "_law_below"] (spM ⟨K, w⟩ mg 3 (mir n 30))
  g__law_walk : FnOk P w K mg base (L2.CX P w) n (f 31) (fd 31) ["_law_found", "_law_due"] (spM ⟨K, w⟩ mg 2 (mir n 31))
  g__law_answer : FnOk P w K mg base (L2.CX P w) n (f 32) (fd 32) ["_law_turning", "_law_tree", "_law_ask"] (spM ⟨K, w⟩ mg 3 (mir n 32))
  g__law_rules : FnOk P w K mg base (L2.CX P w) n (f 33) (fd 33) ["_law_names_here", "_law_add", "_law_sides", "_law_each", "_law_last"] (spM ⟨K, w⟩ mg 5 (mir n 33))
  g_law : FnOk P w K mg base (L2.CX P w) n (f 34) (fd 34) ["_law_script"] (spM ⟨K, w⟩ mg 1 (mir n 34))
section
variable {P : Program} {w : World} {K : PySem.W.Frag} {mg : Str → Option Value} {base : Heap} {f : Nat → Addr} {fd : Nat → FuncData} {cl : Nat → Addr} {n : Nat}
theorem ok_calls_of (T : Txt K mg f fd cl) (G : Fns P w K mg base f fd n) : FnOk P w K mg base (L2.CX P w) (n + 1) (f 0) (fd 0) ["term"] (spM ⟨K, w⟩ mg 1 (mir (n + 1) 0)) :=
  mk_fn (l := 2) (fb := b_calls_of (mir n)) T.F_calls_of sc_calls_of rfl (fun _ => rfl) fun cdv A outer s H E hr =>
    (dss_cons (ds_if (dt_eq (room_eq hr) (dv_df (df_ix (dl_df (df_var 0)) (dv_df df_int))) (dv_df df_str))
    (dss_one (ds_ret (de_lst (da_cons (df_tup (da_cons (df_ix (dl_df (df_var 0)) (dv_df df_int)) (da_cons (df_ix (dl_df (df_var 0)) (dv_df df_int)) da_nil))) da_nil))))
    dss_nil)
    (dss_cons (ds_set 1 sc_calls_of.nd (de_lst da_nil))
    (dss_cons (ds_for (ix := [2]) (passes_of rfl) rfl (di_seq (df_ix (dl_df (df_var 0)) (dv_df df_int))) (dg_name 2 sc_calls_of.nd)
    (dss_one (ds_ext 1 (dl_de (de_call G.g_calls_of (takes_of rfl rfl rfl rfl) hr rfl T.M_calls_of T.F_calls_of.kp T.B_calls_of (da_cons (df_var 2) da_nil) (aCons_len (fun _ _ h => aNil_len h)))))))
    (dss_one (ds_retV 1)))))
theorem ok_rows_of (T : Txt K mg f fd cl) (G : Fns P w K mg base f fd n) : FnOk P w K mg base (L2.CX P w) (n + 1) (f 1) (fd 1) ["wood", "kind"] (spM ⟨K, w⟩ mg 2 (mir (n + 1) 1)) :=
  mk_fn (l := 2) (fb := b_rows_of (mir n)) T.F_rows_of sc_rows_of rfl (fun _ => rfl) fun cdv A outer s H E hr =>
    (dss_cons (ds_for (ix := [2, 3]) (passes_of rfl) rfl (di_seq (df_var 0)) (dg_tup (n := 2) rfl (dgs_cons (dg_name 2 sc_rows_of.nd) (dgs_cons (dg_name 3 sc_rows_of.nd) dgs_nil)))
    (dss_one (ds_if (dt_eq (room_eq hr) (dv_df (df_var 2)) (dv_df (df_var 1)))
    (dss_one (ds_ret (de_df (df_var 3))))
    dss_nil)))
    (dss_one (ds_ret (de_lst da_nil))))
theorem ok_row_of (T : Txt K mg f fd cl) (G : Fns P w K mg base f fd n) : FnOk P w K mg base (L2.CX P w) (n + 1) (f 2) (fd 2) ["wood", "kind", "name"] (spM ⟨K, w⟩ mg 3 (mir (n + 1) 2)) :=
  mk_fn (l := 2) (fb := b_row_of (mir n)) T.F_row_of sc_row_of rfl (fun _ => rfl) fun cdv A outer s H E hr =>
    (dss_cons (ds_for (ix := [3, 4]) (passes_of rfl) rfl (di_seq (df_de (de_call G.g_rows_of (takes_of rfl rfl rfl rfl) hr rfl T.M_rows_of T.F_rows_of.kp T.B_rows_of (da_cons (df_var 0) (da_cons (df_var 1) da_nil)) (aCons_len (aCons_len (fun _ _ h => aNil_len h)))))) (dg_tup (n := 2) rfl (dgs_cons (dg_name 3 sc_row_of.nd) (dgs_cons (dg_name 4 sc_row_of.nd) dgs_nil)))
    (dss_one (ds_if (dt_eq (room_eq hr) (dv_df (df_var 3)) (dv_df (df_var 2)))
    (dss_one (ds_ret (de_df (df_var 4))))
    dss_nil)))
    (dss_one (ds_ret (de_df df_non))))
theorem ok_is_of (T : Txt K mg f fd cl) (G : Fns P w K mg base f fd n) : FnOk P w K mg base (L2.CX P w) (n + 1) (f 3) (fd 3) ["wood", "kind", "tree"] (spM ⟨K, w⟩ mg 3 (mir (n + 1) 3)) :=
  mk_fn (l := 3) (fb := b_is_of (mir n)) T.F_is_of sc_is_of rfl (fun _ => rfl) fun cdv A outer s H E hr =>
    (dss_cons (ds_set 3 sc_is_of.nd (de_df (df_de (de_call G.g_row_of (takes_of rfl rfl rfl rfl) hr rfl T.M_row_of T.F_row_of.kp T.B_row_of (da_cons (df_var 0) (da_cons (df_var 1) (da_cons (df_ix (dl_df (df_var 2)) (dv_df df_int)) da_nil))) (aCons_len (aCons_len (aCons_len (fun _ _ h => aNil_len h))))))))
    (dss_cons (ds_if (dt_dw (dw_or (dt_isN (dv_df (df_var 3)) (dv_df df_non)) (dw_or1 (dt_ne (room_eq hr) (dv_de (de_len rfl T.z_len (dal_cons (dl_df (df_var 3)) dal_nil))) (dv_de (de_len rfl T.z_len (dal_cons (dl_df (df_ix (dl_df (df_var 2)) (dv_df df_int))) dal_nil)))))))
    (dss_one (ds_ret (de_df df_bl)))
    dss_nil)
    (dss_cons (ds_for (ix := [4, 5]) (passes_of rfl) rfl (di_zip rfl T.z_zip (da_cons (df_var 3) (da_cons (df_ix (dl_df (df_var 2)) (dv_df df_int)) da_nil))) (dg_tup (n := 2) rfl (dgs_cons (dg_name 4 sc_is_of.nd) (dgs_cons (dg_name 5 sc_is_of.nd) dgs_nil)))
    (dss_one (ds_if (dt_not (dt_val (dv_de (de_call G.g_is_of (takes_of rfl rfl rfl rfl) hr rfl T.M_is_of T.F_is_of.kp T.B_is_of (da_cons (df_var 0) (da_cons (df_var 4) (da_cons (df_var 5) da_nil))) (aCons_len (aCons_len (aCons_len (fun _ _ h => aNil_len h))))))))
    (dss_one (ds_ret (de_df df_bl)))
    dss_nil)))
    (dss_one (ds_ret (de_df df_bl))))))
theorem ok_row_number (T : Txt K mg f fd cl) (G : Fns P w K mg base f fd n) : FnOk P w K mg base (L2.CX P w) (n + 1) (f 4) (fd 4) ["wood", "kind", "name"] (spM ⟨K, w⟩ mg 3 (mir (n + 1) 4)) :=
  mk_fn (l := 2) (fb := b_row_number (mir n)) T.F_row_number sc_row_number rfl (fun _ => rfl) fun cdv A outer s H E hr =>
    (dss_cons (ds_for (ix := [3, 4]) (passes_of rfl) rfl (di_enum rfl T.z_enumerate (da_cons (df_de (de_call G.g_rows_of (takes_of rfl rfl rfl rfl) hr rfl T.M_rows_of T.F_rows_of.kp T.B_rows_of (da_cons (df_var 0) (da_cons (df_var 1) da_nil)) (aCons_len (aCons_len (fun _ _ h => aNil_len h))))) da_nil)) (dg_tup (n := 2) rfl (dgs_cons (dg_name 3 sc_row_number.nd) (dgs_cons (dg_name 4 sc_row_number.nd) dgs_nil)))
    (dss_one (ds_if (dt_eq (room_eq hr) (dv_df (df_ix (dl_df (df_var 4)) (dv_df df_int))) (dv_df (df_var 2)))
    (dss_one (ds_ret (de_df (df_var 3))))
    dss_nil)))
    (dss_one (ds_ret (de_df df_non))))
theorem ok_rule_of (T : Txt K mg f fd cl) (G : Fns P w K mg base f fd n) : FnOk P w K mg base (L2.CX P w) (n + 1) (f 5) (fd 5) ["turning", "mode", "name"] (spM ⟨K, w⟩ mg 3 (mir (n + 1) 5)) :=
  mk_fn (l := 3) (fb := b_rule_of (mir n)) T.F_rule_of sc_rule_of rfl (fun _ => rfl) fun cdv A outer s H E hr =>
    (dss_cons (ds_asg (ix := [3, 4]) (df_ix (dl_df (df_ix (dl_df (df_var 0)) (dv_df df_int))) (dv_df (df_var 1))) (dg_tup (n := 2) rfl (dgs_cons (dg_name 3 sc_rule_of.nd) (dgs_cons (dg_name 4 sc_rule_of.nd) dgs_nil))))
    (dss_cons (ds_set 5 sc_rule_of.nd (de_df (df_de (de_call G.g_row_number (takes_of rfl rfl rfl rfl) hr rfl T.M_row_number T.F_row_number.kp T.B_row_number (da_cons (df_ix (dl_df (df_var 0)) (dv_df df_int)) (da_cons (df_var 3) (da_cons (df_var 2) da_nil))) (aCons_len (aCons_len (aCons_len (fun _ _ h => aNil_len h))))))))
    (dss_cons (ds_if (dt_isN (dv_df (df_var 5)) (dv_df df_non))
    (dss_one (ds_ret (de_df df_non)))
    dss_nil)
    (dss_one (ds_ret (de_df (df_ix (dl_df (df_var 4)) (dv_df (df_var 5)))))))))
theorem ok_look (T : Txt K mg f fd cl) (G : Fns P w K mg base f fd n) : FnOk P w K mg base (L2.CX P w) (n + 1) (f 6) (fd 6) ["turning", "kind", "tree"] (spM ⟨K, w⟩ mg 3 (mir (n + 1) 6)) :=
  mk_fn (l := 0) (fb := b_look (mir n)) T.F_look sc_look rfl (fun _ => rfl) fun cdv A outer s H E hr =>
    (dss_one (ds_if (dt_not (dt_val (dv_de (de_call G.g_is_of (takes_of rfl rfl rfl rfl) hr rfl T.M_is_of T.F_is_of.kp T.B_is_of (da_cons (df_ix (dl_df (df_var 0)) (dv_df df_int)) (da_cons (df_var 1) (da_cons (df_var 2) da_nil))) (aCons_len (aCons_len (aCons_len (fun _ _ h => aNil_len h))))))))
    (dss_one (ds_raise rfl (takes_of rfl rfl rfl rfl) T.cx_NoTree rfl))
    dss_nil))
theorem ok_above (T : Txt K mg f fd cl) (G : Fns P w K mg base f fd n) : FnOk P w K mg base (L2.CX P w) (n + 1) (f 7) (fd 7) ["tree"] (spM ⟨K, w⟩ mg 1 (mir (n + 1) 7)) :=
  mk_fn (l := 0) (fb := b_above (mir n)) T.F_above sc_above rfl (fun _ => rfl) fun cdv A outer s H E hr =>
    (dss_one (ds_ret (de_df (df_tup (da_cons df_str (da_cons df_int (da_cons (df_tup (da_cons (df_var 0) da_nil)) da_nil)))))))
theorem ok_mark_of (T : Txt K mg f fd cl) (G : Fns P w K mg base f fd n) : FnOk P w K mg base (L2.CX P w) (n + 1) (f 8) (fd 8) ["put", "read"] (spM ⟨K, w⟩ mg 2 (mir (n + 1) 8)) :=
  mk_fn (l := 0) (fb := b_mark_of (mir n)) T.F_mark_of sc_mark_of rfl (fun _ => rfl) fun cdv A outer s H E hr =>
    (dss_cons (ds_if (dt_val (dv_df (df_ix (dl_df (df_var 0)) (dv_df df_int))))
    (dss_one (ds_ret (de_add (dl_df (df_ix (dl_df (df_var 0)) (dv_df df_int))) (dl_df (df_ix (dl_df (df_var 1)) (dv_df df_int))))))
    dss_nil)
    (dss_one (ds_ret (de_df (df_ix (dl_df (df_var 0)) (dv_df df_int))))))
theorem ok_modes_on (T : Txt K mg f fd cl) (G : Fns P w K mg base f fd n) : FnOk P w K mg base (L2.CX P w) (n + 1) (f 9) (fd 9) ["terms", "branch"] (spM ⟨K, w⟩ mg 2 (mir (n + 1) 9)) :=
  mk_fn (l := 4) (fb := b_modes_on (mir n)) T.F_modes_on sc_modes_on rfl (fun _ => rfl) fun cdv A outer s H E hr =>
    (dss_cons (ds_set 2 sc_modes_on.nd de_dictNew)
    (dss_cons (ds_for (ix := [3]) (passes_of rfl) rfl (di_seq (df_var 0)) (dg_name 3 sc_modes_on.nd)
    (dss_one (ds_for (ix := [4, 5]) (passes_of rfl) rfl (di_seq (df_de (de_call G.g_calls_of (takes_of rfl rfl rfl rfl) hr rfl T.M_calls_of T.F_calls_of.kp T.B_calls_of (da_cons (df_var 3) da_nil) (aCons_len (fun _ _ h => aNil_len h))))) (dg_tup (n := 2) rfl (dgs_cons (dg_name 4 sc_modes_on.nd) (dgs_cons (dg_name 5 sc_modes_on.nd) dgs_nil)))
    (dss_one (ds_if (dt_eq (room_eq hr) (dv_df (df_var 5)) (dv_df (df_var 1)))
    (dss_one (ds_putM 2 (room_eq hr) df_bl (dv_df (df_var 4))))
    dss_nil)))))
    (dss_one (ds_ret (de_sortM 2 rfl (room_eq hr) rfl T.z_sorted)))))
theorem ok_measure (T : Txt K mg f fd cl) (G : Fns P w K mg base f fd n) : FnOk P w K mg base (L2.CX P w) (n + 1) (f 10) (fd 10) ["term", "below"] (spM ⟨K, w⟩ mg 2 (mir (n + 1) 10)) :=
  mk_fn (l := 4) (fb := b_measure (mir n)) T.F_measure sc_measure rfl (fun _ => rfl) fun cdv A outer s H E hr =>
    (dss_cons (ds_if (dt_eq (room_eq hr) (dv_df (df_ix (dl_df (df_var 0)) (dv_df df_int))) (dv_df df_str))
    (dss_one (ds_ret (de_df (df_getD (room_eq hr) (df_ix (dl_df (df_var 1)) (dv_df (df_ix (dl_df (df_var 0)) (dv_df df_int)))) (dv_df (df_ix (dl_df (df_var 0)) (dv_df df_int)))))))
    dss_nil)
    (dss_cons (ds_set 2 sc_measure.nd (de_df df_int))
    (dss_cons (ds_set 3 sc_measure.nd (de_df df_int))
    (dss_cons (ds_for (ix := [4]) (passes_of rfl) rfl (di_seq (df_ix (dl_df (df_var 0)) (dv_df df_int))) (dg_name 4 sc_measure.nd)
    (dss_cons (ds_set 5 sc_measure.nd (de_df (df_de (de_call G.g_measure (takes_of rfl rfl rfl rfl) hr rfl T.M_measure T.F_measure.kp T.B_measure (da_cons (df_var 4) (da_cons (df_var 1) da_nil)) (aCons_len (aCons_len (fun _ _ h => aNil_len h)))))))
    (dss_cons (ds_aug 2 iop_addA opS_addA sc_measure.nd (dv_df (df_ix (dl_df (df_var 5)) (dv_df df_int))))
    (dss_one (ds_set 3 sc_measure.nd (de_df (df_de (de_max2 rfl rfl T.z_max (dal_cons (dl_df (df_var 3)) (dal_cons (dl_df (df_ix (dl_df (df_var 5)) (dv_df df_int))) dal_nil))))))))))
    (dss_one (ds_ret (de_df (df_tup (da_cons (df_var 2) (da_cons (df_de (de_add (dl_df (df_var 3)) (dl_df df_int))) da_nil))))))))))
theorem ok_below_of (T : Txt K mg f fd cl) (G : Fns P w K mg base f fd n) : FnOk P w K mg base (L2.CX P w) (n + 1) (f 11) (fd 11) ["turning", "terms", "read"] (spM ⟨K, w⟩ mg 3 (mir (n + 1) 11)) :=
  mk_fn (l := 9) (fb := b_below_of (mir n)) T.F_below_of sc_below_of rfl (fun _ => rfl) fun cdv A outer s H E hr =>
    (dss_cons (ds_set 3 sc_below_of.nd (de_lst da_nil))
    (dss_cons (ds_for (ix := [4, 5]) (passes_of rfl) rfl (di_enum rfl T.z_enumerate (da_cons (df_ix (dl_df (df_var 2)) (dv_df df_int)) da_nil)) (dg_tup (n := 2) rfl (dgs_cons (dg_name 4 sc_below_of.nd) (dgs_cons (dg_name 5 sc_below_of.nd) dgs_nil)))
    (dss_cons (ds_set 6 sc_below_of.nd (de_df (df_de (de_call G.g_modes_on (takes_of rfl rfl rfl rfl) hr rfl T.M_modes_on T.F_modes_on.kp T.B_modes_on (da_cons (df_var 1) (da_cons (df_var 4) da_nil)) (aCons_len (aCons_len (fun _ _ h => aNil_len h)))))))
    (dss_cons (ds_setLcF 7 (own := [("mode", 8)]) (ix := [8]) rfl sc_below_of.nd (di_seq (df_var 6)) (blkOk_by (N := N_below_of) (sc := defScope s_below_of) (by decide +kernel)) (fun _ _ _ _ _ => (dg_name 8 sc_below_of.nd)) (fun _ _ _ _ _ => dts_nil) (fun _ _ _ _ _ => (de_call G.g_rule_of takes0 hr rfl T.M_rule_of T.F_rule_of.kp T.B_rule_of (da_cons (df_var 0) (da_cons (df_var 8) (da_cons (df_ix (dl_df (df_var 5)) (dv_df df_int)) da_nil))) (aCons_len (aCons_len (aCons_len (fun _ _ h => aNil_len h)))))))
    (dss_cons (ds_set 9 sc_below_of.nd (de_df (df_de (de_call G.g_below_of (takes_of rfl rfl rfl rfl) hr rfl T.M_below_of T.F_below_of.kp T.B_below_of (da_cons (df_var 0) (da_cons (df_var 7) (da_cons (df_var 5) da_nil))) (aCons_len (aCons_len (aCons_len (fun _ _ h => aNil_len h))))))))
    (dss_cons (ds_set 10 sc_below_of.nd de_dictNew)
    (dss_cons (ds_for (ix := [8, 11]) (passes_of rfl) rfl (di_zip rfl T.z_zip (da_cons (df_var 6) (da_cons (df_var 7) da_nil))) (dg_tup (n := 2) rfl (dgs_cons (dg_name 8 sc_below_of.nd) (dgs_cons (dg_name 11 sc_below_of.nd) dgs_nil)))
    (dss_one (ds_putM 10 (room_eq hr) (df_de (de_call G.g_measure (takes_of rfl rfl rfl rfl) hr rfl T.M_measure T.F_measure.kp T.B_measure (da_cons (df_var 11) (da_cons (df_var 9) da_nil)) (aCons_len (aCons_len (fun _ _ h => aNil_len h))))) (dv_df (df_var 8)))))
    (dss_one (ds_frz 10 (ds_app 3 (de_df (df_var 10)))))))))))
    (dss_one (ds_retV 3))))
theorem ok_measured (T : Txt K mg f fd cl) (G : Fns P w K mg base f fd n) : FnOk P w K mg base (L2.CX P w) (n + 1) (f 12) (fd 12) ["turning", "term", "read"] (spM ⟨K, w⟩ mg 3 (mir (n + 1) 12)) :=
  mk_fn (l := 0) (fb := b_measured (mir n)) T.F_measured sc_measured rfl (fun _ => rfl) fun cdv A outer s H E hr =>
    (dss_one (ds_ret (de_call G.g_measure (takes_of rfl rfl rfl rfl) hr rfl T.M_measure T.F_measure.kp T.B_measure (da_cons (df_var 1) (da_cons (df_de (de_call G.g_below_of (takes_of rfl rfl rfl rfl) hr rfl T.M_below_of T.F_below_of.kp T.B_below_of (da_cons (df_var 0) (da_cons (df_de (de_lst (da_cons (df_var 1) da_nil))) (da_cons (df_var 2) da_nil))) (aCons_len (aCons_len (aCons_len (fun _ _ h => aNil_len h)))))) da_nil)) (aCons_len (aCons_len (fun _ _ h => aNil_len h))))))
theorem ok_many (T : Txt K mg f fd cl) (G : Fns P w K mg base f fd n) : FnOk P w K mg base (L2.CX P w) (n + 1) (f 13) (fd 13) ["turning", "tree"] (spM ⟨K, w⟩ mg 2 (mir (n + 1) 13)) :=
  mk_fn (l := 0) (fb := b_many (mir n)) T.F_many sc_many rfl (fun _ => rfl) fun cdv A outer s H E hr =>
    (dss_cons (ds_expr (df_de (de_call G.g_look (takes_of rfl rfl rfl rfl) hr rfl T.M_look T.F_look.kp T.B_look (da_cons (df_var 0) (da_cons (df_ix (dl_df (df_ix (dl_df (df_ix (dl_df (df_var 0)) (dv_df df_int))) (dv_df df_int))) (dv_df df_int)) (da_cons (df_var 1) da_nil))) (aCons_len (aCons_len (aCons_len (fun _ _ h => aNil_len h)))))))
    (dss_one (ds_ret (de_df (df_ix (dl_de (de_call G.g_measured (takes_of rfl rfl rfl rfl) hr rfl T.M_measured T.F_measured.kp T.B_measured (da_cons (df_var 0) (da_cons (df_ix (dl_df (df_var 0)) (dv_df df_int)) (da_cons (df_de (de_call G.g_above (takes_of rfl rfl rfl rfl) hr rfl T.M_above T.F_above.kp T.B_above (da_cons (df_var 1) da_nil) (aCons_len (fun _ _ h => aNil_len h)))) da_nil))) (aCons_len (aCons_len (aCons_len (fun _ _ h => aNil_len h)))))) (dv_df df_int))))))
theorem ok_tall (T : Txt K mg f fd cl) (G : Fns P w K mg base f fd n) : FnOk P w K mg base (L2.CX P w) (n + 1) (f 14) (fd 14) ["turning", "tree"] (spM ⟨K, w⟩ mg 2 (mir (n + 1) 14)) :=
  mk_fn (l := 0) (fb := b_tall (mir n)) T.F_tall sc_tall rfl (fun _ => rfl) fun cdv A outer s H E hr =>
    (dss_cons (ds_expr (df_de (de_call G.g_look (takes_of rfl rfl rfl rfl) hr rfl T.M_look T.F_look.kp T.B_look (da_cons (df_var 0) (da_cons (df_ix (dl_df (df_ix (dl_df (df_ix (dl_df (df_var 0)) (dv_df df_int))) (dv_df df_int))) (dv_df df_int)) (da_cons (df_var 1) da_nil))) (aCons_len (aCons_len (aCons_len (fun _ _ h => aNil_len h)))))))
    (dss_one (ds_ret (de_df (df_ix (dl_de (de_call G.g_measured (takes_of rfl rfl rfl rfl) hr rfl T.M_measured T.F_measured.kp T.B_measured (da_cons (df_var 0) (da_cons (df_ix (dl_df (df_var 0)) (dv_df df_int)) (da_cons (df_de (de_call G.g_above (takes_of rfl rfl rfl rfl) hr rfl T.M_above T.F_above.kp T.B_above (da_cons (df_var 1) da_nil) (aCons_len (fun _ _ h => aNil_len h)))) da_nil))) (aCons_len (aCons_len (aCons_len (fun _ _ h => aNil_len h)))))) (dv_df df_int))))))
theorem ok_settled (T : Txt K mg f fd cl) (G : Fns P w K mg base f fd n) : FnOk P w K mg base (L2.CX P w) (n + 1) (f 15) (fd 15) ["turning", "term", "read"] (spM ⟨K, w⟩ mg 3 (mir (n + 1) 15)) :=
  mk_fn (l := 0) (fb := b_settled (mir n)) T.F_settled sc_settled rfl (fun _ => rfl) fun cdv A outer s H E hr =>
    (dss_cons (ds_while 1000000 (passes_of rfl) (dt_eq (room_eq hr) (dv_df (df_ix (dl_df (df_var 1)) (dv_df df_int))) (dv_df df_str))
    (dss_cons (ds_set 2 sc_settled.nd (de_df (df_ix (dl_df (df_ix (dl_df (df_var 2)) (dv_df df_int))) (dv_df (df_ix (dl_df (df_var 1)) (dv_df df_int))))))
    (dss_one (ds_set 1 sc_settled.nd (de_df (df_de (de_call G.g_rule_of (takes_of rfl rfl rfl rfl) hr rfl T.M_rule_of T.F_rule_of.kp T.B_rule_of (da_cons (df_var 0) (da_cons (df_ix (dl_df (df_var 1)) (dv_df df_int)) (da_cons (df_ix (dl_df (df_var 2)) (dv_df df_int)) da_nil))) (aCons_len (aCons_len (aCons_len (fun _ _ h => aNil_len h)))))))))))
    (dss_one (ds_ret (de_df (df_tup (da_cons (df_var 1) (da_cons (df_var 2) da_nil)))))))
theorem ok_seen_from (T : Txt K mg f fd cl) (G : Fns P w K mg base f fd n) : FnOk P w K mg base (L2.CX P w) (n + 1) (f 16) (fd 16) ["turning", "term", "read", "place"] (spM ⟨K, w⟩ mg 4 (mir (n + 1) 16)) :=
  mk_fn (l := 2) (fb := b_seen_from (mir n)) T.F_seen_from sc_seen_from rfl (fun _ => rfl) fun cdv A outer s H E hr =>
    (dss_cons (ds_asg (ix := [4, 2]) (df_de (de_call G.g_settled (takes_of rfl rfl rfl rfl) hr rfl T.M_settled T.F_settled.kp T.B_settled (da_cons (df_var 0) (da_cons (df_var 1) (da_cons (df_var 2) da_nil))) (aCons_len (aCons_len (aCons_len (fun _ _ h => aNil_len h)))))) (dg_tup (n := 2) rfl (dgs_cons (dg_name 4 sc_seen_from.nd) (dgs_cons (dg_name 2 sc_seen_from.nd) dgs_nil))))
    (dss_cons (ds_for (ix := [5]) (passes_of rfl) rfl (di_seq (df_var 3)) (dg_name 5 sc_seen_from.nd)
    (dss_cons (ds_if (dt_dw (dw_or (dt_lt (dv_df (df_var 5)) (dv_df df_int)) (dw_or1 (dt_ge (dv_df (df_var 5)) (dv_de (de_len rfl T.z_len (dal_cons (dl_df (df_ix (dl_df (df_var 4)) (dv_df df_int))) dal_nil)))))))
    (dss_one (ds_ret (de_df df_non)))
    dss_nil)
    (dss_one (ds_asg (ix := [4, 2]) (df_de (de_call G.g_settled (takes_of rfl rfl rfl rfl) hr rfl T.M_settled T.F_settled.kp T.B_settled (da_cons (df_var 0) (da_cons (df_ix (dl_df (df_ix (dl_df (df_var 4)) (dv_df df_int))) (dv_df (df_var 5))) (da_cons (df_var 2) da_nil))) (aCons_len (aCons_len (aCons_len (fun _ _ h => aNil_len h)))))) (dg_tup (n := 2) rfl (dgs_cons (dg_name 4 sc_seen_from.nd) (dgs_cons (dg_name 2 sc_seen_from.nd) dgs_nil)))))))
    (dss_one (ds_ret (de_df (df_tup (da_cons (df_ix (dl_df (df_var 4)) (dv_df df_int)) (da_cons (df_de (de_call G.g_mark_of (takes_of rfl rfl rfl rfl) hr rfl T.M_mark_of T.F_mark_of.kp T.B_mark_of (da_cons (df_var 4) (da_cons (df_var 2) da_nil)) (aCons_len (aCons_len (fun _ _ h => aNil_len h))))) (da_cons (df_de (de_len rfl T.z_len (dal_cons (dl_df (df_ix (dl_df (df_var 4)) (dv_df df_int))) dal_nil))) da_nil)))))))))
theorem ok_seen (T : Txt K mg f fd cl) (G : Fns P w K mg base f fd n) : FnOk P w K mg base (L2.CX P w) (n + 1) (f 17) (fd 17) ["turning", "tree", "place"] (spM ⟨K, w⟩ mg 3 (mir (n + 1) 17)) :=
  mk_fn (l := 0) (fb := b_seen (mir n)) T.F_seen sc_seen rfl (fun _ => rfl) fun cdv A outer s H E hr =>
    (dss_cons (ds_expr (df_de (de_call G.g_look (takes_of rfl rfl rfl rfl) hr rfl T.M_look T.F_look.kp T.B_look (da_cons (df_var 0) (da_cons (df_ix (dl_df (df_ix (dl_df (df_ix (dl_df (df_var 0)) (dv_df df_int))) (dv_df df_int))) (dv_df df_int)) (da_cons (df_var 1) da_nil))) (aCons_len (aCons_len (aCons_len (fun _ _ h => aNil_len h)))))))
    (dss_one (ds_ret (de_call G.g_seen_from (takes_of rfl rfl rfl rfl) hr rfl T.M_seen_from T.F_seen_from.kp T.B_seen_from (da_cons (df_var 0) (da_cons (df_ix (dl_df (df_var 0)) (dv_df df_int)) (da_cons (df_de (de_call G.g_above (takes_of rfl rfl rfl rfl) hr rfl T.M_above T.F_above.kp T.B_above (da_cons (df_var 1) da_nil) (aCons_len (fun _ _ h => aNil_len h)))) (da_cons (df_var 2) da_nil)))) (aCons_len (aCons_len (aCons_len (aCons_len (fun _ _ h => aNil_len h)))))))))
theorem ok_made (T : Txt K mg f fd cl) (G : Fns P w K mg base f fd n) : FnOk P w K mg base (L2.CX P w) (n + 1) (f 18) (fd 18) ["turning", "term", "read"] (spM ⟨K, w⟩ mg 3 (mir (n + 1) 18)) :=
  mk_fn (l := 3) (fb := b_made (mir n)) T.F_made sc_made rfl (fun _ => rfl) fun cdv A outer s H E hr =>
    (dss_cons (ds_if (dt_eq (room_eq hr) (dv_df (df_ix (dl_df (df_var 1)) (dv_df df_int))) (dv_df df_str))
    (dss_cons (ds_set 3 sc_made.nd (de_df (df_ix (dl_df (df_ix (dl_df (df_var 2)) (dv_df df_int))) (dv_df (df_ix (dl_df (df_var 1)) (dv_df df_int))))))
    (dss_one (ds_ret (de_call G.g_made (takes_of rfl rfl rfl rfl) hr rfl T.M_made T.F_made.kp T.B_made (da_cons (df_var 0) (da_cons (df_de (de_call G.g_rule_of (takes_of rfl rfl rfl rfl) hr rfl T.M_rule_of T.F_rule_of.kp T.B_rule_of (da_cons (df_var 0) (da_cons (df_ix (dl_df (df_var 1)) (dv_df df_int)) (da_cons (df_ix (dl_df (df_var 3)) (dv_df df_int)) da_nil))) (aCons_len (aCons_len (aCons_len (fun _ _ h => aNil_len h)))))) (da_cons (df_var 3) da_nil))) (aCons_len (aCons_len (aCons_len (fun _ _ h => aNil_len h))))))))
    dss_nil)
    (dss_cons (ds_set 4 sc_made.nd (de_lst da_nil))
    (dss_cons (ds_for (ix := [5]) (passes_of rfl) rfl (di_seq (df_ix (dl_df (df_var 1)) (dv_df df_int))) (dg_name 5 sc_made.nd)
    (dss_one (ds_app 4 (de_call G.g_made (takes_of rfl rfl rfl rfl) hr rfl T.M_made T.F_made.kp T.B_made (da_cons (df_var 0) (da_cons (df_var 5) (da_cons (df_var 2) da_nil))) (aCons_len (aCons_len (aCons_len (fun _ _ h => aNil_len h))))))))
    (dss_one (ds_ret (de_df (df_tup (da_cons (df_ix (dl_df (df_var 1)) (dv_df df_int)) (da_cons (df_de (de_call G.g_mark_of (takes_of rfl rfl rfl rfl) hr rfl T.M_mark_of T.F_mark_of.kp T.B_mark_of (da_cons (df_var 1) (da_cons (df_var 2) da_nil)) (aCons_len (aCons_len (fun _ _ h => aNil_len h))))) (da_cons (df_de (de_tuple rfl T.z_tuple (dal_cons (dl_dp (dp_var 4)) dal_nil))) da_nil))))))))))
theorem ok_made_within (T : Txt K mg f fd cl) (G : Fns P w K mg base f fd n) : FnOk P w K mg base (L2.CX P w) (n + 1) (f 19) (fd 19) ["turning", "term", "read"] (spM ⟨K, w⟩ mg 3 (mir (n + 1) 19)) :=
  mk_fn (l := 2) (fb := b_made_within (mir n)) T.F_made_within sc_made_within rfl (fun _ => rfl) fun cdv A outer s H E hr =>
    (dss_cons (ds_asg (ix := [3, 4]) (df_de (de_call G.g_measured (takes_of rfl rfl rfl rfl) hr rfl T.M_measured T.F_measured.kp T.B_measured (da_cons (df_var 0) (da_cons (df_var 1) (da_cons (df_var 2) da_nil))) (aCons_len (aCons_len (aCons_len (fun _ _ h => aNil_len h)))))) (dg_tup (n := 2) rfl (dgs_cons (dg_name 3 sc_made_within.nd) (dgs_cons (dg_name 4 sc_made_within.nd) dgs_nil))))
    (dss_cons (ds_if (dt_dw (dw_or (dt_gt (dv_df (df_var 3)) (dv_df df_int)) (dw_or1 (dt_gt (dv_df (df_var 4)) (dv_df df_int)))))
    (dss_one (ds_raise rfl (takes_of rfl rfl rfl rfl) T.cx_TooGreat rfl))
    dss_nil)
    (dss_one (ds_ret (de_call G.g_made (takes_of rfl rfl rfl rfl) hr rfl T.M_made T.F_made.kp T.B_made (da_cons (df_var 0) (da_cons (df_var 1) (da_cons (df_var 2) da_nil))) (aCons_len (aCons_len (aCons_len (fun _ _ h => aNil_len h)))))))))
theorem ok_turned (T : Txt K mg f fd cl) (G : Fns P w K mg base f fd n) : FnOk P w K mg base (L2.CX P w) (n + 1) (f 20) (fd 20) ["turning", "tree"] (spM ⟨K, w⟩ mg 2 (mir (n + 1) 20)) :=
  mk_fn (l := 0) (fb := b_turned (mir n)) T.F_turned sc_turned rfl (fun _ => rfl) fun cdv A outer s H E hr =>
    (dss_cons (ds_expr (df_de (de_call G.g_look (takes_of rfl rfl rfl rfl) hr rfl T.M_look T.F_look.kp T.B_look (da_cons (df_var 0) (da_cons (df_ix (dl_df (df_ix (dl_df (df_ix (dl_df (df_var 0)) (dv_df df_int))) (dv_df df_int))) (dv_df df_int)) (da_cons (df_var 1) da_nil))) (aCons_len (aCons_len (aCons_len (fun _ _ h => aNil_len h)))))))
    (dss_one (ds_ret (de_call G.g_made_within (takes_of rfl rfl rfl rfl) hr rfl T.M_made_within T.F_made_within.kp T.B_made_within (da_cons (df_var 0) (da_cons (df_ix (dl_df (df_var 0)) (dv_df df_int)) (da_cons (df_de (de_call G.g_above (takes_of rfl rfl rfl rfl) hr rfl T.M_above T.F_above.kp T.B_above (da_cons (df_var 1) da_nil) (aCons_len (fun _ _ h => aNil_len h)))) da_nil))) (aCons_len (aCons_len (aCons_len (fun _ _ h => aNil_len h))))))))
theorem ok_turned_in (T : Txt K mg f fd cl) (G : Fns P w K mg base f fd n) : FnOk P w K mg base (L2.CX P w) (n + 1) (f 21) (fd 21) ["turning", "mode", "tree"] (spM ⟨K, w⟩ mg 3 (mir (n + 1) 21)) :=
  mk_fn (l := 0) (fb := b_turned_in (mir n)) T.F_turned_in sc_turned_in rfl (fun _ => rfl) fun cdv A outer s H E hr =>
    (dss_cons (ds_expr (df_de (de_call G.g_look (takes_of rfl rfl rfl rfl) hr rfl T.M_look T.F_look.kp T.B_look (da_cons (df_var 0) (da_cons (df_ix (dl_df (df_ix (dl_df (df_ix (dl_df (df_var 0)) (dv_df df_int))) (dv_df (df_var 1)))) (dv_df df_int)) (da_cons (df_var 2) da_nil))) (aCons_len (aCons_len (aCons_len (fun _ _ h => aNil_len h)))))))
    (dss_one (ds_ret (de_call G.g_made_within (takes_of rfl rfl rfl rfl) hr rfl T.M_made_within T.F_made_within.kp T.B_made_within (da_cons (df_var 0) (da_cons (df_tup (da_cons df_str (da_cons (df_var 1) (da_cons df_int da_nil)))) (da_cons (df_de (de_call G.g_above (takes_of rfl rfl rfl rfl) hr rfl T.M_above T.F_above.kp T.B_above (da_cons (df_var 2) da_nil) (aCons_len (fun _ _ h => aNil_len h)))) da_nil))) (aCons_len (aCons_len (aCons_len (fun _ _ h => aNil_len h))))))))
theorem ok__law_cell_at (T : Txt K mg f fd cl) (G : Fns P w K mg base f fd n) : FnOk P w K mg base (L2.CX P w) (n + 1) (f 22) (fd 22) ["_law_script", "_law_k"] (spM ⟨K, w⟩ mg 2 (mir (n + 1) 22)) :=
  mk_fn (l := 0) (fb := b__law_cell_at (mir n)) T.F__law_cell_at sc__law_cell_at rfl (fun _ => rfl) fun cdv A outer s H E hr =>
    (dss_cons (ds_if (dt_lt (dv_df (df_var 1)) (dv_de (de_len rfl T.z_len (dal_cons (dl_df (df_var 0)) dal_nil))))
    (dss_one (ds_ret (de_df (df_ix (dl_df (df_var 0)) (dv_df (df_var 1))))))
    dss_nil)
    (dss_one (ds_ret (de_df df_int))))
theorem ok__law_mixed (T : Txt K mg f fd cl) (G : Fns P w K mg base f fd n) : FnOk P w K mg base (L2.CX P w) (n + 1) (f 23) (fd 23) ["_law_cell", "_law_k"] (spM ⟨K, w⟩ mg 2 (mir (n + 1) 23)) :=
  mk_fn (l := 1) (fb := b__law_mixed (mir n)) T.F__law_mixed sc__law_mixed rfl (fun _ => rfl) fun cdv A outer s H E hr =>
    (dss_cons (ds_set 2 sc__law_mixed.nd (de_df (df_de (de_add (dl_df (df_mod (dv_df (df_var 0)) (dv_df df_int))) (dl_df (df_mul (dv_df df_int) (dv_de (de_add (dl_df (df_var 1)) (dl_df df_int)))))))))
    (dss_cons (ds_set 2 sc__law_mixed.nd (de_df (df_mod (dv_de (de_add (dl_df (df_mul (dv_df (df_var 2)) (dv_df (df_var 2)))) (dl_df (df_mul (dv_df df_int) (dv_df (df_var 1)))))) (dv_df df_int))))
    (dss_one (ds_ret (de_df (df_mod (dv_de (de_add (dl_de (de_add (dl_df (df_mul (dv_df (df_var 2)) (dv_df (df_var 2)))) (dl_df (df_mul (dv_df df_int) (dv_df (df_var 1)))))) (dl_df df_int))) (dv_df df_int)))))))
theorem ok__law_names (T : Txt K mg f fd cl) (G : Fns P w K mg base f fd n) : FnOk P w K mg base (L2.CX P w) (n + 1) (f 24) (fd 24) ["_law_cell"] (spM ⟨K, w⟩ mg 1 (mir (n + 1) 24)) :=
  mk_fn (l := 8) (fb := b__law_names (mir n)) T.F__law_names sc__law_names rfl (fun _ => rfl) fun cdv A outer s H E hr =>
    (dss_cons (ds_set 1 sc__law_names.nd (de_df df_str))
    (dss_cons (ds_set 2 sc__law_names.nd (de_df (df_de (de_lc (own := [("_law_j", 3)]) (ix := [3]) rfl sc__law_names.nd (di_range1 rfl T.z_range (da_cons df_int da_nil)) (blkOk_by (N := N__law_names) (sc := defScope s__law_names) (by decide +kernel)) (fun _ _ _ _ _ => (dg_name 3 sc__law_names.nd)) (fun _ _ _ _ _ => dts_nil) (fun _ _ _ _ _ => (de_df (df_mod (dv_de (de_call G.g__law_mixed takes0 hr rfl T.M__law_mixed T.F__law_mixed.kp T.B__law_mixed (da_cons (df_var 0) (da_cons (df_var 3) da_nil)) (aCons_len (aCons_len (fun _ _ h => aNil_len h))))) (dv_df df_int))))))))
    (dss_cons (ds_if (dt_eq (room_eq hr) (dv_df (df_mod (dv_df (df_div (dv_df (df_var 0)) (dv_df df_int))) (dv_df df_int))) (dv_df df_int))
    (dss_one (ds_ret (de_lc (own := [("_law_k", 4)]) (ix := [4]) rfl sc__law_names.nd (di_range1 rfl T.z_range (da_cons df_int da_nil)) (blkOk_by (N := N__law_names) (sc := defScope s__law_names) (by decide +kernel)) (fun _ _ _ _ _ => (dg_name 4 sc__law_names.nd)) (fun _ _ _ _ _ => dts_nil) (fun _ _ _ _ _ => (de_df (df_join (dv_df df_str) (dl_de (de_lc (own := [("_law_j", 3)]) (ix := [3]) rfl sc__law_names.nd (di_seq (df_de (de_slice (dl_df (df_var 2)) do_none (do_some (dv_de (de_add (dl_df (df_var 4)) (dl_df df_int))))))) (blkOk_by (by kernel_rfl)) (fun _ _ _ _ _ => (dg_name 3 sc__law_names.nd)) (fun _ _ _ _ _ => dts_nil) (fun _ _ _ _ _ => (de_df (df_ix (dl_df (df_var 1)) (dv_df (df_var 3)))))))))))))
    dss_nil)
    (dss_cons (ds_set 5 sc__law_names.nd (de_df (df_de (de_add (dl_df df_int) (dl_df (df_mod (dv_df (df_var 0)) (dv_df df_int)))))))
    (dss_cons (ds_set 6 sc__law_names.nd (de_df (df_mod (dv_df (df_div (dv_df (df_var 0)) (dv_df df_int))) (dv_df (df_var 5)))))
    (dss_cons (ds_set 7 sc__law_names.nd (de_lst da_nil))
    (dss_cons (ds_for (ix := [4]) (passes_of rfl) rfl (di_range1 rfl T.z_range (da_cons df_int da_nil)) (dg_name 4 sc__law_names.nd)
    (dss_cons (ds_set 8 sc__law_names.nd (de_slice (dl_df (df_var 2)) do_none (do_some (dv_df (df_var 5)))))
    (dss_cons (ds_put 8 (de_df (df_mod (dv_de (de_add (dl_df (df_ix (dl_dp (dp_var 8)) (dv_df (df_var 6)))) (dl_df (df_var 4)))) (dv_df df_int))) (df_var 6))
    (dss_one (ds_frz 8 (ds_app 7 (de_df (df_join (dv_df df_str) (dl_de (de_lc (own := [("_law_j", 3)]) (ix := [3]) rfl sc__law_names.nd (di_seq (df_var 8)) (blkOk_by (N := N__law_names) (sc := defScope s__law_names) (by decide +kernel)) (fun _ _ _ _ _ => (dg_name 3 sc__law_names.nd)) (fun _ _ _ _ _ => dts_nil) (fun _ _ _ _ _ => (de_df (df_ix (dl_df (df_var 1)) (dv_df (df_var 3)))))))))))))))
    (dss_one (ds_retV 7)))))))))
theorem ok__law_great (T : Txt K mg f fd cl) (G : Fns P w K mg base f fd n) : FnOk P w K mg base (L2.CX P w) (n + 1) (f 25) (fd 25) ["_law_cell"] (spM ⟨K, w⟩ mg 1 (mir (n + 1) 25)) :=
  mk_fn (l := 0) (fb := b__law_great (mir n)) T.F__law_great sc__law_great rfl (fun _ => rfl) fun cdv A outer s H E hr =>
    (dss_one (ds_ret (de_df (df_sub (dv_df (df_mod (dv_df (df_var 0)) (dv_de (de_add (dl_df (df_mul (dv_df df_int) (dv_df (df_pow (dv_df df_int) (dv_df df_int))))) (dl_df df_int))))) (dv_df (df_pow (dv_df df_int) (dv_df df_int)))))))
theorem ok__law_whole (T : Txt K mg f fd cl) (G : Fns P w K mg base f fd n) : FnOk P w K mg base (L2.CX P w) (n + 1) (f 26) (fd 26) ["_law_found"] (spM ⟨K, w⟩ mg 1 (mir (n + 1) 26)) :=
  mk_fn (l := 0) (fb := b__law_whole (mir n)) T.F__law_whole sc__law_whole rfl (fun _ => rfl) fun cdv A outer s H E hr =>
    (dss_one (ds_ret (de_df (df_and (dv_df (df_isi (dv_df (df_var 0)) rfl T.z_isinstance rfl T.z_int rfl)) (df_one (df_not (dv_df (df_isi (dv_df (df_var 0)) rfl T.z_isinstance rfl T.z_bool rfl))))))))
theorem ok__law_wide (T : Txt K mg f fd cl) (G : Fns P w K mg base f fd n) : FnOk P w K mg base (L2.CX P w) (n + 1) (f 27) (fd 27) ["_law_name", "_law_add", "_law_count", "_law_inner"] (spM ⟨K, w⟩ mg 4 (mir (n + 1) 27)) :=
  mk_fn (l := 1) (fb := b__law_wide (mir n)) T.F__law_wide sc__law_wide rfl (fun _ => rfl) fun cdv A outer s H E hr =>
    (dss_one (ds_ret (de_df (df_tup (da_cons df_str (da_cons (df_var 0) (da_cons df_bl (da_cons (df_var 1) (da_cons (df_de (de_add (dl_de (de_tuple rfl T.z_tuple (dal_cons (dl_de (de_lc (own := [("_law_k", 4)]) (ix := [4]) rfl sc__law_wide.nd (di_range1 rfl T.z_range (da_cons (df_var 2) da_nil)) (blkOk_by (N := N__law_wide) (sc := defScope s__law_wide) (by decide +kernel)) (fun _ _ _ _ _ => (dg_name 4 sc__law_wide.nd)) (fun _ _ _ _ _ => dts_nil) (fun _ _ _ _ _ => (de_df (df_tup (da_cons df_str (da_cons (df_var 0) (da_cons df_bl (da_cons df_int (da_cons (df_tup da_nil) da_nil)))))))))) dal_nil))) (dl_df (df_var 3)))) da_nil)))))))))
theorem ok__law_deep (T : Txt K mg f fd cl) (G : Fns P w K mg base f fd n) : FnOk P w K mg base (L2.CX P w) (n + 1) (f 28) (fd 28) ["_law_name", "_law_add", "_law_count", "_law_inner"] (spM ⟨K, w⟩ mg 4 (mir (n + 1) 28)) :=
  mk_fn (l := 2) (fb := b__law_deep (mir n)) T.F__law_deep sc__law_deep rfl (fun _ => rfl) fun cdv A outer s H E hr =>
    (dss_cons (ds_set 4 sc__law_deep.nd (de_df (df_tup (da_cons df_str (da_cons (df_var 0) (da_cons df_bl (da_cons (df_var 1) (da_cons (df_var 3) da_nil))))))))
    (dss_cons (ds_for (ix := [5]) (passes_of rfl) rfl (di_range1 rfl T.z_range (da_cons (df_var 2) da_nil)) (dg_name 5 sc__law_deep.nd)
    (dss_one (ds_set 4 sc__law_deep.nd (de_df (df_tup (da_cons df_str (da_cons (df_var 0) (da_cons (df_eq (room_eq hr) (dv_df (df_mod (dv_df (df_var 5)) (dv_df df_int))) (dv_df df_int)) (da_cons (df_var 1) (da_cons (df_tup (da_cons (df_var 4) da_nil)) da_nil))))))))))
    (dss_one (ds_ret (de_df (df_var 4))))))
theorem ok__law_kept (T : Txt K mg f fd cl) (G : Fns P w K mg base f fd n) : FnOk P w K mg base (L2.CX P w) (n + 1) (f 29) (fd 29) ["_law_term", "_law_mark"] (spM ⟨K, w⟩ mg 2 (mir (n + 1) 29)) :=
  mk_fn (l := 0) (fb := b__law_kept (mir n)) T.F__law_kept sc__law_kept rfl (fun _ => rfl) fun cdv A outer s H E hr =>
    (dss_one (ds_ret (de_add (dl_df (df_ix (dl_df (df_var 0)) (dv_df df_int))) (dl_df (df_mul (dv_df (df_var 1)) (dv_de (de_int rfl T.z_int (dal_cons (dl_df (df_ix (dl_df (df_var 0)) (dv_df df_int))) dal_nil))))))))
theorem ok__law_put (T : Txt K mg f fd cl) (G : Fns P w K mg base f fd n) : FnOk P w K mg base (L2.CX P w) (n + 1) (f 30) (fd 30) ["_law_term", "_law_mark", "_law_below"] (spM ⟨K, w⟩ mg 3 (mir (n + 1) 30)) :=
  mk_fn (l := 2) (fb := b__law_put (mir n)) T.F__law_put sc__law_put rfl (fun _ => rfl) fun cdv A outer s H E hr =>
    (dss_cons (ds_if (dt_eq (room_eq hr) (dv_df (df_ix (dl_df (df_var 0)) (dv_df df_int))) (dv_df df_str))
    (dss_one (ds_ret (de_df (df_var 2))))
    dss_nil)
    (dss_cons (ds_setLcF 3 (own := [("_law_part", 4)]) (ix := [4]) rfl sc__law_put.nd (di_seq (df_ix (dl_df (df_var 0)) (dv_df df_int))) (blkOk_by (N := N__law_put) (sc := defScope s__law_put) (by decide +kernel)) (fun _ _ _ _ _ => (dg_name 4 sc__law_put.nd)) (fun _ _ _ _ _ => dts_nil) (fun _ _ _ _ _ => (de_call G.g__law_put takes0 hr rfl T.M__law_put T.F__law_put.kp T.B__law_put (da_cons (df_var 4) (da_cons (df_var 1) (da_cons (df_var 2) da_nil))) (aCons_len (aCons_len (aCons_len (fun _ _ h => aNil_len h)))))))
    (dss_one (ds_ret (de_df (df_tup (da_cons (df_ix (dl_df (df_var 0)) (dv_df df_int)) (da_cons (df_de (de_call G.g__law_kept (takes_of rfl rfl rfl rfl) hr rfl T.M__law_kept T.F__law_kept.kp T.B__law_kept (da_cons (df_var 0) (da_cons (df_var 1) da_nil)) (aCons_len (aCons_len (fun _ _ h => aNil_len h))))) (da_cons (df_de (de_tuple rfl T.z_tuple (dal_cons (dl_df (df_var 3)) dal_nil))) da_nil)))))))))
theorem ok__law_walk (T : Txt K mg f fd cl) (G : Fns P w K mg base f fd n) : FnOk P w K mg base (L2.CX P w) (n + 1) (f 31) (fd 31) ["_law_found", "_law_due"] (spM ⟨K, w⟩ mg 2 (mir (n + 1) 31)) :=
  mk_fn (l := 3) (fb := b__law_walk (mir n)) T.F__law_walk sc__law_walk rfl (fun _ => rfl) fun cdv A outer s H E hr =>
    (dss_cons (ds_set 2 sc__law_walk.nd (de_lst (da_cons (df_tup (da_cons (df_var 0) (da_cons (df_var 1) da_nil))) da_nil)))
    (dss_cons (ds_while 1000000 (passes_of rfl) (dt_ne (room_eq hr) (dv_dp (dp_var 2)) (dv_de (de_lst da_nil)))
    (dss_cons (ds_xasg (ix := [3, 4]) (xf_pop 2) (dg_tup (n := 2) rfl (dgs_cons (dg_name 3 sc__law_walk.nd) (dgs_cons (dg_name 4 sc__law_walk.nd) dgs_nil))))
    (dss_cons (ds_if (dt_dw (dw_or (dt_not (dt_val (dv_df (df_isi (dv_df (df_var 3)) rfl T.z_isinstance rfl T.z_tuple rfl)))) (dw_or (dt_ne (room_eq hr) (dv_de (de_len rfl T.z_len (dal_cons (dl_df (df_var 3)) dal_nil))) (dv_df df_int)) (dw_or1 (dt_not (dt_val (dv_df (df_isi (dv_df (df_ix (dl_df (df_var 3)) (dv_df df_int))) rfl T.z_isinstance rfl T.z_str rfl))))))))
    (dss_one (ds_ret (de_df df_bl)))
    dss_nil)
    (dss_cons (ds_if (dt_dw (dw_or (dt_not (dt_val (dv_de (de_call G.g__law_whole (takes_of rfl rfl rfl rfl) hr rfl T.M__law_whole T.F__law_whole.kp T.B__law_whole (da_cons (df_ix (dl_df (df_var 3)) (dv_df df_int)) da_nil) (aCons_len (fun _ _ h => aNil_len h)))))) (dw_or (dt_ne (room_eq hr) (dv_de (de_slice (dl_df (df_var 3)) do_none (do_some (dv_df df_int)))) (dv_de (de_slice (dl_df (df_var 4)) do_none (do_some (dv_df df_int))))) (dw_or1 (dt_not (dt_val (dv_df (df_isi (dv_df (df_ix (dl_df (df_var 3)) (dv_df df_int))) rfl T.z_isinstance rfl T.z_tuple rfl))))))))
    (dss_one (ds_ret (de_df df_bl)))
    dss_nil)
    (dss_cons (ds_if (dt_ne (room_eq hr) (dv_de (de_len rfl T.z_len (dal_cons (dl_df (df_ix (dl_df (df_var 3)) (dv_df df_int))) dal_nil))) (dv_de (de_len rfl T.z_len (dal_cons (dl_df (df_ix (dl_df (df_var 4)) (dv_df df_int))) dal_nil))))
    (dss_one (ds_ret (de_df df_bl)))
    dss_nil)
    (dss_one (ds_ext 2 (dl_de (de_listZip rfl rfl T.z_list rfl T.z_zip (da_cons (df_ix (dl_df (df_var 3)) (dv_df df_int)) (da_cons (df_ix (dl_df (df_var 4)) (dv_df df_int)) da_nil)))))))))))
    (dss_one (ds_ret (de_df df_bl)))))
theorem ok__law_answer (T : Txt K mg f fd cl) (G : Fns P w K mg base f fd n) : FnOk P w K mg base (L2.CX P w) (n + 1) (f 32) (fd 32) ["_law_turning", "_law_tree", "_law_ask"] (spM ⟨K, w⟩ mg 3 (mir (n + 1) 32)) :=
  mk_fn (l := 1) (fb := b__law_answer (mir n)) T.F__law_answer sc__law_answer rfl (fun _ => rfl) fun cdv A outer s H E hr =>
    (dss_one (ds_tryT (l := [("NoTree", false), ("TooGreat", true)]) 3 rfl rfl rfl sc__law_answer.nd rfl rfl rfl ⟨rfl, by decide, .inl T.cg_TooGreat⟩ (.cons ⟨T.cn_NoTree, T.cg_NoTree⟩ T.cm_NoTree_TooGreat (.cons ⟨T.cn_TooGreat, T.cg_TooGreat⟩ T.cm_TooGreat_TooGreat .nil)) (takes_of rfl rfl rfl rfl) (fun W' pn xe tk po => (dss_cons (ds_if (dt_eq (room_eq hr) (dv_df (df_var 2)) (dv_df df_int))
    (dss_one (ds_ret (de_call G.g_turned tk hr rfl T.M_turned T.F_turned.kp T.B_turned (da_cons (df_var 0) (da_cons (df_var 1) da_nil)) (aCons_len (aCons_len (fun _ _ h => aNil_len h))))))
    dss_nil)
    (dss_one (ds_ret (de_call G.g_turned_in tk hr rfl T.M_turned_in T.F_turned_in.kp T.B_turned_in (da_cons (df_var 0) (da_cons df_int (da_cons (df_var 1) da_nil))) (aCons_len (aCons_len (aCons_len (fun _ _ h => aNil_len h))))))))) (fun a pn => (dss_one (ds_ret (de_lst (da_cons (df_and (dv_df (df_isE (l := [("NoTree", true), ("TooGreat", true)]) (dv_df (df_var 3)) rfl T.z_isinstance rfl T.cg_TurnError (.cons T.cn_NoTree T.cc_NoTree (kitAny_of1 T.ci_NoTree_TurnError) (.cons T.cn_TooGreat T.cc_TooGreat (kitAny_of1 T.ci_TooGreat_TurnError) .nil)) T.kn_TurnError)) (df_and (dv_df (df_isEB (l := [("NoTree", true), ("TooGreat", true)]) (dv_df (df_var 3)) rfl T.z_isinstance rfl T.z_ValueError rfl (.cons T.cn_NoTree T.cc_NoTree (kitAny_of1 T.ci_NoTree_ValueError) (.cons T.cn_TooGreat T.cc_TooGreat (kitAny_of1 T.ci_TooGreat_ValueError) .nil)) T.kn_ValueError)) (df_one (df_not (dv_df (df_isE (l := [("NoTree", true), ("TooGreat", false)]) (dv_df (df_var 3)) rfl T.z_isinstance rfl T.cg_NoTree (.cons T.cn_NoTree T.cc_NoTree (kitAny_of1 T.ci_NoTree_NoTree) (.cons T.cn_TooGreat T.cc_TooGreat (kitAny_of1 T.ci_TooGreat_NoTree) .nil)) T.kn_NoTree)))))) da_nil)))))))
theorem ok__law_rules (T : Txt K mg f fd cl) (G : Fns P w K mg base f fd n) : FnOk P w K mg base (L2.CX P w) (n + 1) (f 33) (fd 33) ["_law_names_here", "_law_add", "_law_sides", "_law_each", "_law_last"] (spM ⟨K, w⟩ mg 5 (mir (n + 1) 33)) :=
  mk_fn (l := 1) (fb := b__law_rules (mir n)) T.F__law_rules sc__law_rules rfl (fun _ => rfl) fun cdv A outer s H E hr =>
    (dss_cons (ds_set 5 sc__law_rules.nd (de_df (df_tup (da_cons (df_tup (da_cons df_str (da_cons df_int (da_cons df_int da_nil)))) da_nil))))
    (dss_cons (ds_if (dt_val (dv_df (df_var 2)))
    (dss_one (ds_ret (de_lst (da_cons (df_de (de_call G.g__law_wide (takes_of rfl rfl rfl rfl) hr rfl T.M__law_wide T.F__law_wide.kp T.B__law_wide (da_cons (df_ix (dl_df (df_var 0)) (dv_df df_int)) (da_cons (df_var 1) (da_cons (df_sub (dv_df (df_var 4)) (dv_df df_int)) (da_cons (df_tup da_nil) da_nil)))) (aCons_len (aCons_len (aCons_len (aCons_len (fun _ _ h => aNil_len h))))))) (da_cons (df_de (de_call G.g__law_wide (takes_of rfl rfl rfl rfl) hr rfl T.M__law_wide T.F__law_wide.kp T.B__law_wide (da_cons (df_ix (dl_df (df_var 0)) (dv_df df_int)) (da_cons (df_var 1) (da_cons (df_sub (dv_df (df_var 3)) (dv_df df_int)) (da_cons (df_var 5) da_nil)))) (aCons_len (aCons_len (aCons_len (aCons_len (fun _ _ h => aNil_len h))))))) da_nil)))))
    dss_nil)
    (dss_one (ds_ret (de_lst (da_cons (df_de (de_call G.g__law_deep (takes_of rfl rfl rfl rfl) hr rfl T.M__law_deep T.F__law_deep.kp T.B__law_deep (da_cons (df_ix (dl_df (df_var 0)) (dv_df df_int)) (da_cons (df_var 1) (da_cons (df_sub (dv_df (df_var 4)) (dv_df df_int)) (da_cons (df_tup da_nil) da_nil)))) (aCons_len (aCons_len (aCons_len (aCons_len (fun _ _ h => aNil_len h))))))) (da_cons (df_de (de_call G.g__law_deep (takes_of rfl rfl rfl rfl) hr rfl T.M__law_deep T.F__law_deep.kp T.B__law_deep (da_cons (df_ix (dl_df (df_var 0)) (dv_df df_int)) (da_cons (df_var 1) (da_cons (df_sub (dv_df (df_var 3)) (dv_df df_int)) (da_cons (df_var 5) da_nil)))) (aCons_len (aCons_len (aCons_len (aCons_len (fun _ _ h => aNil_len h))))))) da_nil)))))))
theorem ok_law (T : Txt K mg f fd cl) (G : Fns P w K mg base f fd n) : FnOk P w K mg base (L2.CX P w) (n + 1) (f 34) (fd 34) ["_law_script"] (spM ⟨K, w⟩ mg 1 (mir (n + 1) 34)) :=
  mk_fn (l := 19) (fb := b_law (mir n)) T.F_law sc_law rfl (fun _ => rfl) fun cdv A outer s H E hr =>
    (dss_cons (ds_set 1 sc_law.nd (de_df (df_de (de_call G.g__law_names (takes_of rfl rfl rfl rfl) hr rfl T.M__law_names T.F__law_names.kp T.B__law_names (da_cons (df_de (de_call G.g__law_cell_at (takes_of rfl rfl rfl rfl) hr rfl T.M__law_cell_at T.F__law_cell_at.kp T.B__law_cell_at (da_cons (df_var 0) (da_cons df_int da_nil)) (aCons_len (aCons_len (fun _ _ h => aNil_len h))))) da_nil) (aCons_len (fun _ _ h => aNil_len h))))))
    (dss_cons (ds_set 2 sc_law.nd (de_df (df_de (de_call G.g__law_mixed (takes_of rfl rfl rfl rfl) hr rfl T.M__law_mixed T.F__law_mixed.kp T.B__law_mixed (da_cons (df_de (de_call G.g__law_cell_at (takes_of rfl rfl rfl rfl) hr rfl T.M__law_cell_at T.F__law_cell_at.kp T.B__law_cell_at (da_cons (df_var 0) (da_cons df_int da_nil)) (aCons_len (aCons_len (fun _ _ h => aNil_len h))))) (da_cons df_int da_nil)) (aCons_len (aCons_len (fun _ _ h => aNil_len h)))))))
    (dss_cons (ds_set 3 sc_law.nd (de_df (df_ix (dl_de (de_lst (da_cons (df_de (de_add (dl_df df_int) (dl_df (df_mod (dv_df (df_var 2)) (dv_df df_int))))) (da_cons (df_de (de_add (dl_df df_int) (dl_df (df_mod (dv_df (df_var 2)) (dv_df df_int))))) (da_cons (df_de (de_add (dl_df df_int) (dl_df (df_mod (dv_df (df_var 2)) (dv_df df_int))))) da_nil))))) (dv_df (df_mod (dv_df (df_div (dv_df (df_var 2)) (dv_df df_int))) (dv_df df_int))))))
    (dss_cons (ds_set 4 sc_law.nd (de_df (df_eq (room_eq hr) (dv_df (df_mod (dv_df (df_div (dv_df (df_var 2)) (dv_df df_int))) (dv_df df_int))) (dv_df df_int))))
    (dss_cons (ds_set 5 sc_law.nd (de_df (df_ix (dl_de (de_lst (da_cons (df_de (de_add (dl_df df_int) (dl_df (df_mod (dv_df (df_div (dv_df (df_var 2)) (dv_df df_int))) (dv_df df_int))))) (da_cons (df_de (de_add (dl_df df_int) (dl_df (df_mod (dv_df (df_div (dv_df (df_var 2)) (dv_df df_int))) (dv_df df_int))))) da_nil)))) (dv_de (de_int rfl T.z_int (dal_cons (dl_df (df_var 4)) dal_nil))))))
    (dss_cons (ds_set 6 sc_law.nd (de_df (df_div (dv_df (df_sub (dv_df (df_var 3)) (dv_df df_int))) (dv_df (df_var 5)))))
    (dss_cons (ds_set 7 sc_law.nd (de_df (df_sub (dv_df (df_var 3)) (dv_df (df_mul (dv_df (df_var 6)) (dv_df (df_var 5)))))))
    (dss_cons (ds_asg (ix := [8, 9]) (df_de (de_call G.g__law_rules (takes_of rfl rfl rfl rfl) hr rfl T.M__law_rules T.F__law_rules.kp T.B__law_rules (da_cons (df_var 1) (da_cons (df_de (de_call G.g__law_great (takes_of rfl rfl rfl rfl) hr rfl T.M__law_great T.F__law_great.kp T.B__law_great (da_cons (df_de (de_call G.g__law_cell_at (takes_of rfl rfl rfl rfl) hr rfl T.M__law_cell_at T.F__law_cell_at.kp T.B__law_cell_at (da_cons (df_var 0) (da_cons df_int da_nil)) (aCons_len (aCons_len (fun _ _ h => aNil_len h))))) da_nil) (aCons_len (fun _ _ h => aNil_len h)))) (da_cons (df_var 4) (da_cons (df_var 5) (da_cons (df_var 7) da_nil))))) (aCons_len (aCons_len (aCons_len (aCons_len (aCons_len (fun _ _ h => aNil_len h)))))))) (dg_lst (n := 2) rfl (dgs_cons (dg_name 8 sc_law.nd) (dgs_cons (dg_name 9 sc_law.nd) dgs_nil))))
    (dss_cons (ds_set 10 sc_law.nd (de_df (df_de (de_sorted (room_eq hr) rfl T.z_sorted (dal_cons (dl_de (de_lst (da_cons (df_tup (da_cons (df_ix (dl_df (df_var 1)) (dv_df df_int)) (da_cons (df_tup da_nil) da_nil))) (da_cons (df_tup (da_cons (df_ix (dl_df (df_var 1)) (dv_df df_int)) (da_cons (df_tup (da_cons (df_ix (dl_df (df_var 1)) (dv_df df_int)) da_nil)) da_nil))) da_nil)))) dal_nil)))))
    (dss_cons (ds_set 11 sc_law.nd (de_df (df_de (de_lst (da_cons (df_var 8) (da_cons (df_var 9) da_nil))))))
    (dss_cons (ds_if (dt_ltS (dv_df (df_ix (dl_df (df_var 1)) (dv_df df_int))) (dv_df (df_ix (dl_df (df_var 1)) (dv_df df_int))))
    (dss_one (ds_set 11 sc_law.nd (de_df (df_de (de_lst (da_cons (df_var 9) (da_cons (df_var 8) da_nil)))))))
    dss_nil)
    (dss_cons (ds_set 12 sc_law.nd (de_df (df_tup (da_cons (df_de (de_lst (da_cons (df_tup (da_cons (df_ix (dl_df (df_var 1)) (dv_df df_int)) (da_cons (df_var 10) da_nil))) da_nil))) (da_cons (df_tup (da_cons df_str (da_cons df_int (da_cons df_int da_nil)))) (da_cons (df_de (de_lst (da_cons (df_tup (da_cons (df_ix (dl_df (df_var 1)) (dv_df df_int)) (da_cons (df_var 11) da_nil))) da_nil))) da_nil))))))
    (dss_cons (ds_set 13 sc_law.nd (de_df (df_de (de_call G.g__law_great (takes_of rfl rfl rfl rfl) hr rfl T.M__law_great T.F__law_great.kp T.B__law_great (da_cons (df_de (de_call G.g__law_cell_at (takes_of rfl rfl rfl rfl) hr rfl T.M__law_cell_at T.F__law_cell_at.kp T.B__law_cell_at (da_cons (df_var 0) (da_cons df_int da_nil)) (aCons_len (aCons_len (fun _ _ h => aNil_len h))))) da_nil) (aCons_len (fun _ _ h => aNil_len h))))))
    (dss_cons (ds_set 14 sc_law.nd (de_df (df_tup (da_cons (df_ix (dl_df (df_var 1)) (dv_df df_int)) (da_cons (df_var 13) (da_cons (df_tup da_nil) da_nil))))))
    (dss_cons (ds_set 15 sc_law.nd (de_df (df_de (de_call G.g__law_put (takes_of rfl rfl rfl rfl) hr rfl T.M__law_put T.F__law_put.kp T.B__law_put (da_cons (df_var 8) (da_cons (df_var 13) (da_cons df_non da_nil))) (aCons_len (aCons_len (aCons_len (fun _ _ h => aNil_len h))))))))
    (dss_cons (ds_for (ix := [16]) (passes_of rfl) rfl (di_range1 rfl T.z_range (da_cons (df_var 6) da_nil)) (dg_name 16 sc_law.nd)
    (dss_cons (ds_set 13 sc_law.nd (de_df (df_de (de_call G.g__law_great (takes_of rfl rfl rfl rfl) hr rfl T.M__law_great T.F__law_great.kp T.B__law_great (da_cons (df_de (de_call G.g__law_cell_at (takes_of rfl rfl rfl rfl) hr rfl T.M__law_cell_at T.F__law_cell_at.kp T.B__law_cell_at (da_cons (df_var 0) (da_cons (df_de (de_add (dl_df df_int) (dl_df (df_var 16)))) da_nil)) (aCons_len (aCons_len (fun _ _ h => aNil_len h))))) da_nil) (aCons_len (fun _ _ h => aNil_len h))))))
    (dss_cons (ds_set 14 sc_law.nd (de_df (df_tup (da_cons (df_ix (dl_df (df_var 1)) (dv_df df_int)) (da_cons (df_var 13) (da_cons (df_tup (da_cons (df_var 14) da_nil)) da_nil))))))
    (dss_one (ds_set 15 sc_law.nd (de_df (df_de (de_call G.g__law_put (takes_of rfl rfl rfl rfl) hr rfl T.M__law_put T.F__law_put.kp T.B__law_put (da_cons (df_var 9) (da_cons (df_var 13) (da_cons (df_var 15) da_nil))) (aCons_len (aCons_len (aCons_len (fun _ _ h => aNil_len h))))))))))))
    (dss_cons (ds_set 17 sc_law.nd (de_df (df_var 3)))
    (dss_cons (ds_if (dt_val (dv_df (df_var 4)))
    (dss_one (ds_set 17 sc_law.nd (de_df (df_de (de_add (dl_de (de_add (dl_df (df_var 6)) (dl_df df_int))) (dl_de (de_int rfl T.z_int (dal_cons (dl_df (df_gt (dv_df (df_var 7)) (dv_df df_int))) dal_nil))))))))
    dss_nil)
    (dss_cons (ds_if (dt_dw (dw_or (dt_ne (room_eq hr) (dv_de (de_call G.g_many (takes_of rfl rfl rfl rfl) hr rfl T.M_many T.F_many.kp T.B_many (da_cons (df_var 12) (da_cons (df_var 14) da_nil)) (aCons_len (aCons_len (fun _ _ h => aNil_len h))))) (dv_df (df_var 3))) (dw_or (dt_ne (room_eq hr) (dv_de (de_call G.g_tall (takes_of rfl rfl rfl rfl) hr rfl T.M_tall T.F_tall.kp T.B_tall (da_cons (df_var 12) (da_cons (df_var 14) da_nil)) (aCons_len (aCons_len (fun _ _ h => aNil_len h))))) (dv_df (df_var 17))) (dw_or1 (dt_ne (room_eq hr) (dv_df (df_ix (dl_de (de_call G.g_seen (takes_of rfl rfl rfl rfl) hr rfl T.M_seen T.F_seen.kp T.B_seen (da_cons (df_var 12) (da_cons (df_var 14) (da_cons (df_tup da_nil) da_nil))) (aCons_len (aCons_len (aCons_len (fun _ _ h => aNil_len h)))))) (dv_df df_int))) (dv_df (df_ix (dl_df (df_var 15)) (dv_df df_int))))))))
    (dss_one (ds_ret (de_df df_bl)))
    dss_nil)
    (dss_cons (ds_for (ix := [18]) (passes_of rfl) rfl (di_range1 rfl T.z_range (da_cons df_int da_nil)) (dg_name 18 sc_law.nd)
    (dss_cons (ds_set 19 sc_law.nd (de_df (df_de (de_call G.g__law_answer (takes_of rfl rfl rfl rfl) hr rfl T.M__law_answer T.F__law_answer.kp T.B__law_answer (da_cons (df_var 12) (da_cons (df_var 14) (da_cons (df_var 18) da_nil))) (aCons_len (aCons_len (aCons_len (fun _ _ h => aNil_len h))))))))
    (dss_one (ds_if (dt_dw (dw_or (dt_gt (dv_df (df_var 3)) (dv_df df_int)) (dw_or1 (dt_gt (dv_df (df_var 17)) (dv_df df_int)))))
    (dss_one (ds_if (dt_ne (room_eq hr) (dv_df (df_var 19)) (dv_de (de_lst (da_cons df_bl da_nil))))
    (dss_one (ds_ret (de_df df_bl)))
    dss_nil))
    (dss_one (ds_if (dt_not (dt_val (dv_de (de_call G.g__law_walk (takes_of rfl rfl rfl rfl) hr rfl T.M__law_walk T.F__law_walk.kp T.B__law_walk (da_cons (df_var 19) (da_cons (df_var 15) da_nil)) (aCons_len (aCons_len (fun _ _ h => aNil_len h)))))))
    (dss_one (ds_ret (de_df df_bl)))
    dss_nil))))))
    (dss_one (ds_ret (de_call G.g__law_walk (takes_of rfl rfl rfl rfl) hr rfl T.M__law_walk T.F__law_walk.kp T.B__law_walk (da_cons (df_de (de_call G.g__law_answer (takes_of rfl rfl rfl rfl) hr rfl T.M__law_answer T.F__law_answer.kp T.B__law_answer (da_cons (df_var 12) (da_cons (df_tup (da_cons (df_ix (dl_df (df_var 1)) (dv_df df_int)) (da_cons (df_var 13) (da_cons (df_tup da_nil) da_nil)))) (da_cons df_int da_nil))) (aCons_len (aCons_len (aCons_len (fun _ _ h => aNil_len h)))))) (da_cons (df_de (de_call G.g__law_put (takes_of rfl rfl rfl rfl) hr rfl T.M__law_put T.F__law_put.kp T.B__law_put (da_cons (df_var 8) (da_cons (df_var 13) (da_cons df_non da_nil))) (aCons_len (aCons_len (aCons_len (fun _ _ h => aNil_len h)))))) da_nil)) (aCons_len (aCons_len (fun _ _ h => aNil_len h))))))))))))))))))))))))))
theorem fn_none {f : Addr} {fd : FuncData} {ps : List Str} {k i : Nat} : FnOk P w K mg base (L2.CX P w) 0 f fd ps (spM ⟨K, w⟩ mg k (mir 0 i)) := by
  have no : ∀ vs H Q E, ¬ spM ⟨K, w⟩ mg k (mir 0 i) vs H Q E := fun vs H Q E ⟨F, ds, _, _, _, h⟩ => h
  exact ⟨fun vs H Q E h => absurd h (no vs H Q E), fun A outer s H args us vs Q E _ _ _ _ h => absurd h (no vs H Q E)⟩
theorem all_fns (T : Txt K mg f fd cl) : ∀ n, Fns P w K mg base f fd n
  | 0 => ⟨fn_none, fn_none, fn_none, fn_none, fn_none, fn_none, fn_none, fn_none, fn_none, fn_none, fn_none, fn_none, fn_none, fn_none, fn_none, fn_none, fn_none, fn_none, fn_none, fn_none, fn_none, fn_none, fn_none, fn_none, fn_none, fn_none, fn_none, fn_none, fn_none, fn_none, fn_none, fn_none, fn_none, fn_none, fn_none⟩
  | n + 1 => by
    have G := all_fns T n
    exact ⟨ok_calls_of T G, ok_rows_of T G, ok_row_of T G, ok_is_of T G, ok_row_number T G, ok_rule_of T G, ok_look T G, ok_above T G, ok_mark_of T G, ok_modes_on T G, ok_measure T G, ok_below_of T G, ok_measured T G, ok_many T G, ok_tall T G, ok_settled T G, ok_seen_from T G, ok_seen T G, ok_made T G, ok_made_within T G, ok_turned T G, ok_turned_in T G, ok__law_cell_at T G, ok__law_mixed T G, ok__law_names T G, ok__law_great T G, ok__law_whole T G, ok__law_wide T G, ok__law_deep T G, ok__law_kept T G, ok__law_put T G, ok__law_walk T G, ok__law_answer T G, ok__law_rules T G, ok_law T G⟩
end
def pick {α : Type} (z : α) : List α → Nat → α
  | [], _ => z
  | x :: _, 0 => x
  | _ :: xs, n + 1 => pick z xs n
theorem all_mk (L : Nat) {l : PySem.W.OpenLaw} {w : World} {K : PySem.W.Frag} {h : Heap} {mg : Str → Option Value} {fa : Addr} (X : K.In h) (G : h.Ns PySem.mainGlobals mg) (hfa : mg "law" = some (.ref fa))
    {od0 an0 : Option Addr} {sl0 : Array (Option Value)} {oc0 kV0 dc0 pm0 cd0 ct0 : Value} {f0 : Addr}
    (a0 : PySem.W.nsIn K PySem.mainGlobals "calls_of" = some (some (.ref f0))) (l0 : K.lookup f0 = some ⟨oc0, od0, .func (PySem.W.fnOf "calls_of" "calls_of" (defArgs s_calls_of) (defBody s_calls_of) (defScope s_calls_of) .none kV0 dc0 pm0 an0 cd0 ct0), sl0⟩) (c0 : PySem.W.codeIn K cd0 "calls_of" = true) (k0 : PySem.W.keepIn K (.ref f0) = true)
    {od1 an1 : Option Addr} {sl1 : Array (Option Value)} {oc1 kV1 dc1 pm1 cd1 ct1 : Value} {f1 : Addr}
    (a1 : PySem.W.nsIn K PySem.mainGlobals "rows_of" = some (some (.ref f1))) (l1 : K.lookup f1 = some ⟨oc1, od1, .func (PySem.W.fnOf "rows_of" "rows_of" (defArgs s_rows_of) (defBody s_rows_of) (defScope s_rows_of) .none kV1 dc1 pm1 an1 cd1 ct1), sl1⟩) (c1 : PySem.W.codeIn K cd1 "rows_of" = true) (k1 : PySem.W.keepIn K (.ref f1) = true)
    {od2 an2 : Option Addr} {sl2 : Array (Option Value)} {oc2 kV2 dc2 pm2 cd2 ct2 : Value} {f2 : Addr}
    (a2 : PySem.W.nsIn K PySem.mainGlobals "row_of" = some (some (.ref f2))) (l2 : K.lookup f2 = some ⟨oc2, od2, .func (PySem.W.fnOf "row_of" "row_of" (defArgs s_row_of) (defBody s_row_of) (defScope s_row_of) .none kV2 dc2 pm2 an2 cd2 ct2), sl2⟩) (c2 : PySem.W.codeIn K cd2 "row_of" = true) (k2 : PySem.W.keepIn K (.ref f2) = true)
    {od3 an3 : Option Addr} {sl3 : Array (Option Value)} {oc3 kV3 dc3 pm3 cd3 ct3 : Value} {f3 : Addr}
    (a3 : PySem.W.nsIn K PySem.mainGlobals "is_of" = some (some (.ref f3))) (l3 : K.lookup f3 = some ⟨oc3, od3, .func (PySem.W.fnOf "is_of" "is_of" (defArgs s_is_of) (defBody s_is_of) (defScope s_is_of) .none kV3 dc3 pm3 an3 cd3 ct3), sl3⟩) (c3 : PySem.W.codeIn K cd3 "is_of" = true) (k3 : PySem.W.keepIn K (.ref f3) = true)
    {od4 an4 : Option Addr} {sl4 : Array (Option Value)} {oc4 kV4 dc4 pm4 cd4 ct4 : Value} {f4 : Addr}
    (a4 : PySem.W.nsIn K PySem.mainGlobals "row_number" = some (some (.ref f4))) (l4 : K.lookup f4 = some ⟨oc4, od4, .func (PySem.W.fnOf "row_number" "row_number" (defArgs s_row_number) (defBody s_row_number) (defScope s_row_number) .none kV4 dc4 pm4 an4 cd4 ct4), sl4⟩) (c4 : PySem.W.codeIn K cd4 "row_number" = true) (k4 : PySem.W.keepIn K (.ref f4) = true)
    {od5 an5 : Option Addr} {sl5 : Array (Option Value)} {oc5 kV5 dc5 pm5 cd5 ct5 : Value} {f5 : Addr}
    (a5 : PySem.W.nsIn K PySem.mainGlobals "rule_of" = some (some (.ref f5))) (l5 : K.lookup f5 = some ⟨oc5, od5, .func (PySem.W.fnOf "rule_of" "rule_of" (defArgs s_rule_of) (defBody s_rule_of) (defScope s_rule_of) .none kV5 dc5 pm5 an5 cd5 ct5), sl5⟩) (c5 : PySem.W.codeIn K cd5 "rule_of" = true) (k5 : PySem.W.keepIn K (.ref f5) = true)
    {od6 an6 : Option Addr} {sl6 : Array (Option Value)} {oc6 kV6 dc6 pm6 cd6 ct6 : Value} {f6 : Addr}
    (a6 : PySem.W.nsIn K PySem.mainGlobals "look" = some (some (.ref f6))) (l6 : K.lookup f6 = some ⟨oc6, od6, .func (PySem.W.fnOf "look" "look" (defArgs s_look) (defBody s_look) (defScope s_look) .none kV6 dc6 pm6 an6 cd6 ct6), sl6⟩) (c6 : PySem.W.codeIn K cd6 "look" = true) (k6 : PySem.W.keepIn K (.ref f6) = true)
    {od7 an7 : Option Addr} {sl7 : Array (Option Value)} {oc7 kV7 dc7 pm7 cd7 ct7 : Value} {f7 : Addr}
    (a7 : PySem.W.nsIn K PySem.mainGlobals "above" = some (some (.ref f7))) (l7 : K.lookup f7 = some ⟨oc7, od7, .func (PySem.W.fnOf "above" "above" (defArgs s_above) (defBody s_above) (defScope s_above) .none kV7 dc7 pm7 an7 cd7 ct7), sl7⟩) (c7 : PySem.W.codeIn K cd7 "above" = true) (k7 : PySem.W.keepIn K (.ref f7) = true)
    {od8 an8 : Option Addr} {sl8 : Array (Option Value)} {oc8 kV8 dc8 pm8 cd8 ct8 : Value} {f8 : Addr}
    (a8 : PySem.W.nsIn K PySem.mainGlobals "mark_of" = some (some (.ref f8))) (l8 : K.lookup f8 = some ⟨oc8, od8, .func (PySem.W.fnOf "mark_of" "mark_of" (defArgs s_mark_of) (defBody s_mark_of) (defScope s_mark_of) .none kV8 dc8 pm8 an8 cd8 ct8), sl8⟩) (c8 : PySem.W.codeIn K cd8 "mark_of" = true) (k8 : PySem.W.keepIn K (.ref f8) = true)
    {od9 an9 : Option Addr} {sl9 : Array (Option Value)} {oc9 kV9 dc9 pm9 cd9 ct9 : Value} {f9 : Addr}
    (a9 : PySem.W.nsIn K PySem.mainGlobals "modes_on" = some (some (.ref f9))) (l9 : K.lookup f9 = some ⟨oc9, od9, .func (PySem.W.fnOf "modes_on" "modes_on" (defArgs s_modes_on) (defBody s_modes_on) (defScope s_modes_on) .none kV9 dc9 pm9 an9 cd9 ct9), sl9⟩) (c9 : PySem.W.codeIn K cd9 "modes_on" = true) (k9 : PySem.W.keepIn K (.ref f9) = true)
    {od10 an10 : Option Addr} {sl10 : Array (Option Value)} {oc10 kV10 dc10 pm10 cd10 ct10 : Value} {f10 : Addr}
    (a10 : PySem.W.nsIn K PySem.mainGlobals "measure" = some (some (.ref f10))) (l10 : K.lookup f10 = some ⟨oc10, od10, .func (PySem.W.fnOf "measure" "measure" (defArgs s_measure) (defBody s_measure) (defScope s_measure) .none kV10 dc10 pm10 an10 cd10 ct10), sl10⟩) (c10 : PySem.W.codeIn K cd10 "measure" = true) (k10 : PySem.W.keepIn K (.ref f10) = true)
    {od11 an11 : Option Addr} {sl11 : Array (Option Value)} {oc11 kV11 dc11 pm11 cd11 ct11 : Value} {f11 : Addr}
    (a11 : PySem.W.nsIn K PySem.mainGlobals "below_of" = some (some (.ref f11))) (l11 : K.lookup f11 = some ⟨oc11, od11, .func (PySem.W.fnOf "below_of" "below_of" (defArgs s_below_of) (defBody s_below_of) (defScope s_below_of) .none kV11 dc11 pm11 an11 cd11 ct11), sl11⟩) (c11 : PySem.W.codeIn K cd11 "below_of" = true) (k11 : PySem.W.keepIn K (.ref f11) = true)
    {od12 an12 : Option Addr} {sl12 : Array (Option Value)} {oc12 kV12 dc12 pm12 cd12 ct12 : Value} {f12 : Addr}
    (a12 : PySem.W.nsIn K PySem.mainGlobals "measured" = some (some (.ref f12))) (l12 : K.lookup f12 = some ⟨oc12, od12, .func (PySem.W.fnOf "measured" "measured" (defArgs s_measured) (defBody s_measured) (defScope s_measured) .none kV12 dc12 pm12 an12 cd12 ct12), sl12⟩) (c12 : PySem.W.codeIn K cd12 "measured" = true) (k12 : PySem.W.keepIn K (.ref f12) = true)
    {od13 an13 : Option Addr} {sl13 : Array (Option Value)} {oc13 kV13 dc13 pm13 cd13 ct13 : Value} {f13 : Addr}
    (a13 : PySem.W.nsIn K PySem.mainGlobals "many" = some (some (.ref f13))) (l13 : K.lookup f13 = some ⟨oc13, od13, .func (PySem.W.fnOf "many" "many" (defArgs s_many) (defBody s_many) (defScope s_many) .none kV13 dc13 pm13 an13 cd13 ct13), sl13⟩) (c13 : PySem.W.codeIn K cd13 "many" = true) (k13 : PySem.W.keepIn K (.ref f13) = true)
    {od14 an14 : Option Addr} {sl14 : Array (Option Value)} {oc14 kV14 dc14 pm14 cd14 ct14 : Value} {f14 : Addr}
    (a14 : PySem.W.nsIn K PySem.mainGlobals "tall" = some (some (.ref f14))) (l14 : K.lookup f14 = some ⟨oc14, od14, .func (PySem.W.fnOf "tall" "tall" (defArgs s_tall) (defBody s_tall) (defScope s_tall) .none kV14 dc14 pm14 an14 cd14 ct14), sl14⟩) (c14 : PySem.W.codeIn K cd14 "tall" = true) (k14 : PySem.W.keepIn K (.ref f14) = true)
    {od15 an15 : Option Addr} {sl15 : Array (Option Value)} {oc15 kV15 dc15 pm15 cd15 ct15 : Value} {f15 : Addr}
    (a15 : PySem.W.nsIn K PySem.mainGlobals "settled" = some (some (.ref f15))) (l15 : K.lookup f15 = some ⟨oc15, od15, .func (PySem.W.fnOf "settled" "settled" (defArgs s_settled) (defBody s_settled) (defScope s_settled) .none kV15 dc15 pm15 an15 cd15 ct15), sl15⟩) (c15 : PySem.W.codeIn K cd15 "settled" = true) (k15 : PySem.W.keepIn K (.ref f15) = true)
    {od16 an16 : Option Addr} {sl16 : Array (Option Value)} {oc16 kV16 dc16 pm16 cd16 ct16 : Value} {f16 : Addr}
    (a16 : PySem.W.nsIn K PySem.mainGlobals "seen_from" = some (some (.ref f16))) (l16 : K.lookup f16 = some ⟨oc16, od16, .func (PySem.W.fnOf "seen_from" "seen_from" (defArgs s_seen_from) (defBody s_seen_from) (defScope s_seen_from) .none kV16 dc16 pm16 an16 cd16 ct16), sl16⟩) (c16 : PySem.W.codeIn K cd16 "seen_from" = true) (k16 : PySem.W.keepIn K (.ref f16) = true)
    {od17 an17 : Option Addr} {sl17 : Array (Option Value)} {oc17 kV17 dc17 pm17 cd17 ct17 : Value} {f17 : Addr}
    (a17 : PySem.W.nsIn K PySem.mainGlobals "seen" = some (some (.ref f17))) (l17 : K.lookup f17 = some ⟨oc17, od17, .func (PySem.W.fnOf "seen" "seen" (defArgs s_seen) (defBody s_seen) (defScope s_seen) .none kV17 dc17 pm17 an17 cd17 ct17), sl17⟩) (c17 : PySem.W.codeIn K cd17 "seen" = true) (k17 : PySem.W.keepIn K (.ref f17) = true)
    {od18 an18 : Option Addr} {sl18 : Array (Option Value)} {oc18 kV18 dc18 pm18 cd18 ct18 : Value} {f18 : Addr}
    (a18 : PySem.W.nsIn K PySem.mainGlobals "made" = some (some (.ref f18))) (l18 : K.lookup f18 = some ⟨oc18, od18, .func (PySem.W.fnOf "made" "made" (defArgs s_made) (defBody s_made) (defScope s_made) .none kV18 dc18 pm18 an18 cd18 ct18), sl18⟩) (c18 : PySem.W.codeIn K cd18 "made" = true) (k18 : PySem.W.keepIn K (.ref f18) = true)
    {od19 an19 : Option Addr} {sl19 : Array (Option Value)} {oc19 kV19 dc19 pm19 cd19 ct19 : Value} {f19 : Addr}
    (a19 : PySem.W.nsIn K PySem.mainGlobals "made_within" = some (some (.ref f19))) (l19 : K.lookup f19 = some ⟨oc19, od19, .func (PySem.W.fnOf "made_within" "made_within" (defArgs s_made_within) (defBody s_made_within) (defScope s_made_within) .none kV19 dc19 pm19 an19 cd19 ct19), sl19⟩) (c19 : PySem.W.codeIn K cd19 "made_within" = true) (k19 : PySem.W.keepIn K (.ref f19) = true)
    {od20 an20 : Option Addr} {sl20 : Array (Option Value)} {oc20 kV20 dc20 pm20 cd20 ct20 : Value} {f20 : Addr}
    (a20 : PySem.W.nsIn K PySem.mainGlobals "turned" = some (some (.ref f20))) (l20 : K.lookup f20 = some ⟨oc20, od20, .func (PySem.W.fnOf "turned" "turned" (defArgs s_turned) (defBody s_turned) (defScope s_turned) .none kV20 dc20 pm20 an20 cd20 ct20), sl20⟩) (c20 : PySem.W.codeIn K cd20 "turned" = true) (k20 : PySem.W.keepIn K (.ref f20) = true)
    {od21 an21 : Option Addr} {sl21 : Array (Option Value)} {oc21 kV21 dc21 pm21 cd21 ct21 : Value} {f21 : Addr}
    (a21 : PySem.W.nsIn K PySem.mainGlobals "turned_in" = some (some (.ref f21))) (l21 : K.lookup f21 = some ⟨oc21, od21, .func (PySem.W.fnOf "turned_in" "turned_in" (defArgs s_turned_in) (defBody s_turned_in) (defScope s_turned_in) .none kV21 dc21 pm21 an21 cd21 ct21), sl21⟩) (c21 : PySem.W.codeIn K cd21 "turned_in" = true) (k21 : PySem.W.keepIn K (.ref f21) = true)
    {od22 an22 : Option Addr} {sl22 : Array (Option Value)} {oc22 kV22 dc22 pm22 cd22 ct22 : Value} {f22 : Addr}
    (a22 : PySem.W.nsIn K PySem.mainGlobals "_law_cell_at" = some (some (.ref f22))) (l22 : K.lookup f22 = some ⟨oc22, od22, .func (PySem.W.fnOf "_law_cell_at" "_law_cell_at" (defArgs s__law_cell_at) (defBody s__law_cell_at) (defScope s__law_cell_at) .none kV22 dc22 pm22 an22 cd22 ct22), sl22⟩) (c22 : PySem.W.codeIn K cd22 "_law_cell_at" = true) (k22 : PySem.W.keepIn K (.ref f22) = true)
    {od23 an23 : Option Addr} {sl23 : Array (Option Value)} {oc23 kV23 dc23 pm23 cd23 ct23 : Value} {f23 : Addr}
    (a23 : PySem.W.nsIn K PySem.mainGlobals "_law_mixed" = some (some (.ref f23))) (l23 : K.lookup f23 = some ⟨oc23, od23, .func (PySem.W.fnOf "_law_mixed" "_law_mixed" (defArgs s__law_mixed) (defBody s__law_mixed) (defScope s__law_mixed) .none kV23 dc23 pm23 an23 cd23 ct23), sl23⟩) (c23 : PySem.W.codeIn K cd23 "_law_mixed" = true) (k23 : PySem.W.keepIn K (.ref f23) = true)
    {od24 an24 : Option Addr} {sl24 : Array (Option Value)} {oc24 kV24 dc24 pm24 cd24 ct24 : Value} {f24 : Addr}
    (a24 : PySem.W.nsIn K PySem.mainGlobals "_law_names" = some (some (.ref f24))) (l24 : K.lookup f24 = some ⟨oc24, od24, .func (PySem.W.fnOf "_law_names" "_law_names" (defArgs s__law_names) (defBody s__law_names) (defScope s__law_names) .none kV24 dc24 pm24 an24 cd24 ct24), sl24⟩) (c24 : PySem.W.codeIn K cd24 "_law_names" = true) (k24 : PySem.W.keepIn K (.ref f24) = true)
    {od25 an25 : Option Addr} {sl25 : Array (Option Value)} {oc25 kV25 dc25 pm25 cd25 ct25 : Value} {f25 : Addr}
    (a25 : PySem.W.nsIn K PySem.mainGlobals "_law_great" = some (some (.ref f25))) (l25 : K.lookup f25 = some ⟨oc25, od25, .func (PySem.W.fnOf "_law_great" "_law_great" (defArgs s__law_great) (defBody s__law_great) (defScope s__law_great) .none kV25 dc25 pm25 an25 cd25 ct25), sl25⟩) (c25 : PySem.W.codeIn K cd25 "_law_great" = true) (k25 : PySem.W.keepIn K (.ref f25) = true)
    {od26 an26 : Option Addr} {sl26 : Array (Option Value)} {oc26 kV26 dc26 pm26 cd26 ct26 : Value} {f26 : Addr}
    (a26 : PySem.W.nsIn K PySem.mainGlobals "_law_whole" = some (some (.ref f26))) (l26 : K.lookup f26 = some ⟨oc26, od26, .func (PySem.W.fnOf "_law_whole" "_law_whole" (defArgs s__law_whole) (defBody s__law_whole) (defScope s__law_whole) .none kV26 dc26 pm26 an26 cd26 ct26), sl26⟩) (c26 : PySem.W.codeIn K cd26 "_law_whole" = true) (k26 : PySem.W.keepIn K (.ref f26) = true)
    {od27 an27 : Option Addr} {sl27 : Array (Option Value)} {oc27 kV27 dc27 pm27 cd27 ct27 : Value} {f27 : Addr}
    (a27 : PySem.W.nsIn K PySem.mainGlobals "_law_wide" = some (some (.ref f27))) (l27 : K.lookup f27 = some ⟨oc27, od27, .func (PySem.W.fnOf "_law_wide" "_law_wide" (defArgs s__law_wide) (defBody s__law_wide) (defScope s__law_wide) .none kV27 dc27 pm27 an27 cd27 ct27), sl27⟩) (c27 : PySem.W.codeIn K cd27 "_law_wide" = true) (k27 : PySem.W.keepIn K (.ref f27) = true)
    {od28 an28 : Option Addr} {sl28 : Array (Option Value)} {oc28 kV28 dc28 pm28 cd28 ct28 : Value} {f28 : Addr}
    (a28 : PySem.W.nsIn K PySem.mainGlobals "_law_deep" = some (some (.ref f28))) (l28 : K.lookup f28 = some ⟨oc28, od28, .func (PySem.W.fnOf "_law_deep" "_law_deep" (defArgs s__law_deep) (defBody s__law_deep) (defScope s__law_deep) .none kV28 dc28 pm28 an28 cd28 ct28), sl28⟩) (c28 : PySem.W.codeIn K cd28 "_law_deep" = true) (k28 : PySem.W.keepIn K (.ref f28) = true)
    {od29 an29 : Option Addr} {sl29 : Array (Option Value)} {oc29 kV29 dc29 pm29 cd29 ct29 : Value} {f29 : Addr}
    (a29 : PySem.W.nsIn K PySem.mainGlobals "_law_kept" = some (some (.ref f29))) (l29 : K.lookup f29 = some ⟨oc29, od29, .func (PySem.W.fnOf "_law_kept" "_law_kept" (defArgs s__law_kept) (defBody s__law_kept) (defScope s__law_kept) .none kV29 dc29 pm29 an29 cd29 ct29), sl29⟩) (c29 : PySem.W.codeIn K cd29 "_law_kept" = true) (k29 : PySem.W.keepIn K (.ref f29) = true)
    {od30 an30 : Option Addr} {sl30 : Array (Option Value)} {oc30 kV30 dc30 pm30 cd30 ct30 : Value} {f30 : Addr}
    (a30 : PySem.W.nsIn K PySem.mainGlobals "_law_put" = some (some (.ref f30))) (l30 : K.lookup f30 = some ⟨oc30, od30, .func (PySem.W.fnOf "_law_put" "_law_put" (defArgs s__law_put) (defBody s__law_put) (defScope s__law_put) .none kV30 dc30 pm30 an30 cd30 ct30), sl30⟩) (c30 : PySem.W.codeIn K cd30 "_law_put" = true) (k30 : PySem.W.keepIn K (.ref f30) = true)
    {od31 an31 : Option Addr} {sl31 : Array (Option Value)} {oc31 kV31 dc31 pm31 cd31 ct31 : Value} {f31 : Addr}
    (a31 : PySem.W.nsIn K PySem.mainGlobals "_law_walk" = some (some (.ref f31))) (l31 : K.lookup f31 = some ⟨oc31, od31, .func (PySem.W.fnOf "_law_walk" "_law_walk" (defArgs s__law_walk) (defBody s__law_walk) (defScope s__law_walk) .none kV31 dc31 pm31 an31 cd31 ct31), sl31⟩) (c31 : PySem.W.codeIn K cd31 "_law_walk" = true) (k31 : PySem.W.keepIn K (.ref f31) = true)
    {od32 an32 : Option Addr} {sl32 : Array (Option Value)} {oc32 kV32 dc32 pm32 cd32 ct32 : Value} {f32 : Addr}
    (a32 : PySem.W.nsIn K PySem.mainGlobals "_law_answer" = some (some (.ref f32))) (l32 : K.lookup f32 = some ⟨oc32, od32, .func (PySem.W.fnOf "_law_answer" "_law_answer" (defArgs s__law_answer) (defBody s__law_answer) (defScope s__law_answer) .none kV32 dc32 pm32 an32 cd32 ct32), sl32⟩) (c32 : PySem.W.codeIn K cd32 "_law_answer" = true) (k32 : PySem.W.keepIn K (.ref f32) = true)
    {od33 an33 : Option Addr} {sl33 : Array (Option Value)} {oc33 kV33 dc33 pm33 cd33 ct33 : Value} {f33 : Addr}
    (a33 : PySem.W.nsIn K PySem.mainGlobals "_law_rules" = some (some (.ref f33))) (l33 : K.lookup f33 = some ⟨oc33, od33, .func (PySem.W.fnOf "_law_rules" "_law_rules" (defArgs s__law_rules) (defBody s__law_rules) (defScope s__law_rules) .none kV33 dc33 pm33 an33 cd33 ct33), sl33⟩) (c33 : PySem.W.codeIn K cd33 "_law_rules" = true) (k33 : PySem.W.keepIn K (.ref f33) = true)
    {od34 an34 : Option Addr} {sl34 : Array (Option Value)} {oc34 kV34 dc34 pm34 cd34 ct34 : Value} {f34 : Addr}
    (a34 : PySem.W.nsIn K PySem.mainGlobals "law" = some (some (.ref f34))) (l34 : K.lookup f34 = some ⟨oc34, od34, .func (PySem.W.fnOf "law" "law" (defArgs s_law) (defBody s_law) (defScope s_law) .none kV34 dc34 pm34 an34 cd34 ct34), sl34⟩) (c34 : PySem.W.codeIn K cd34 "law" = true) (k34 : PySem.W.keepIn K (.ref f34) = true)
    (z_ValueError : PySem.W.nsIn K PySem.mainGlobals "ValueError" = some none)
    (z_bool : PySem.W.nsIn K PySem.mainGlobals "bool" = some none)
    (z_enumerate : PySem.W.nsIn K PySem.mainGlobals "enumerate" = some none)
    (z_int : PySem.W.nsIn K PySem.mainGlobals "int" = some none)
    (z_isinstance : PySem.W.nsIn K PySem.mainGlobals "isinstance" = some none)
    (z_len : PySem.W.nsIn K PySem.mainGlobals "len" = some none)
    (z_list : PySem.W.nsIn K PySem.mainGlobals "list" = some none)
    (z_max : PySem.W.nsIn K PySem.mainGlobals "max" = some none)
    (z_range : PySem.W.nsIn K PySem.mainGlobals "range" = some none)
    (z_sorted : PySem.W.nsIn K PySem.mainGlobals "sorted" = some none)
    (z_str : PySem.W.nsIn K PySem.mainGlobals "str" = some none)
    (z_tuple : PySem.W.nsIn K PySem.mainGlobals "tuple" = some none)
    (z_zip : PySem.W.nsIn K PySem.mainGlobals "zip" = some none)
    {C_NoTree : Addr} (e_NoTree : PySem.W.nsIn K PySem.mainGlobals "NoTree" = some (some (.ref C_NoTree)))
    {C_TooGreat : Addr} (e_TooGreat : PySem.W.nsIn K PySem.mainGlobals "TooGreat" = some (some (.ref C_TooGreat)))
    {C_TurnError : Addr} (e_TurnError : PySem.W.nsIn K PySem.mainGlobals "TurnError" = some (some (.ref C_TurnError)))
    (xb_NoTree : PySem.W.subIn K (.ref C_NoTree) (.type "BaseException") = some true)
    (xt_NoTree : PySem.W.typeIn K (.ref C_NoTree) = some (.type "type"))
    (xd_NoTree : PySem.W.hasDictIn K C_NoTree = true)
    (xs_NoTree : PySem.W.subIn K (.ref C_NoTree) (.ref C_NoTree) = some true)
    (xb_TooGreat : PySem.W.subIn K (.ref C_TooGreat) (.type "BaseException") = some true)
    (xt_TooGreat : PySem.W.typeIn K (.ref C_TooGreat) = some (.type "type"))
    (xd_TooGreat : PySem.W.hasDictIn K C_TooGreat = true)
    (xs_TooGreat : PySem.W.subIn K (.ref C_TooGreat) (.ref C_TooGreat) = some true)
    (xb_TurnError : PySem.W.subIn K (.ref C_TurnError) (.type "BaseException") = some true)
    (xt_TurnError : PySem.W.typeIn K (.ref C_TurnError) = some (.type "type"))
    (xd_TurnError : PySem.W.hasDictIn K C_TurnError = true)
    (xs_TurnError : PySem.W.subIn K (.ref C_TurnError) (.ref C_TurnError) = some true)
    (xe_NoTree : PySem.W.excIn K C_NoTree [.type "ValueError", .type "Exception", .type "BaseException", .type "object"] "ValueError.__new__" = true)
    (xk_NoTree : PySem.W.keepIn K (.ref C_NoTree) = true)
    (y0_NoTree : PySem.W.findIn K (.ref C_NoTree) "__getattribute__" = some (some (.builtin "BaseException.__getattribute__")))
    (y1_NoTree : PySem.W.findIn K (.ref C_NoTree) "__getattr__" = some none)
    (y2_NoTree : PySem.W.findIn K (.ref C_NoTree) "__class__" = some (some (.builtin "object.__class__")))
    (y3_NoTree : PySem.W.specialIn K (.builtin "object.__class__") "__get__" = some (some (.builtin "getset_descriptor.__get__")))
    (y4_NoTree : PySem.W.takesIn K (.builtin "object.__class__") = some true)
    (y5_NoTree : PySem.W.mroIn K C_NoTree (.type "object") = some true)
    (xe_TooGreat : PySem.W.excIn K C_TooGreat [.type "ValueError", .type "Exception", .type "BaseException", .type "object"] "ValueError.__new__" = true)
    (xk_TooGreat : PySem.W.keepIn K (.ref C_TooGreat) = true)
    (y0_TooGreat : PySem.W.findIn K (.ref C_TooGreat) "__getattribute__" = some (some (.builtin "BaseException.__getattribute__")))
    (y1_TooGreat : PySem.W.findIn K (.ref C_TooGreat) "__getattr__" = some none)
    (y2_TooGreat : PySem.W.findIn K (.ref C_TooGreat) "__class__" = some (some (.builtin "object.__class__")))
    (y3_TooGreat : PySem.W.specialIn K (.builtin "object.__class__") "__get__" = some (some (.builtin "getset_descriptor.__get__")))
    (y4_TooGreat : PySem.W.takesIn K (.builtin "object.__class__") = some true)
    (y5_TooGreat : PySem.W.mroIn K C_TooGreat (.type "object") = some true)
    (hci_NoTree_NoTree : PySem.W.subIn K (.ref C_NoTree) (.ref C_NoTree) = some true)
    (hci_TooGreat_NoTree : PySem.W.subIn K (.ref C_TooGreat) (.ref C_NoTree) = some false)
    (hci_NoTree_ValueError : PySem.W.subIn K (.ref C_NoTree) (.type "ValueError") = some true)
    (hci_TooGreat_ValueError : PySem.W.subIn K (.ref C_TooGreat) (.type "ValueError") = some true)
    (hci_NoTree_TurnError : PySem.W.subIn K (.ref C_NoTree) (.ref C_TurnError) = some true)
    (hci_TooGreat_TurnError : PySem.W.subIn K (.ref C_TooGreat) (.ref C_TurnError) = some true)
    (hcm_TooGreat_TooGreat : PySem.W.subIn K (.ref C_TooGreat) (.ref C_TooGreat) = some true)
    (hcm_NoTree_TooGreat : PySem.W.subIn K (.ref C_NoTree) (.ref C_TooGreat) = some false)
    (hkn_NoTree : PySem.W.subIn K (.type "NoneType") (.ref C_NoTree) = some false)
    (hkn_TurnError : PySem.W.subIn K (.type "NoneType") (.ref C_TurnError) = some false) :
    ∃ fd : FuncData, (∀ (s : Shared) (v : Value), BindsTo s fd ⟨[v], []⟩ [("_law_script", v)]) ∧ ∀ base : Heap, K.In base → base.Ns PySem.mainGlobals mg → FnOk l.prog w K mg base (L2.CX l.prog w) L fa fd ["_law_script"] (spM ⟨K, w⟩ mg 1 (mir L 34)) := by
  have e := hfa.symm.trans (PySem.W.mg_of X G a34)
  cases e
  have F0 := fun_mk (st := s_calls_of) l0 c0 k0
  have F1 := fun_mk (st := s_rows_of) l1 c1 k1
  have F2 := fun_mk (st := s_row_of) l2 c2 k2
  have F3 := fun_mk (st := s_is_of) l3 c3 k3
  have F4 := fun_mk (st := s_row_number) l4 c4 k4
  have F5 := fun_mk (st := s_rule_of) l5 c5 k5
  have F6 := fun_mk (st := s_look) l6 c6 k6
  have F7 := fun_mk (st := s_above) l7 c7 k7
  have F8 := fun_mk (st := s_mark_of) l8 c8 k8
  have F9 := fun_mk (st := s_modes_on) l9 c9 k9
  have F10 := fun_mk (st := s_measure) l10 c10 k10
  have F11 := fun_mk (st := s_below_of) l11 c11 k11
  have F12 := fun_mk (st := s_measured) l12 c12 k12
  have F13 := fun_mk (st := s_many) l13 c13 k13
  have F14 := fun_mk (st := s_tall) l14 c14 k14
  have F15 := fun_mk (st := s_settled) l15 c15 k15
  have F16 := fun_mk (st := s_seen_from) l16 c16 k16
  have F17 := fun_mk (st := s_seen) l17 c17 k17
  have F18 := fun_mk (st := s_made) l18 c18 k18
  have F19 := fun_mk (st := s_made_within) l19 c19 k19
  have F20 := fun_mk (st := s_turned) l20 c20 k20
  have F21 := fun_mk (st := s_turned_in) l21 c21 k21
  have F22 := fun_mk (st := s__law_cell_at) l22 c22 k22
  have F23 := fun_mk (st := s__law_mixed) l23 c23 k23
  have F24 := fun_mk (st := s__law_names) l24 c24 k24
  have F25 := fun_mk (st := s__law_great) l25 c25 k25
  have F26 := fun_mk (st := s__law_whole) l26 c26 k26
  have F27 := fun_mk (st := s__law_wide) l27 c27 k27
  have F28 := fun_mk (st := s__law_deep) l28 c28 k28
  have F29 := fun_mk (st := s__law_kept) l29 c29 k29
  have F30 := fun_mk (st := s__law_put) l30 c30 k30
  have F31 := fun_mk (st := s__law_walk) l31 c31 k31
  have F32 := fun_mk (st := s__law_answer) l32 c32 k32
  have F33 := fun_mk (st := s__law_rules) l33 c33 k33
  have F34 := fun_mk (st := s_law) l34 c34 k34
  have T : Txt K mg (pick 0 [f0, f1, f2, f3, f4, f5, f6, f7, f8, f9, f10, f11, f12, f13, f14, f15, f16, f17, f18, f19, f20, f21, f22, f23, f24, f25, f26, f27, f28, f29, f30, f31, f32, f33, fa]) (pick (PySem.W.fnOf "law" "law" (defArgs s_law) (defBody s_law) (defScope s_law) .none kV34 dc34 pm34 an34 cd34 ct34) [PySem.W.fnOf "calls_of" "calls_of" (defArgs s_calls_of) (defBody s_calls_of) (defScope s_calls_of) .none kV0 dc0 pm0 an0 cd0 ct0, PySem.W.fnOf "rows_of" "rows_of" (defArgs s_rows_of) (defBody s_rows_of) (defScope s_rows_of) .none kV1 dc1 pm1 an1 cd1 ct1, PySem.W.fnOf "row_of" "row_of" (defArgs s_row_of) (defBody s_row_of) (defScope s_row_of) .none kV2 dc2 pm2 an2 cd2 ct2, PySem.W.fnOf "is_of" "is_of" (defArgs s_is_of) (defBody s_is_of) (defScope s_is_of) .none kV3 dc3 pm3 an3 cd3 ct3, PySem.W.fnOf "row_number" "row_number" (defArgs s_row_number) (defBody s_row_number) (defScope s_row_number) .none kV4 dc4 pm4 an4 cd4 ct4, PySem.W.fnOf "rule_of" "rule_of" (defArgs s_rule_of) (defBody s_rule_of) (defScope s_rule_of) .none kV5 dc5 pm5 an5 cd5 ct5, PySem.W.fnOf "look" "look" (defArgs s_look) (defBody s_look) (defScope s_look) .none kV6 dc6 pm6 an6 cd6 ct6, PySem.W.fnOf "above" "above" (defArgs s_above) (defBody s_above) (defScope s_above) .none kV7 dc7 pm7 an7 cd7 ct7, PySem.W.fnOf "mark_of" "mark_of" (defArgs s_mark_of) (defBody s_mark_of) (defScope s_mark_of) .none kV8 dc8 pm8 an8 cd8 ct8, PySem.W.fnOf "modes_on" "modes_on" (defArgs s_modes_on) (defBody s_modes_on) (defScope s_modes_on) .none kV9 dc9 pm9 an9 cd9 ct9, PySem.W.fnOf "measure" "measure" (defArgs s_measure) (defBody s_measure) (defScope s_measure) .none kV10 dc10 pm10 an10 cd10 ct10, PySem.W.fnOf "below_of" "below_of" (defArgs s_below_of) (defBody s_below_of) (defScope s_below_of) .none kV11 dc11 pm11 an11 cd11 ct11, PySem.W.fnOf "measured" "measured" (defArgs s_measured) (defBody s_measured) (defScope s_measured) .none kV12 dc12 pm12 an12 cd12 ct12, PySem.W.fnOf "many" "many" (defArgs s_many) (defBody s_many) (defScope s_many) .none kV13 dc13 pm13 an13 cd13 ct13, PySem.W.fnOf "tall" "tall" (defArgs s_tall) (defBody s_tall) (defScope s_tall) .none kV14 dc14 pm14 an14 cd14 ct14, PySem.W.fnOf "settled" "settled" (defArgs s_settled) (defBody s_settled) (defScope s_settled) .none kV15 dc15 pm15 an15 cd15 ct15, PySem.W.fnOf "seen_from" "seen_from" (defArgs s_seen_from) (defBody s_seen_from) (defScope s_seen_from) .none kV16 dc16 pm16 an16 cd16 ct16, PySem.W.fnOf "seen" "seen" (defArgs s_seen) (defBody s_seen) (defScope s_seen) .none kV17 dc17 pm17 an17 cd17 ct17, PySem.W.fnOf "made" "made" (defArgs s_made) (defBody s_made) (defScope s_made) .none kV18 dc18 pm18 an18 cd18 ct18, PySem.W.fnOf "made_within" "made_within" (defArgs s_made_within) (defBody s_made_within) (defScope s_made_within) .none kV19 dc19 pm19 an19 cd19 ct19, PySem.W.fnOf "turned" "turned" (defArgs s_turned) (defBody s_turned) (defScope s_turned) .none kV20 dc20 pm20 an20 cd20 ct20, PySem.W.fnOf "turned_in" "turned_in" (defArgs s_turned_in) (defBody s_turned_in) (defScope s_turned_in) .none kV21 dc21 pm21 an21 cd21 ct21, PySem.W.fnOf "_law_cell_at" "_law_cell_at" (defArgs s__law_cell_at) (defBody s__law_cell_at) (defScope s__law_cell_at) .none kV22 dc22 pm22 an22 cd22 ct22, PySem.W.fnOf "_law_mixed" "_law_mixed" (defArgs s__law_mixed) (defBody s__law_mixed) (defScope s__law_mixed) .none kV23 dc23 pm23 an23 cd23 ct23, PySem.W.fnOf "_law_names" "_law_names" (defArgs s__law_names) (defBody s__law_names) (defScope s__law_names) .none kV24 dc24 pm24 an24 cd24 ct24, PySem.W.fnOf "_law_great" "_law_great" (defArgs s__law_great) (defBody s__law_great) (defScope s__law_great) .none kV25 dc25 pm25 an25 cd25 ct25, PySem.W.fnOf "_law_whole" "_law_whole" (defArgs s__law_whole) (defBody s__law_whole) (defScope s__law_whole) .none kV26 dc26 pm26 an26 cd26 ct26, PySem.W.fnOf "_law_wide" "_law_wide" (defArgs s__law_wide) (defBody s__law_wide) (defScope s__law_wide) .none kV27 dc27 pm27 an27 cd27 ct27, PySem.W.fnOf "_law_deep" "_law_deep" (defArgs s__law_deep) (defBody s__law_deep) (defScope s__law_deep) .none kV28 dc28 pm28 an28 cd28 ct28, PySem.W.fnOf "_law_kept" "_law_kept" (defArgs s__law_kept) (defBody s__law_kept) (defScope s__law_kept) .none kV29 dc29 pm29 an29 cd29 ct29, PySem.W.fnOf "_law_put" "_law_put" (defArgs s__law_put) (defBody s__law_put) (defScope s__law_put) .none kV30 dc30 pm30 an30 cd30 ct30, PySem.W.fnOf "_law_walk" "_law_walk" (defArgs s__law_walk) (defBody s__law_walk) (defScope s__law_walk) .none kV31 dc31 pm31 an31 cd31 ct31, PySem.W.fnOf "_law_answer" "_law_answer" (defArgs s__law_answer) (defBody s__law_answer) (defScope s__law_answer) .none kV32 dc32 pm32 an32 cd32 ct32, PySem.W.fnOf "_law_rules" "_law_rules" (defArgs s__law_rules) (defBody s__law_rules) (defScope s__law_rules) .none kV33 dc33 pm33 an33 cd33 ct33, PySem.W.fnOf "law" "law" (defArgs s_law) (defBody s_law) (defScope s_law) .none kV34 dc34 pm34 an34 cd34 ct34]) (pick 0 [C_NoTree, C_TooGreat, C_TurnError]) := {
    F_calls_of := F0,
    B_calls_of := F0.binds (ps := ["term"]) fun _ _ _ _ _ _ us hl => match us, hl with | [_], _ => rfl,
    M_calls_of := PySem.W.mg_of X G a0,
    F_rows_of := F1,
    B_rows_of := F1.binds (ps := ["wood", "kind"]) fun _ _ _ _ _ _ us hl => match us, hl with | [_, _], _ => rfl,
    M_rows_of := PySem.W.mg_of X G a1,
    F_row_of := F2,
    B_row_of := F2.binds (ps := ["wood", "kind", "name"]) fun _ _ _ _ _ _ us hl => match us, hl with | [_, _, _], _ => rfl,
    M_row_of := PySem.W.mg_of X G a2,
    F_is_of := F3,
    B_is_of := F3.binds (ps := ["wood", "kind", "tree"]) fun _ _ _ _ _ _ us hl => match us, hl with | [_, _, _], _ => rfl,
    M_is_of := PySem.W.mg_of X G a3,
    F_row_number := F4,
    B_row_number := F4.binds (ps := ["wood", "kind", "name"]) fun _ _ _ _ _ _ us hl => match us, hl with | [_, _, _], _ => rfl,
    M_row_number := PySem.W.mg_of X G a4,
    F_rule_of := F5,
    B_rule_of := F5.binds (ps := ["turning", "mode", "name"]) fun _ _ _ _ _ _ us hl => match us, hl with | [_, _, _], _ => rfl,
    M_rule_of := PySem.W.mg_of X G a5,
    F_look := F6,
    B_look := F6.binds (ps := ["turning", "kind", "tree"]) fun _ _ _ _ _ _ us hl => match us, hl with | [_, _, _], _ => rfl,
    M_look := PySem.W.mg_of X G a6,
    F_above := F7,
    B_above := F7.binds (ps := ["tree"]) fun _ _ _ _ _ _ us hl => match us, hl with | [_], _ => rfl,
    M_above := PySem.W.mg_of X G a7,
    F_mark_of := F8,
    B_mark_of := F8.binds (ps := ["put", "read"]) fun _ _ _ _ _ _ us hl => match us, hl with | [_, _], _ => rfl,
    M_mark_of := PySem.W.mg_of X G a8,
    F_modes_on := F9,
    B_modes_on := F9.binds (ps := ["terms", "branch"]) fun _ _ _ _ _ _ us hl => match us, hl with | [_, _], _ => rfl,
    M_modes_on := PySem.W.mg_of X G a9,
    F_measure := F10,
    B_measure := F10.binds (ps := ["term", "below"]) fun _ _ _ _ _ _ us hl => match us, hl with | [_, _], _ => rfl,
    M_measure := PySem.W.mg_of X G a10,
    F_below_of := F11,
    B_below_of := F11.binds (ps := ["turning", "terms", "read"]) fun _ _ _ _ _ _ us hl => match us, hl with | [_, _, _], _ => rfl,
    M_below_of := PySem.W.mg_of X G a11,
    F_measured := F12,
    B_measured := F12.binds (ps := ["turning", "term", "read"]) fun _ _ _ _ _ _ us hl => match us, hl with | [_, _, _], _ => rfl,
    M_measured := PySem.W.mg_of X G a12,
    F_many := F13,
    B_many := F13.binds (ps := ["turning", "tree"]) fun _ _ _ _ _ _ us hl => match us, hl with | [_, _], _ => rfl,
    M_many := PySem.W.mg_of X G a13,
    F_tall := F14,
    B_tall := F14.binds (ps := ["turning", "tree"]) fun _ _ _ _ _ _ us hl => match us, hl with | [_, _], _ => rfl,
    M_tall := PySem.W.mg_of X G a14,
    F_settled := F15,
    B_settled := F15.binds (ps := ["turning", "term", "read"]) fun _ _ _ _ _ _ us hl => match us, hl with | [_, _, _], _ => rfl,
    M_settled := PySem.W.mg_of X G a15,
    F_seen_from := F16,
    B_seen_from := F16.binds (ps := ["turning", "term", "read", "place"]) fun _ _ _ _ _ _ us hl => match us, hl with | [_, _, _, _], _ => rfl,
    M_seen_from := PySem.W.mg_of X G a16,
    F_seen := F17,
    B_seen := F17.binds (ps := ["turning", "tree", "place"]) fun _ _ _ _ _ _ us hl => match us, hl with | [_, _, _], _ => rfl,
    M_seen := PySem.W.mg_of X G a17,
    F_made := F18,
    B_made := F18.binds (ps := ["turning", "term", "read"]) fun _ _ _ _ _ _ us hl => match us, hl with | [_, _, _], _ => rfl,
    M_made := PySem.W.mg_of X G a18,
    F_made_within := F19,
    B_made_within := F19.binds (ps := ["turning", "term", "read"]) fun _ _ _ _ _ _ us hl => match us, hl with | [_, _, _], _ => rfl,
    M_made_within := PySem.W.mg_of X G a19,
    F_turned := F20,
    B_turned := F20.binds (ps := ["turning", "tree"]) fun _ _ _ _ _ _ us hl => match us, hl with | [_, _], _ => rfl,
    M_turned := PySem.W.mg_of X G a20,
    F_turned_in := F21,
    B_turned_in := F21.binds (ps := ["turning", "mode", "tree"]) fun _ _ _ _ _ _ us hl => match us, hl with | [_, _, _], _ => rfl,
    M_turned_in := PySem.W.mg_of X G a21,
    F__law_cell_at := F22,
    B__law_cell_at := F22.binds (ps := ["_law_script", "_law_k"]) fun _ _ _ _ _ _ us hl => match us, hl with | [_, _], _ => rfl,
    M__law_cell_at := PySem.W.mg_of X G a22,
    F__law_mixed := F23,
    B__law_mixed := F23.binds (ps := ["_law_cell", "_law_k"]) fun _ _ _ _ _ _ us hl => match us, hl with | [_, _], _ => rfl,
    M__law_mixed := PySem.W.mg_of X G a23,
    F__law_names := F24,
    B__law_names := F24.binds (ps := ["_law_cell"]) fun _ _ _ _ _ _ us hl => match us, hl with | [_], _ => rfl,
    M__law_names := PySem.W.mg_of X G a24,
    F__law_great := F25,
    B__law_great := F25.binds (ps := ["_law_cell"]) fun _ _ _ _ _ _ us hl => match us, hl with | [_], _ => rfl,
    M__law_great := PySem.W.mg_of X G a25,
    F__law_whole := F26,
    B__law_whole := F26.binds (ps := ["_law_found"]) fun _ _ _ _ _ _ us hl => match us, hl with | [_], _ => rfl,
    M__law_whole := PySem.W.mg_of X G a26,
    F__law_wide := F27,
    B__law_wide := F27.binds (ps := ["_law_name", "_law_add", "_law_count", "_law_inner"]) fun _ _ _ _ _ _ us hl => match us, hl with | [_, _, _, _], _ => rfl,
    M__law_wide := PySem.W.mg_of X G a27,
    F__law_deep := F28,
    B__law_deep := F28.binds (ps := ["_law_name", "_law_add", "_law_count", "_law_inner"]) fun _ _ _ _ _ _ us hl => match us, hl with | [_, _, _, _], _ => rfl,
    M__law_deep := PySem.W.mg_of X G a28,
    F__law_kept := F29,
    B__law_kept := F29.binds (ps := ["_law_term", "_law_mark"]) fun _ _ _ _ _ _ us hl => match us, hl with | [_, _], _ => rfl,
    M__law_kept := PySem.W.mg_of X G a29,
    F__law_put := F30,
    B__law_put := F30.binds (ps := ["_law_term", "_law_mark", "_law_below"]) fun _ _ _ _ _ _ us hl => match us, hl with | [_, _, _], _ => rfl,
    M__law_put := PySem.W.mg_of X G a30,
    F__law_walk := F31,
    B__law_walk := F31.binds (ps := ["_law_found", "_law_due"]) fun _ _ _ _ _ _ us hl => match us, hl with | [_, _], _ => rfl,
    M__law_walk := PySem.W.mg_of X G a31,
    F__law_answer := F32,
    B__law_answer := F32.binds (ps := ["_law_turning", "_law_tree", "_law_ask"]) fun _ _ _ _ _ _ us hl => match us, hl with | [_, _, _], _ => rfl,
    M__law_answer := PySem.W.mg_of X G a32,
    F__law_rules := F33,
    B__law_rules := F33.binds (ps := ["_law_names_here", "_law_add", "_law_sides", "_law_each", "_law_last"]) fun _ _ _ _ _ _ us hl => match us, hl with | [_, _, _, _, _], _ => rfl,
    M__law_rules := PySem.W.mg_of X G a33,
    F_law := F34,
    B_law := F34.binds (ps := ["_law_script"]) fun _ _ _ _ _ _ us hl => match us, hl with | [_], _ => rfl,
    M_law := PySem.W.mg_of X G a34,
    z_ValueError := PySem.W.mg_none_of X G z_ValueError,
    z_bool := PySem.W.mg_none_of X G z_bool,
    z_enumerate := PySem.W.mg_none_of X G z_enumerate,
    z_int := PySem.W.mg_none_of X G z_int,
    z_isinstance := PySem.W.mg_none_of X G z_isinstance,
    z_len := PySem.W.mg_none_of X G z_len,
    z_list := PySem.W.mg_none_of X G z_list,
    z_max := PySem.W.mg_none_of X G z_max,
    z_range := PySem.W.mg_none_of X G z_range,
    z_sorted := PySem.W.mg_none_of X G z_sorted,
    z_str := PySem.W.mg_none_of X G z_str,
    z_tuple := PySem.W.mg_none_of X G z_tuple,
    z_zip := PySem.W.mg_none_of X G z_zip,
    cn_NoTree := e_NoTree,
    cg_NoTree := PySem.W.mg_of X G e_NoTree,
    cx_NoTree := ⟨PySem.W.mg_of X G e_NoTree, xe_NoTree, xk_NoTree, xb_NoTree, xt_NoTree⟩,
    cc_NoTree := ⟨y0_NoTree, y1_NoTree, xb_NoTree, xd_NoTree, y2_NoTree, y3_NoTree, y4_NoTree, y5_NoTree⟩,
    cn_TooGreat := e_TooGreat,
    cg_TooGreat := PySem.W.mg_of X G e_TooGreat,
    cx_TooGreat := ⟨PySem.W.mg_of X G e_TooGreat, xe_TooGreat, xk_TooGreat, xb_TooGreat, xt_TooGreat⟩,
    cc_TooGreat := ⟨y0_TooGreat, y1_TooGreat, xb_TooGreat, xd_TooGreat, y2_TooGreat, y3_TooGreat, y4_TooGreat, y5_TooGreat⟩,
    cg_TurnError := PySem.W.mg_of X G e_TurnError,
    ci_NoTree_NoTree := kit_ref xd_NoTree xt_NoTree hci_NoTree_NoTree xs_NoTree,
    ci_TooGreat_NoTree := kit_ref xd_NoTree xt_NoTree hci_TooGreat_NoTree xs_TooGreat,
    ci_NoTree_ValueError := kit_type (by decide +kernel) hci_NoTree_ValueError,
    ci_TooGreat_ValueError := kit_type (by decide +kernel) hci_TooGreat_ValueError,
    ci_NoTree_TurnError := kit_ref xd_TurnError xt_TurnError hci_NoTree_TurnError xs_NoTree,
    ci_TooGreat_TurnError := kit_ref xd_TurnError xt_TurnError hci_TooGreat_TurnError xs_TooGreat,
    cm_TooGreat_TooGreat := PySem.W.exm_ref xb_TooGreat xd_TooGreat xt_TooGreat hcm_TooGreat_TooGreat,
    cm_NoTree_TooGreat := PySem.W.exm_ref xb_TooGreat xd_TooGreat xt_TooGreat hcm_NoTree_TooGreat,
    kn_NoTree := kit_refN xd_NoTree xt_NoTree hkn_NoTree,
    kn_ValueError := kit_ty (by decide +kernel),
    kn_TurnError := kit_refN xd_TurnError xt_TurnError hkn_TurnError }
  refine ⟨PySem.W.fnOf "law" "law" (defArgs s_law) (defBody s_law) (defScope s_law) .none kV34 dc34 pm34 an34 cd34 ct34, fun s v => .of_eq rfl, fun base _ _ => ?_⟩
  exact (all_fns (P := l.prog) (w := w) (base := base) T L).g_law
end G
set_option Elab.async false
set_option linter.all false
set_option maxRecDepth 100000
set_option maxHeartbeats 4000000
namespace G
open PySem PySem.Spec L2 Mir
theorem calls_ok : ∀ (n : Nat) (t : Trm), levM t ≤ n → okM t → sizeM t ≤ 1000 → mir n 0 [encM t] = .ok (encCs (callsM t))
  | 0, .call m b, h, _, _ => by rw [levM] at h; omega
  | 0, .put nm kp ad ps, h, _, _ => by rw [levM] at h; omega
  | n + 1, .call m b, h, _, _ => by
    rw [mir_calls_of, run_calls_of]
    exact calls_call _ m b
  | n + 1, .put nm kp ad ps, h, ok, hs => by
    rw [mir_calls_of, run_calls_of]
    rw [levM] at h
    rw [okM, okMs_iff] at ok
    rw [sizeM] at hs
    refine calls_put _ (by have := calls_lenM.go ps; omega) fun p hp => calls_ok n p (levMs_le (by omega) p hp) (ok.2.2 p hp) (by have := sizeMs_memM hp; omega)
theorem rows_ok (n : Nat) (w : Wood) (k : Str) : ∃ o, mir (n + 1) 1 [encWd w, .str k] = .ok o ∧ viewD o = rwsD (rowsOf w k) := by
  obtain ⟨o, h1, h2⟩ := rowsOf_fin w k
  refine ⟨o, ?_, h2⟩
  rw [mir_rows_of, run_rows_of]
  exact h1
theorem rowOf_ok (n : Nat) (w : Wood) (k nm : Str) : mir (n + 2) 2 [encWd w, .str k, .str nm] = .ok (.d (obD (brOf (rowsOf w k) nm))) := by
  rw [mir_row_of, run_row_of]
  exact rowOf_fin k nm (rows_ok n w k)
theorem isOf_ok (w : Wood) : ∀ (n : Nat) (u : Tr) (k : Str), levT u ≤ n → mir (n + 2) 3 [encWd w, .str k, encT u] = .ok (.d (.bool (isOf w u k)))
  | 0, .mk nm mk bs, k, h => by rw [levT] at h; omega
  | n + 1, .mk nm mk bs, k, h => by
    rw [levT] at h
    rw [show n + 1 + 2 = (n + 2) + 1 from rfl, mir_is_of, run_is_of]
    exact isOf_fin k nm mk bs (rowOf_ok n w k nm) fun b hb k' => isOf_ok w n b k' (levTs_le (by omega) b hb)
theorem look_ok (n : Nat) (t : Trn) (u : Tr) (k : Str) (h : levT u ≤ n) : mir (n + 3) 6 [encTn t, .str k, encT u] = if isOf t.wood u k = true then .ok (.d .none) else .ex "NoTree" := by
  rw [mir_look, run_look]
  exact look_fin k u (isOf_ok t.wood n u k h)
theorem above_ok (n : Nat) (u : Tr) : mir (n + 1) 7 [encT u] = .ok (.d (encT (aboveT u))) := by
  rw [mir_above, run_above]
  exact above_fin u
theorem markOf_ok (n : Nat) (nm : Str) (kp : Bool) (ad : Int) (ps : List Trm) (n2 : Str) (mk : Int) (bs : List Tr) : mir (n + 1) 8 [encM (.put nm kp ad ps), encT (.mk n2 mk bs)] = .ok (.d (.int (mkOf kp ad mk))) := by
  rw [mir_mark_of, run_mark_of]
  exact markOf_fin nm kp ad ps n2 mk bs
theorem modesOn_ok {B : Nat} (n : Nat) (hn : B ≤ n) (Ts : List Trm) (hl : Ts.length ≤ 1000) (h : ∀ T ∈ Ts, GoodM B T) (i : Int) : mir (n + 1) 9 [trsD Ts, .int i] = .ok (.l ((modesOn i Ts).map fun m => .d (.int m))) := by
  rw [mir_modes_on, run_modes_on]
  have a := callsMs_few (Ts := Ts) (B := 1000) fun T hT => (h T hT).few
  have b : Ts.length * 1000 ≤ 1000 * 1000 := Nat.mul_le_mul_right _ hl
  exact modesOn_fin i Ts (by omega) fun T hT => calls_ok n T (Nat.le_trans (h T hT).lev hn) (h T hT).ok (h T hT).few
theorem ruleOf_ok (n : Nat) {t : Trn} {k : Nat} {p : Str × List Trm} (hk : t.modes[k]? = some p) (nm : Str) (hl : p.2.length = (rowsOf t.wood p.1).length) : mir (n + 3) 5 [encTn t, .int (k : Nat), .str nm] = .ok (.d (ruleOf t.wood p nm)) := by
  rw [mir_rule_of, run_rule_of]
  refine ruleOf_fin hk nm hl ?_
  rw [mir_row_number, run_row_number]
  exact rowNumber_fin p.1 nm (rows_ok n t.wood p.1)
theorem measure_ok (t : Trn) (nm : Str) (mk : Int) (bs : List Tr) (BL : List D) : ∀ (n : Nat) (T : Trm), levM T ≤ n → (∀ c ∈ callsM T, ∃ ps, atI BL c.2 = some (.dict ps) ∧ getP ps (.int c.1) = some (mesD (madT t (.mk nm mk bs) (.call c.1 c.2)))) → mir n 10 [encM T, .list BL] = .ok (.d (mesD (madT t (.mk nm mk bs) T)))
  | 0, .call m b, h, _ => by rw [levM] at h; omega
  | 0, .put _ _ _ _, h, _ => by rw [levM] at h; omega
  | n + 1, .call m b, h, hc => by
    rw [mir_measure, run_measure]
    obtain ⟨ps, h1, h2⟩ := hc (m, b) (by rw [callsM]; exact List.mem_singleton.mpr rfl)
    exact measure_call h1 h2
  | n + 1, .put z kp ad ps, h, hc => by
    rw [mir_measure, run_measure]
    rw [levM] at h
    rw [madT_put]
    exact measure_put (.list BL) (madT t (.mk nm mk bs)) z (mkOf kp ad mk) fun p hp => measure_ok t nm mk bs BL n p (levMs_le (by omega) p hp) fun c hc' => hc c (by rw [callsM, callsMs_flat, List.mem_flatten]; exact ⟨_, List.mem_map.mpr ⟨p, hp, rfl⟩, hc'⟩)
section
variable {t : Trn} {B : Nat} (ok : SndT t B)
include ok
theorem below_ok : ∀ (N : Nat) (u : Tr) (Ts : List Trm) (ks : List Str), levT u + B + 3 ≤ N → Ts.length ≤ 1000 → (∀ T ∈ Ts, FitT t ks T ∧ GoodM B T) → ks.length ≤ 1000 → ks.length = (trBs u).length → isOfs t.wood (trBs u) ks = true → mir N 11 [encTn t, trsD Ts, encT u] = .ok (.l ((belL t Ts 0 (trBs u)).map Ow.d))
  | 0, _, _, _, h, _, _, _, _, _ => by omega
  | N + 1, .mk nm mk bs, Ts, ks, h, hT, hf, hk, hl, hi => by
    change ks.length = bs.length at hl
    change isOfs t.wood bs ks = true at hi
    show mir (N + 1) 11 [encTn t, trsD Ts, encT (.mk nm mk bs)] = .ok (.l ((belL t Ts 0 bs).map Ow.d))
    rw [mir_below_of, run_below_of]
    rw [levT] at h
    refine below_fin nm mk bs (by omega) fun i b hb => ?_
    have il : i < ks.length := by rw [hl]; exact (List.getElem?_eq_some_iff.mp hb).1
    have hki := List.getElem?_eq_getElem il
    have hbk := isOfs_at hi hb hki
    obtain ⟨ksb, b1, b2, b3⟩ := kind_br hbk
    have hm : ∀ m ∈ modesOn (i : Int) Ts, ∃ (k : Nat) (p : Str × List Trm), m = (k : Int) ∧ t.modes[k]? = some p ∧ p.1 = ks[i] := fun m hm => by
      obtain ⟨T, hT1, hc⟩ := (modesOn_mem _ _ _).mp hm
      obtain ⟨c1, c2, p, c3, c4⟩ := (hf T hT1).1 _ hc
      change 0 ≤ m at c1
      change t.modes[m.toNat]? = some p at c3
      change ks[((i : Nat) : Int).toNat]? = some p.1 at c4
      rw [Int.toNat_natCast, hki] at c4
      exact ⟨m.toNat, p, by omega, c3, (Option.some.inj c4).symm⟩
    have few : (modesOn (i : Int) Ts).length ≤ 1000 := by
      have := up_few (n := t.modes.length) (a := 0) (risen_up (onAll_nd (i := (i : Int)) (callsMs Ts) List.nodup_nil)) fun m hm' => by
        obtain ⟨k, p, rfl, k2, _⟩ := hm m hm'
        have := (List.getElem?_eq_some_iff.mp k2).1
        omega
      have f := ok.few
      have : (modesOn (i : Int) Ts).length ≤ t.modes.length - 0 := this
      omega
    have lb : levT b ≤ levTs bs := levTs_le (Nat.le_refl _) b (List.mem_of_getElem? hb)
    have rul : ∀ m ∈ modesOn (i : Int) Ts, FitT t ksb (ruleF t m (trNm b)) ∧ GoodM B (ruleF t m (trNm b)) := fun m hm' => by
      obtain ⟨k, p, rfl, k2, k3⟩ := hm m hm'
      obtain ⟨ks', r1, r2, r3, r4, r5, r6⟩ := rule_ex ok k2 (by rw [k3]; exact hbk)
      rw [k3, b1] at r6
      cases r6
      exact ⟨r4, r5⟩
    have rulL : ∀ T ∈ (modesOn (i : Int) Ts).map fun m => ruleF t m (trNm b), FitT t ksb T ∧ GoodM B T := fun T hT1 => by
      obtain ⟨m, hm', rfl⟩ := List.mem_map.mp hT1
      exact rul m hm'
    refine ⟨few, ?_, fun m hm' => ?_, ?_, fun m hm' => ?_⟩
    · obtain ⟨N', rfl⟩ : ∃ N', N = N' + 1 := ⟨N - 1, by omega⟩
      exact modesOn_ok N' (by omega) Ts hT (fun T hT1 => (hf T hT1).2) i
    · obtain ⟨k, p, rfl, k2, k3⟩ := hm m hm'
      obtain ⟨N', rfl⟩ : ∃ N', N = N' + 3 := ⟨N - 3, by omega⟩
      rw [ruleOf_ok N' k2 (trNm b) (ok.lens p (List.mem_of_getElem? k2))]
      obtain ⟨ks', r1, _⟩ := rule_ex ok k2 (by rw [k3]; exact hbk)
      rw [r1]
    · exact below_ok N b _ ksb (by omega) (by rw [List.length_map]; exact few) rulL (ok.wide _ _ _ b1) b2 b3
    · obtain ⟨nb, mb, cs⟩ := b
      refine measure_ok t nb mb cs _ N _ (by have := (rul m hm').2.lev; omega) fun c hc => ?_
      obtain ⟨d1, d2, q, d3, d4⟩ := (rul m hm').1 c hc
      obtain ⟨x, y⟩ := c
      change 0 ≤ y at d2
      change ksb[y.toNat]? = some q.1 at d4
      obtain ⟨j, rfl⟩ : ∃ j : Nat, y = (j : Int) := ⟨y.toNat, by omega⟩
      rw [Int.toNat_natCast] at d4
      have jl : j < cs.length := by
        have := (List.getElem?_eq_some_iff.mp d4).1
        change ksb.length = cs.length at b2
        omega
      have hj := List.getElem?_eq_getElem jl
      have bl := belL_at (t := t) (Ts := (modesOn (i : Int) Ts).map fun m => ruleF t m (trNm (.mk nb mb cs))) (j := 0) hj
      refine ⟨_, atI_natD bl, ?_⟩
      rw [madT_call hj]
      unfold prsB
      rw [Nat.zero_add]
      exact getP_in (V := fun m => mesD (madT t cs[j] (ruleF t m (trNm cs[j])))) ((modesOn_mem _ _ _).mpr ⟨_, List.mem_map.mpr ⟨m, hm', rfl⟩, hc⟩)
theorem measured_ok (N : Nat) (u : Tr) (T : Trm) (ks : List Str) (h : levT u + B + 4 ≤ N) (hf : FitT t ks T) (hg : GoodM B T) (hk : ks.length ≤ 1000) (hl : ks.length = (trBs u).length) (hi : isOfs t.wood (trBs u) ks = true) : mir N 12 [encTn t, encM T, encT u] = .ok (.d (mesD (madT t u T))) := by
  obtain ⟨N, rfl⟩ : ∃ N', N = N' + 1 := ⟨N - 1, by omega⟩
  have hb := below_ok ok N u [T] ks (by omega) (by simp) (fun U hU => by rw [List.mem_singleton.mp hU]; exact ⟨hf, hg⟩) hk hl hi
  obtain ⟨nm, mk, bs⟩ := u
  change ks.length = bs.length at hl
  change mir N 11 [encTn t, trsD [T], encT (.mk nm mk bs)] = .ok (.l ((belL t [T] 0 bs).map Ow.d)) at hb
  have hm := measure_ok t nm mk bs (belL t [T] 0 bs) N T (by have := hg.lev; omega) fun c hc => by
    obtain ⟨d1, d2, q, d3, d4⟩ := hf c hc
    obtain ⟨x, y⟩ := c
    change 0 ≤ y at d2
    change ks[y.toNat]? = some q.1 at d4
    obtain ⟨j, rfl⟩ : ∃ j : Nat, y = (j : Int) := ⟨y.toNat, by omega⟩
    rw [Int.toNat_natCast] at d4
    have jl : j < bs.length := by
      have := (List.getElem?_eq_some_iff.mp d4).1
      omega
    have hj := List.getElem?_eq_getElem jl
    have bl := belL_at (t := t) (Ts := [T]) (j := 0) hj
    refine ⟨_, atI_natD bl, ?_⟩
    rw [madT_call hj]
    unfold prsB
    rw [Nat.zero_add]
    exact getP_in (V := fun m => mesD (madT t bs[j] (ruleF t m (trNm bs[j])))) ((modesOn_mem _ _ _).mpr ⟨T, List.mem_singleton.mpr rfl, hc⟩)
  rw [mir_measured, run_measured]
  have t1 : trsD [T] = .list [encM T] := rfl
  have w := vw_ls (belL t [T] 0 bs)
  have w1 : viewD (.l [.d (encM T)]) = .list [encM T] := vw_ls [encM T]
  rw [t1] at hb
  have he : envOf 0 [encTn t, encM T, encT (.mk nm mk bs)] = [some (.d (encTn t)), some (.d (encM T)), some (.d (encT (.mk nm mk bs)))] := rfl
  rw [he]
  generalize Ow.l ((belL t [T] 0 bs).map Ow.d) = BO at hb w
  generalize PyData.list (belL t [T] 0 bs) = BL at hm w
  generalize mesD (madT t (.mk nm mk bs) T) = R at hm ⊢
  generalize encM T = TM at hb hm w1 ⊢
  generalize encT (.mk nm mk bs) = RD at hb ⊢
  generalize encTn t = TN at hb ⊢
  simp [hb, w, w1, hm, sizeLine_eq]
theorem made_ok : ∀ (N : Nat) (u : Tr) (T : Trm) (n j : Nat) (ks : List Str), levT u ≤ n → levM T ≤ j → n * (B + 1) + j + 3 ≤ N → FitT t ks T → okM T → ks.length = (trBs u).length → isOfs t.wood (trBs u) ks = true → mir N 18 [encTn t, encM T, encT u] = .ok (.d (encT (madT t u T)))
  | 0, _, _, _, _, _, _, _, h, _, _, _, _ => by omega
  | N + 1, .mk nm mk bs, .call m y, n, j, ks, hu, hT, h, hf, _, hl, hi => by
    rw [mir_made, run_made]
    rw [levT] at hu
    obtain ⟨n, rfl⟩ : ∃ n', n = n' + 1 := ⟨n - 1, by omega⟩
    rw [levM] at hT
    rw [Nat.add_mul, Nat.one_mul] at h
    obtain ⟨d1, d2, q, d3, d4⟩ := hf (m, y) (by rw [callsM]; exact List.mem_singleton.mpr rfl)
    change 0 ≤ m at d1
    change 0 ≤ y at d2
    change t.modes[m.toNat]? = some q at d3
    change ks[y.toNat]? = some q.1 at d4
    change ks.length = bs.length at hl
    change isOfs t.wood bs ks = true at hi
    obtain ⟨i, rfl⟩ : ∃ i : Nat, y = (i : Int) := ⟨y.toNat, by omega⟩
    obtain ⟨k, rfl⟩ : ∃ k : Nat, m = (k : Int) := ⟨m.toNat, by omega⟩
    rw [Int.toNat_natCast] at d3 d4
    have il : i < bs.length := by
      have := (List.getElem?_eq_some_iff.mp d4).1
      omega
    have hb := List.getElem?_eq_getElem il
    have hbk := isOfs_at hi hb d4
    obtain ⟨ksb, r1, r2, r3, r4, r5, r6⟩ := rule_ex ok d3 hbk
    rw [madT_call hb]
    have lb : levT bs[i] ≤ n := levTs_le (by omega) _ (List.getElem_mem il)
    have rcv := made_ok N bs[i] (ruleF t (k : Int) (trNm bs[i])) n B ksb lb r5.lev (by omega) r4 r5.ok r2 r3
    refine made_call hb ?_ rcv (.inl ⟨_, rfl⟩)
    obtain ⟨N', rfl⟩ : ∃ N', N = N' + 3 := ⟨N - 3, by omega⟩
    rw [ruleOf_ok N' d3 (trNm bs[i]) (ok.lens q (List.mem_of_getElem? d3)), r1]
  | N + 1, .mk nm mk bs, .put z kp ad ps, n, j, ks, hu, hT, h, hf, hok, hl, hi => by
    rw [mir_made, run_made, madT_put]
    rw [levM] at hT
    rw [okM, okMs_iff] at hok
    obtain ⟨j, rfl⟩ : ∃ j', j = j' + 1 := ⟨j - 1, by omega⟩
    refine made_put (madT t (.mk nm mk bs)) hok.2.1 ?_ fun p hp => made_ok N _ p n j ks hu (levMs_le (by omega) p hp) (by omega) (fit_put hf p hp) (hok.2.2 p hp) hl hi
    obtain ⟨N', rfl⟩ : ∃ N', N = N' + 1 := ⟨N - 1, by omega⟩
    exact markOf_ok N' z kp ad ps nm mk bs
/-- what made_within tells -/
def within (o : Tr) : R Ow := if sizeT o ≤ 400 ∧ levT o ≤ 60 then .ok (.d (encT o)) else .ex "TooGreat"
omit ok in
theorem within_is (o : Tr) : (∃ x, within o = .ok x) ∨ ∃ c, within o = .ex c := by
  unfold within
  split
  · exact .inl ⟨_, rfl⟩
  · exact .inr ⟨_, rfl⟩
theorem madeW_ok (N : Nat) (u : Tr) (T : Trm) (ks : List Str) (h : levT u * (B + 1) + B + 6 ≤ N) (hf : FitT t ks T) (hg : GoodM B T) (hk : ks.length ≤ 1000) (hl : ks.length = (trBs u).length) (hi : isOfs t.wood (trBs u) ks = true) : mir N 19 [encTn t, encM T, encT u] = within (madT t u T) := by
  obtain ⟨N, rfl⟩ : ∃ N', N = N' + 1 := ⟨N - 1, by omega⟩
  rw [mir_made_within, run_made_within]
  have lb : levT u * 1 ≤ levT u * (B + 1) := Nat.mul_le_mul_left _ (by omega)
  exact madeW_fin (measured_ok ok N u T ks (by omega) hf hg hk hl hi) fun _ => made_ok ok N u T (levT u) B ks (Nat.le_refl _) hg.lev (by omega) hf hg.ok hl hi
theorem turned_ok (N : Nat) (u : Tr) {p0 : Str × List Rw} (hp : t.wood[0]? = some p0) (h : (levT u + 1) * (B + 1) + B + 7 ≤ N) (hf : FitT t [p0.1] t.start) (hg : GoodM B t.start) : mir N 20 [encTn t, encT u] = if isOf t.wood u p0.1 = true then within (madT t (aboveT u) t.start) else .ex "NoTree" := by
  obtain ⟨N, rfl⟩ : ∃ N', N = N' + 1 := ⟨N - 1, by omega⟩
  rw [mir_turned, run_turned]
  have lb : (levT u + 1) * 1 ≤ (levT u + 1) * (B + 1) := Nat.mul_le_mul_left _ (by omega)
  have la : levT (aboveT u) = levT u + 1 := by unfold aboveT; rw [levT, levTs, levTs]; omega
  refine turned_fin hp ?_ ?_ (fun c => madeW_ok ok N (aboveT u) t.start [p0.1] (by rw [la]; omega) hf hg (by simp) rfl (by
    show isOfs t.wood [u] [p0.1] = true
    rw [isOfs, c, isOfs]; rfl)) (within_is _)
  · obtain ⟨N', rfl⟩ : ∃ N', N = N' + 3 := ⟨N - 3, by omega⟩
    exact look_ok N' t u p0.1 (by omega)
  · obtain ⟨N', rfl⟩ : ∃ N', N = N' + 1 := ⟨N - 1, by omega⟩
    exact above_ok N' u
theorem turnedIn_ok (N : Nat) (u : Tr) {m : Nat} {p : Str × List Trm} (hp : t.modes[m]? = some p) (h : (levT u + 1) * (B + 1) + B + 7 ≤ N) (hB : 1 ≤ B) : mir N 21 [encTn t, .int (m : Nat), encT u] = if isOf t.wood u p.1 = true then within (madT t u (ruleF t (m : Nat) (trNm u))) else .ex "NoTree" := by
  obtain ⟨N, rfl⟩ : ∃ N', N = N' + 1 := ⟨N - 1, by omega⟩
  rw [mir_turned_in, run_turned_in]
  have lb : (levT u + 1) * 1 ≤ (levT u + 1) * (B + 1) := Nat.mul_le_mul_left _ (by omega)
  have la : levT (aboveT u) = levT u + 1 := by unfold aboveT; rw [levT, levTs, levTs]; omega
  have me : madT t (aboveT u) (.call (m : Nat) 0) = madT t u (ruleF t (m : Nat) (trNm u)) := madT_call (i := 0) rfl
  rw [← me]
  refine turnedIn_fin hp ?_ ?_ (fun c => madeW_ok ok N (aboveT u) (.call (m : Nat) 0) [p.1] (by rw [la]; omega) (fun c hc => by
      rw [callsM] at hc
      rw [List.mem_singleton.mp hc]
      exact ⟨by show (0 : Int) ≤ (m : Nat); omega, Int.le_refl _, p, by rw [Int.toNat_natCast]; exact hp, rfl⟩) ⟨call_okM _ _, by rw [levM]; exact hB, by rw [sizeM]; omega⟩ (by simp) rfl (by
    show isOfs t.wood [u] [p.1] = true
    rw [isOfs, c, isOfs]; rfl)) (within_is _)
  · obtain ⟨N', rfl⟩ : ∃ N', N = N' + 3 := ⟨N - 3, by omega⟩
    exact look_ok N' t u p.1 (by omega)
  · obtain ⟨N', rfl⟩ : ∃ N', N = N' + 1 := ⟨N - 1, by omega⟩
    exact above_ok N' u
end
section
variable {t : Trn} {B : Nat} (ok : SndT t B)
include ok
theorem many_ok (N : Nat) (u : Tr) {p0 : Str × List Rw} (hp : t.wood[0]? = some p0) (h : levT u + B + 7 ≤ N) (hf : FitT t [p0.1] t.start) (hg : GoodM B t.start) (hi : isOf t.wood u p0.1 = true) : mir N 13 [encTn t, encT u] = .ok (.d (.int (sizeT (madT t (aboveT u) t.start) : Nat))) ∧ mir N 14 [encTn t, encT u] = .ok (.d (.int (levT (madT t (aboveT u) t.start) : Nat))) := by
  obtain ⟨N, rfl⟩ : ∃ N', N = N' + 1 := ⟨N - 1, by omega⟩
  rw [mir_many, run_many, mir_tall, run_tall]
  have la : levT (aboveT u) = levT u + 1 := by unfold aboveT; rw [levT, levTs, levTs]; omega
  have h6 : mir N 6 [encTn t, .str p0.1, encT u] = .ok (.d .none) := by
    obtain ⟨N', rfl⟩ : ∃ N', N = N' + 3 := ⟨N - 3, by omega⟩
    rw [look_ok N' t u p0.1 (by omega), if_pos hi]
  have h7 : mir N 7 [encT u] = .ok (.d (encT (aboveT u))) := by
    obtain ⟨N', rfl⟩ : ∃ N', N = N' + 1 := ⟨N - 1, by omega⟩
    exact above_ok N' u
  have h12 := measured_ok ok N (aboveT u) t.start [p0.1] (by rw [la]; omega) hf hg (by simp) rfl (by
    show isOfs t.wood [u] [p0.1] = true
    rw [isOfs, hi, isOfs]; rfl)
  exact many_fin hp h6 h7 h12
theorem settles_ok (n L : Nat) (hL : L < 1000000) : Settles t B L (mir (n + 4) 15) := by
  refine settles_fin ok hL (f5 := mir (n + 3) 5) (fun k p hk nm => ruleOf_ok n hk nm (ok.lens p (List.mem_of_getElem? hk))) fun ds => ?_
  rw [mir_settled, run_settled]
theorem seenFrom_ok (n : Nat) (u : Tr) (T : Trm) (ks : List Str) (p : List Int) (hu : levT u < 1000000) (hf : FitT t ks T) (hg : GoodM B T) (hk : KidsOk t.wood ks u) : mir (n + 5) 16 [encTn t, encM T, encT u, .tuple (p.map PyData.int)] = .ok (.d (labD (atT (madT t u T) p))) := by
  rw [mir_seen_from, run_seen_from]
  exact seenFrom_fin (settles_ok ok n (levT u) hu) (fun nm kp ad ps n2 mk bs => markOf_ok (n + 3) nm kp ad ps n2 mk bs) u T ks p (Nat.le_refl _) hf hg hk
theorem seen_ok (N : Nat) (u : Tr) (p : List Int) {p0 : Str × List Rw} (hp : t.wood[0]? = some p0) (h : levT u + 6 ≤ N) (hN : N ≤ 100000) (hf : FitT t [p0.1] t.start) (hg : GoodM B t.start) (hi : isOf t.wood u p0.1 = true) : mir N 17 [encTn t, encT u, .tuple (p.map PyData.int)] = .ok (.d (labD (atT (madT t (aboveT u) t.start) p))) := by
  obtain ⟨N, rfl⟩ : ∃ N', N = N' + 1 := ⟨N - 1, by omega⟩
  rw [mir_seen, run_seen]
  have la : levT (aboveT u) = levT u + 1 := by unfold aboveT; rw [levT, levTs, levTs]; omega
  refine seen_fin hp ?_ ?_ ?_
  · obtain ⟨N', rfl⟩ : ∃ N', N = N' + 3 := ⟨N - 3, by omega⟩
    rw [look_ok N' t u p0.1 (by omega), if_pos hi]
  · obtain ⟨N', rfl⟩ : ∃ N', N = N' + 1 := ⟨N - 1, by omega⟩
    exact above_ok N' u
  · obtain ⟨N', rfl⟩ : ∃ N', N = N' + 5 := ⟨N - 5, by omega⟩
    exact seenFrom_ok ok N' (aboveT u) t.start [p0.1] p (by omega) hf hg ⟨rfl, by
      show isOfs t.wood [u] [p0.1] = true
      rw [isOfs, hi, isOfs]; rfl⟩
end
end G
set_option Elab.async false
set_option linter.all false
set_option maxRecDepth 100000
set_option maxHeartbeats 4000000
namespace G
open PySem PySem.Spec L2 Mir
theorem cell_ok (n : Nat) (ns : List Int) (k : Nat) : mir (n + 1) 22 [scD ns, .int (k : Nat)] = .ok (.d (.int (scCell ns k))) := by
  rw [mir__law_cell_at, run__law_cell_at]
  exact cell_fin ns k
theorem mixed_ok (n : Nat) (c : Int) (j : Nat) (hj : j ≤ 1000) : mir (n + 1) 23 [.int c, .int (j : Nat)] = .ok (.d (.int (mixI c (j : Nat)))) := by
  rw [mir__law_mixed, run__law_mixed]
  exact mixed_fin c j hj
theorem names_ok (n : Nat) (c : Int) : ∃ ls, Names8 ls ∧ mir (n + 2) 24 [.int c] = .ok (nmO ls) := by
  obtain ⟨ls, a, b⟩ := names_fin c fun j hj => mixed_ok n c j (by omega)
  refine ⟨ls, a, ?_⟩
  rw [mir__law_names, run__law_names]
  exact b
theorem great_ok (n : Nat) (z : Int) : mir (n + 1) 25 [.int z] = .ok (.d (.int (greatI z))) := by
  rw [mir__law_great, run__law_great]
  exact great_fin z
theorem whole_ok (n : Nat) (z : Int) : mir (n + 1) 26 [.int z] = .ok (.d (.bool true)) := by
  rw [mir__law_whole, run__law_whole]
  exact whole_fin z
end G
set_option Elab.async false
set_option linter.all false
set_option maxRecDepth 100000
set_option maxHeartbeats 4000000
namespace G
open PySem PySem.Spec L2 Mir
noncomputable section
theorem enc_wide (nm : Str) (A : Int) (c : Nat) (inner : List Trm) : encM (wideT nm A c inner) = .tuple [.str "put", .str nm, .bool false, .int A, .tuple (List.replicate c (encM (leafT nm)) ++ inner.map encM)] := by
  unfold wideT
  rw [encM_put, List.map_append, List.map_replicate]
theorem enc_leaf (nm : Str) : encM (leafT nm) = .tuple [.str "put", .str nm, .bool true, .int 0, .tuple []] := by
  unfold leafT
  rw [encM_put]
  rfl
theorem wide_ok (n : Nat) (nm : Str) (A : Int) (c : Nat) (hc : c ≤ 900) (inner : List Trm) (hi : inner.length ≤ 1) : mir (n + 1) 27 [.str nm, .int A, .int (c : Nat), .tuple (inner.map encM)] = .ok (.d (encM (wideT nm A c inner))) := by
  rw [mir__law_wide, run__law_wide, show envOf 1 [.str nm, .int A, .int (c : Nat), .tuple (inner.map encM)] = [some (.d (.str nm)), some (.d (.int A)), some (.d (.int (c : Nat))), some (.d (.tuple (inner.map encM))), none] from rfl, enc_wide]
  have rg := rg1_nat c (by omega)
  have lc : eLc (eB (aCons (eVar 2) aNil) rg1) (gtName 4) cYes (eM (eTup (aCons (eC (.str "put")) (aCons (eVar 0) (aCons (eC (.bool true)) (aCons (eC (.int 0)) (aCons (eTup aNil) aNil)))))) Ow.d) [4] [some (.d (.str nm)), some (.d (.int A)), some (.d (.int (c : Nat))), some (.d (.tuple (inner.map encM))), none] = .ok (.l ((List.replicate c (encM (leafT nm))).map Ow.d)) := by
    refine eLc_of (ds := rangeD 0 c) (by
      generalize PyData.tuple (inner.map encM) = IN
      simp [rg]) (by unfold rangeD; rw [List.length_map, List.length_range, sizeLine_eq]; omega) ?_
    rw [lcR_all (g := gtName 4) (c := cYes) (e := eM (eTup (aCons (eC (.str "put")) (aCons (eVar 0) (aCons (eC (.bool true)) (aCons (eC (.int 0)) (aCons (eTup aNil) aNil)))))) Ow.d) (fun _ => .d (encM (leafT nm))) (rangeD 0 c) fun d hd => ⟨[some (.d (.str nm)), some (.d (.int A)), some (.d (.int (c : Nat))), some (.d (.tuple (inner.map encM))), some (.d d)], by simp [wipeE], rfl, by
      rw [enc_leaf]
      generalize PyData.tuple (inner.map encM) = IN
      simp [sizeLine_eq]⟩]
    congr 1
    rw [List.map_replicate]
    exact List.eq_replicate_iff.mpr ⟨by simp [rangeD], fun b hb => by
      obtain ⟨_, _, rfl⟩ := List.mem_map.mp hb
      rfl⟩
  have sh : shD (.l ((List.replicate c (encM (leafT nm))).map Ow.d)) = .ok (.list (List.replicate c (encM (leafT nm)))) := shD_l _
  have gt : gTuple [.list (List.replicate c (encM (leafT nm)))] = some (.d (.tuple (List.replicate c (encM (leafT nm))))) := rfl
  have ga : gAdd (.tuple (List.replicate c (encM (leafT nm)))) (.tuple (inner.map encM)) = some (.d (.tuple (List.replicate c (encM (leafT nm)) ++ inner.map encM))) := gAdd_tup (by rw [List.length_replicate, List.length_map, sizeLine_eq]; omega)
  rw [show (List.map (·.2) ([("_law_k", 4)] : List (Str × Nat))) = [4] from rfl]
  generalize Ow.l ((List.replicate c (encM (leafT nm))).map Ow.d) = OL at lc sh
  generalize (List.replicate c (encM (leafT nm)) ++ inner.map encM) = TT at ga ⊢
  generalize PyData.tuple (inner.map encM) = IN at lc ga ⊢
  generalize PyData.list (List.replicate c (encM (leafT nm))) = LL at sh gt
  generalize PyData.tuple (List.replicate c (encM (leafT nm))) = T2 at gt ga
  simp [lc, sh, gt, ga, sizeLine_eq]
theorem deep_ok (n : Nat) (nm : Str) (A : Int) (c : Nat) (hc : c ≤ 900) (inner : List Trm) : mir (n + 1) 28 [.str nm, .int A, .int (c : Nat), .tuple (inner.map encM)] = .ok (.d (encM (deepT nm A inner c))) := by
  rw [mir__law_deep, run__law_deep, show envOf 2 [.str nm, .int A, .int (c : Nat), .tuple (inner.map encM)] = [some (.d (.str nm)), some (.d (.int A)), some (.d (.int (c : Nat))), some (.d (.tuple (inner.map encM))), none, none] from rfl]
  have e0 : encM (deepT nm A inner 0) = .tuple [.str "put", .str nm, .bool true, .int A, .tuple (inner.map encM)] := by rw [deepT, encM_put]
  refine fin_step (env1 := [some (.d (.str nm)), some (.d (.int A)), some (.d (.int (c : Nat))), some (.d (.tuple (inner.map encM))), some (.d (encM (deepT nm A inner 0))), none]) (by
    rw [e0]
    generalize PyData.tuple (inner.map encM) = IN
    simp [sizeLine_eq]) ?_
  generalize PyData.tuple (inner.map encM) = IN
  have key := forL_ind (g := gtName 5) (f := sSet 4 (eM (eTup (aCons (eC (.str "put")) (aCons (eVar 0) (aCons (eBin gEq (eBin gMod (eVar 5) (eC (.int 2))) (eC (.int 0))) (aCons (eVar 1) (aCons (eTup (aCons (eVar 4) aNil)) aNil)))))) Ow.d)) (rangeD 0 c)
    (fun i env => ∃ x5, env = [some (.d (.str nm)), some (.d (.int A)), some (.d (.int (c : Nat))), some (.d IN), some (.d (encM (deepT nm A inner i))), x5]) (fun i d env hi ⟨x5, he⟩ => by
      subst he
      obtain ⟨hil, rfl⟩ := rangeD_at hi
      refine ⟨_, rfl, [some (.d (.str nm)), some (.d (.int A)), some (.d (.int (c : Nat))), some (.d IN), some (.d (encM (deepT nm A inner (i + 1)))), some (.d (.int (0 + (i : Nat))))], .inl ?_, _, rfl⟩
      have e1 : encM (deepT nm A inner (i + 1)) = .tuple [.str "put", .str nm, .bool (i % 2 == 0), .int A, .tuple [encM (deepT nm A inner i)]] := by
        rw [deepT, encM_put]
        rfl
      rw [e1]
      generalize encM (deepT nm A inner i) = EI
      have m2 : gMod (.int (0 + (i : Int))) (.int 2) = some (.int ((i % 2 : Nat) : Int)) := (gMod_int (by decide)).trans (by congr 2; omega)
      have q : gEq (.int ((i % 2 : Nat) : Int)) (.int 0) = some (.bool (i % 2 == 0)) := by
        show some (PyData.bool (decide (((i % 2 : Nat) : Int) = 0))) = _
        congr 2
        by_cases c : i % 2 = 0
        · rw [c]; rfl
        · have c' : ¬ ((i % 2 : Nat) : Int) = 0 := by omega
          rw [decide_eq_false c']
          exact (beq_eq_false_iff_ne.mpr c).symm
      simp only [Int.zero_add] at m2
      generalize ((i % 2 : Nat) : Int) = r at m2 q
      simp [m2, q, sizeLine_eq]) _ ⟨none, rfl⟩
  obtain ⟨env', e1, x5, e2⟩ := key
  subst e2
  have hlen : (rangeD 0 c).length = c := by simp [rangeD]
  rw [hlen] at e1
  have rg := rg1_nat c (by omega)
  refine fin_step (env1 := _) (by
    rw [sFor_eq]
    have : (eB (aCons (eVar 2) aNil) rg1) [some (.d (.str nm)), some (.d (.int A)), some (.d (.int (c : Nat))), some (.d IN), some (.d (encM (deepT nm A inner 0))), none] = .ok (rangeD 0 c) := by
      generalize encM (deepT nm A inner 0) = E0
      simp [rg]
    rw [this, R.st_ok]
    exact e1) ?_
  generalize encM (deepT nm A inner c) = EC
  simp
theorem kept_ok (n : Nat) (nm : Str) (kp : Bool) (ad : Int) (ps : List Trm) (mk : Int) (hm : mk.natAbs < 2 ^ 250) : mir (n + 1) 29 [encM (.put nm kp ad ps), .int mk] = .ok (.d (.int (mkOf kp ad mk))) := by
  rw [mir__law_kept, run__law_kept, show envOf 0 [encM (.put nm kp ad ps), .int mk] = [some (.d (encM (.put nm kp ad ps))), some (.d (.int mk))] from rfl]
  have i2 := m_ix2 nm kp ad ps
  have i3 := m_ix3 nm kp ad ps
  generalize encM (.put nm kp ad ps) = T at i2 i3
  have g0 : gInt [.bool kp] = some (.d (.int (if kp then 1 else 0))) := rfl
  have gm : gMul (.int mk) (.int (if kp then 1 else 0)) = some (.int (mk * (if kp then 1 else 0))) := gMul_small hm (by cases kp <;> decide)
  unfold mkOf
  cases kp
  · simp at gm g0
    simp [i2, i3, g0, gm]
  · simp at gm g0
    simp [i2, i3, g0, gm]
theorem lawPut_ok {mk : Int} (hm : mk.natAbs < 2 ^ 250) (b : Tr) (BD : D) : ∀ (n : Nat) (T : Trm), levM T ≤ n → okM T → (callsM T = [] ∨ BD = encT b) → mir (n + 1) 30 [encM T, .int mk, BD] = .ok (.d (encT (putL mk b T)))
  | 0, .call m i, h, _, _ => by rw [levM] at h; omega
  | 0, .put nm kp ad ps, h, _, _ => by rw [levM] at h; omega
  | n + 1, .call m i, h, ok, hb => by
    have hb : BD = encT b := by
      rcases hb with hb | hb
      · rw [callsM] at hb; cases hb
      · exact hb
    rw [mir__law_put, run__law_put, putL, ← hb, show envOf 2 [encM (.call m i), .int mk, BD] = [some (.d (encM (.call m i))), some (.d (.int mk)), some (.d BD), none, none] from rfl, encM_call]
    have i0 : gIx (.tuple [.str "call", .int m, .int i]) (.int 0) = some (.str "call") := rfl
    have q : gEq (.str "call") (.str "call") = some (.bool true) := by rw [gEq_str, beq_self_eq_true]
    generalize PyData.tuple [.str "call", .int m, .int i] = T at i0
    simp [i0, q, finR]
  | n + 1, .put nm kp ad ps, h, ok, hb => by
    rw [levM] at h
    rw [okM, okMs_iff] at ok
    have kids : ∀ p ∈ ps, mir (n + 1) 30 [encM p, .int mk, BD] = .ok (.d (encT (putL mk b p))) := fun p hp => lawPut_ok hm b BD n p (levMs_le (by omega) p hp) (ok.2.2 p hp) (by
      rcases hb with hb | hb
      · left
        rw [callsM, callsMs_flat] at hb
        cases hc : callsM p with
        | nil => rfl
        | cons x y =>
          have : x ∈ (ps.map callsM).flatten := List.mem_flatten.mpr ⟨_, List.mem_map.mpr ⟨p, hp, rfl⟩, by rw [hc]; exact List.mem_cons_self⟩
          rw [hb] at this
          cases this
      · exact .inr hb)
    rw [mir__law_put, run__law_put, putL_put, show envOf 2 [encM (.put nm kp ad ps), .int mk, BD] = [some (.d (encM (.put nm kp ad ps))), some (.d (.int mk)), some (.d BD), none, none] from rfl]
    have kd := kept_ok n nm kp ad ps mk hm
    have i0 : gIx (encM (.put nm kp ad ps)) (.int 0) = some (.str "put") := by rw [encM_put]; rfl
    have i1 : gIx (encM (.put nm kp ad ps)) (.int 1) = some (.str nm) := by rw [encM_put]; rfl
    have i4 : gIx (encM (.put nm kp ad ps)) (.int 4) = some (.tuple (ps.map encM)) := by rw [encM_put]; rfl
    have q : gEq (.str "put") (.str "call") = some (.bool false) := by rw [gEq_str]; congr 2
    rw [encT_mk, List.map_map]
    have lc : eLc (eB (eBin gIx (eVar 0) (eC (.int 4))) itD) (gtName 4) cYes (eB (aCons (eVar 4) (aCons (eVar 1) (aCons (eVar 2) aNil))) (mir (n + 1) 30)) [4] [some (.d (encM (.put nm kp ad ps))), some (.d (.int mk)), some (.d BD), none, none] = .ok (.l ((ps.map fun p => encT (putL mk b p)).map Ow.d)) := by
      refine eLc_of (ds := ps.map encM) (by
        generalize encM (.put nm kp ad ps) = T at i4
        simp [i4]) (by rw [List.length_map, sizeLine_eq]; omega) ?_
      rw [List.map_map]
      refine lcR_map encM (fun p => Ow.d (encT (putL mk b p))) ps fun p hp => ?_
      have k0 := kids p hp
      refine ⟨[some (.d (encM (.put nm kp ad ps))), some (.d (.int mk)), some (.d BD), none, some (.d (encM p))], by simp [wipeE], rfl, ?_⟩
      generalize encM (.put nm kp ad ps) = T
      generalize encM p = EP at k0 ⊢
      simp [k0]
    have vw := vw_ls (ps.map fun p => encT (putL mk b p))
    have gt : gTuple [.list (ps.map fun p => encT (putL mk b p))] = some (.d (.tuple (ps.map fun p => encT (putL mk b p)))) := rfl
    rw [show (List.map (·.2) ([("_law_part", 4)] : List (Str × Nat))) = [4] from rfl]
    show finR _ = R.ok (Ow.d (.tuple [.str nm, .int (mkOf kp ad mk), .tuple (ps.map fun p => encT (putL mk b p))]))
    generalize (ps.map fun p => encT (putL mk b p)) = ES at lc vw gt ⊢
    generalize encM (.put nm kp ad ps) = T at i0 i1 i4 kd lc
    generalize Ow.l (ES.map Ow.d) = OL at lc vw
    generalize PyData.list ES = LE at vw gt
    generalize PyData.tuple ES = TE at gt ⊢
    refine fin_step (env1 := [some (.d T), some (.d (.int mk)), some (.d BD), none, none]) (by simp [i0, q]) ?_
    refine fin_step (env1 := [some (.d T), some (.d (.int mk)), some (.d BD), some (.d LE), none]) (by rw [sSet_eq, eM_eq, eM_eq, lc, R.map_ok, R.map_ok, R.st_ok, vw]; rfl) ?_
    simp [i1, kd, gt, sizeLine_eq, finR]
end
end G
set_option Elab.async false
set_option linter.all false
set_option maxRecDepth 100000
set_option maxHeartbeats 4000000
namespace G
open PySem PySem.Spec L2 Mir
noncomputable section
def prT (u : Tr) : D := .tuple [encT u, encT u]
def todoO (us : List Tr) : Ow := .l ((us.map prT).map Ow.d)
def todoD (us : List Tr) : D := .list (us.map prT)
theorem view_todo (us : List Tr) : viewD (todoO us) = todoD us := vw_ls (us.map prT)
theorem nice_todo {us : List Tr} (h : ∀ u ∈ us, okT u ∧ levT u ≤ 60) : Nice (todoD us) := by
  refine nice_list (n := 125) (fun d hd => ?_) (by omega)
  obtain ⟨u, hu, rfl⟩ := List.mem_map.mp hd
  obtain ⟨a, b⟩ := h u hu
  have c := can_encT u a
  have e := depth_encT u
  refine ⟨by simp [prT, PyData.canLay0, PyData.canLayAll0, c], ?_⟩
  simp [prT, PyData.depth, PyData.depthAll]
  omega
theorem sizeTs_ge {us : List Tr} : us.length ≤ sizeTs us := by
  induction us with
  | nil => simp
  | cons u us ih =>
    rw [List.length_cons, sizeTs]
    obtain ⟨nm, k, bs⟩ := u
    rw [sizeT]
    omega
abbrev wkW : Ev → R Bool := (eB (eBin gNe (eM (eVarO 2) viewD) (eM (eLst aNil) viewD)) asB)
abbrev wkB (m : Nat → List PyData → R Ow) : Ev → SR := (sSeq (sXAsg (gtTup 2 (gtCons (gtName 3) (gtCons (gtName 4) gtNil))) (xPop 2))
    (sSeq (sIf (tOrE (tNotE (eB (eB (eVar 3) (gIsi "tuple")) asB)) (tOrE (eB (eBin gNe (eM (eCa gLen (aCons (eVar 3) aNil)) viewD) (eC (.int 3))) asB) (tNotE (eB (eB (eBin gIx (eVar 3) (eC (.int 0))) (gIsi "str")) asB))))
    (sRet (eM (eC (.bool false)) Ow.d))
    sSkip)
    (sSeq (sIf (tOrE (tNotE (eB (eM (eB (aCons (eBin gIx (eVar 3) (eC (.int 1))) aNil) (m 26)) viewD) asB)) (tOrE (eB (eBin gNe (eM (eSl (eVar 3) oNone (eB (eC (.int 2)) asI)) viewD) (eM (eSl (eVar 4) oNone (eB (eC (.int 2)) asI)) viewD)) asB) (tNotE (eB (eB (eBin gIx (eVar 3) (eC (.int 2))) (gIsi "tuple")) asB))))
    (sRet (eM (eC (.bool false)) Ow.d))
    sSkip)
    (sSeq (sIf (eB (eBin gNe (eM (eCa gLen (aCons (eBin gIx (eVar 3) (eC (.int 2))) aNil)) viewD) (eM (eCa gLen (aCons (eBin gIx (eVar 4) (eC (.int 2))) aNil)) viewD)) asB)
    (sRet (eM (eC (.bool false)) Ow.d))
    sSkip)
    (sExt 2 (eB (eListZip (aCons (eBin gIx (eVar 3) (eC (.int 2))) (aCons (eBin gIx (eVar 4) (eC (.int 2))) aNil))) shD))))))
theorem walk_turn (n : Nat) (X Y : D) (us : List Tr) (nm : Str) (k : Int) (bs : List Tr) (hz : PyData.strOk nm = true) (hl : us.length + bs.length ≤ 100000) (x3 x4 : Option Ow) :
    ∃ y3 y4, wkB (mir (n + 1)) [some (.d X), some (.d Y), some (todoO (us ++ [.mk nm k bs])), x3, x4] = .nx [some (.d X), some (.d Y), some (todoO (us ++ bs)), y3, y4] := by
  refine ⟨some (.d (encT (.mk nm k bs))), some (.d (encT (.mk nm k bs))), ?_⟩
  have i0 := t_ix0 nm k bs
  have i1 := t_ix1 nm k bs
  have i2 := t_ix2 nm k bs
  have is : gIsi "tuple" (encT (.mk nm k bs)) = .ok (.bool true) := by rw [encT_mk]; exact gIsi_tup_tup _
  have is2 : gIsi "tuple" (.tuple (bs.map encT)) = .ok (.bool true) := gIsi_tup_tup _
  have is0 : gIsi "str" (.str nm) = .ok (.bool true) := by rfl
  have l3 : gLen [encT (.mk nm k bs)] = some (.d (.int 3)) := by rw [encT_mk]; rfl
  have l2 := tup_len (bs.map encT)
  have wh := whole_ok n k
  have zp : zpArg [.tuple (bs.map encT), .tuple (bs.map encT)] = .ok (bs.map prT) := by
    have : zpArg [.tuple (bs.map encT), .tuple (bs.map encT)] = .ok (zipD (bs.map encT) (bs.map encT)) := rfl
    rw [this, zipD_same]
    rfl
  have sl : gSl (encT (.mk nm k bs)) none (some 2) = some (.d (.tuple [.str nm, .int k])) := by rw [encT_mk]; rfl
  have ns : Nice (.tuple [.str nm, .int k]) := by
    refine ⟨by simp [PyData.canLay0, PyData.canLayAll0, hz], ?_⟩
    simp [PyData.depth, PyData.depthAll]
  have ne := gNe_self ns
  have nl : gNe (.int ((bs.map encT).length : Nat)) (.int ((bs.map encT).length : Nat)) = some (.bool false) := gNe_self ⟨by simp [PyData.canLay0], by simp [PyData.depth]⟩
  have sh : shD (ownL1 (bs.map prT)) = .ok (.list (bs.map prT)) := shD_l _
  have e0 : todoO (us ++ [.mk nm k bs]) = .l ((us.map prT ++ [prT (.mk nm k bs)]).map Ow.d) := by unfold todoO; rw [List.map_append]; rfl
  have pop : xPop 2 [some (.d X), some (.d Y), some (todoO (us ++ [.mk nm k bs])), x3, x4] = .ok (prT (.mk nm k bs), [some (.d X), some (.d Y), some (todoO us), x3, x4]) := by
    rw [xPop_of (i := 2) (dk := us.map prT) (d := prT (.mk nm k bs)) (by rw [← e0]; rfl)]
    rfl
  refine seq_nx (env1 := [some (.d X), some (.d Y), some (todoO us), some (.d (encT (.mk nm k bs))), some (.d (encT (.mk nm k bs)))]) (by
    rw [sXAsg_eq, pop]
    unfold prT
    generalize todoO us = TO
    generalize encT (.mk nm k bs) = E
    simp) ?_
  refine seq_nx (env1 := [some (.d X), some (.d Y), some (todoO us), some (.d (encT (.mk nm k bs))), some (.d (encT (.mk nm k bs)))]) (by
    generalize todoO us = TO
    generalize encT (.mk nm k bs) = E at i0 is l3 ⊢
    simp [is, l3, i0, is0]) ?_
  refine seq_nx (env1 := [some (.d X), some (.d Y), some (todoO us), some (.d (encT (.mk nm k bs))), some (.d (encT (.mk nm k bs)))]) (by
    generalize todoO us = TO
    generalize encT (.mk nm k bs) = E at i1 i2 sl ⊢
    generalize PyData.tuple (bs.map encT) = TB at i2 is2
    generalize PyData.tuple [.str nm, .int k] = TP at sl ne
    simp [i1, wh, sl, ne, i2, is2]) ?_
  refine seq_nx (env1 := [some (.d X), some (.d Y), some (todoO us), some (.d (encT (.mk nm k bs))), some (.d (encT (.mk nm k bs)))]) (by
    generalize todoO us = TO
    generalize encT (.mk nm k bs) = E at i2 ⊢
    generalize PyData.tuple (bs.map encT) = TB at i2 l2
    generalize (((bs.map encT).length : Nat) : Int) = L at l2 nl
    simp [i2, l2, nl]) ?_
  have e1 : todoO (us ++ bs) = .l ((us.map prT).map Ow.d ++ (bs.map prT).map Ow.d) := by unfold todoO; rw [List.map_append, List.map_append]
  rw [e1]
  have ll : ((us.map prT).map Ow.d).length + (bs.map prT).length ≤ 16777216 := by simp; omega
  unfold todoO
  generalize encT (.mk nm k bs) = E at i2 ⊢
  generalize PyData.tuple (bs.map encT) = TB at i2 zp
  generalize (us.map prT).map Ow.d = OS at ll ⊢
  generalize (bs.map prT) = PS at zp sh ll ⊢
  simp [i2, zp, sh, sizeLine_eq, ll]
theorem walk_loop (n : Nat) (X Y : D) : ∀ (z : Nat) (us : List Tr) (k : Nat) (x3 x4 : Option Ow), sizeTs us ≤ z → z < k → z ≤ 50000 → (∀ u ∈ us, okT u ∧ levT u ≤ 60) → ∃ y2 y3 y4, whileN wkW (wkB (mir (n + 1))) k [some (.d X), some (.d Y), some (todoO us), x3, x4] = .nx [some (.d X), some (.d Y), y2, y3, y4]
  | z, us, 0, x3, x4, _, h, _, _ => by omega
  | z, us, k + 1, x3, x4, hs, hk, hz, hu => by
    have ne := Mir.ne_nil (nice_todo hu)
    have vw := view_todo us
    have v0 : viewD (.l []) = .list [] := by simp
    rcases List.eq_nil_or_concat us with e | ⟨vs, u, e⟩
    · subst e
      refine ⟨some (todoO []), x3, x4, ?_⟩
      have cw : wkW [some (.d X), some (.d Y), some (todoO []), x3, x4] = .ok false := by
        have ne' : gNe (todoD []) (.list []) = some (.bool false) := ne
        generalize todoO [] = TO at vw ⊢
        generalize todoD [] = TD at vw ne'
        simp [vw, v0, sizeLine_eq, ne']
      rw [whileN, cw, R.st_ok]
      rfl
    · rw [List.concat_eq_append] at e
      subst e
      obtain ⟨nm, kk, bs⟩ := u
      have cw : wkW [some (.d X), some (.d Y), some (todoO (vs ++ [.mk nm kk bs])), x3, x4] = .ok true := by
        have ne' : gNe (todoD (vs ++ [.mk nm kk bs])) (.list []) = some (.bool true) := by
          unfold todoD
          rw [ne]
          cases vs <;> rfl
        generalize todoO (vs ++ [.mk nm kk bs]) = TO at vw ⊢
        generalize todoD (vs ++ [.mk nm kk bs]) = TD at vw ne'
        simp [vw, v0, sizeLine_eq, ne']
      have hu1 := hu (.mk nm kk bs) (by simp)
      have s1 : sizeTs (vs ++ [.mk nm kk bs]) = sizeTs vs + (1 + sizeTs bs) := by
        rw [sizeTs_app', sizeTs, sizeTs, sizeT]
        omega
      have s2 : sizeTs (vs ++ bs) = sizeTs vs + sizeTs bs := sizeTs_app' vs bs
      have l1 := sizeTs_ge (us := vs)
      have l2 := sizeTs_ge (us := bs)
      have okm := hu1.1
      have lvm := hu1.2
      rw [okT, okTs_iff] at okm
      rw [levT] at lvm
      obtain ⟨y3, y4, st⟩ := walk_turn n X Y vs nm kk bs okm.1 (by omega) x3 x4
      have ih := walk_loop n X Y (z - 1) (vs ++ bs) k y3 y4 (by omega) (by omega) (by omega) fun u hu' => by
        rcases List.mem_append.mp hu' with h | h
        · exact hu u (by simp [h])
        · exact ⟨okm.2.2 u h, levTs_le (by omega) u h⟩
      obtain ⟨z2, z3, z4, ih⟩ := ih
      exact ⟨z2, z3, z4, by rw [whileN, cw, R.st_ok, if_pos rfl, st]; exact ih⟩
theorem walk_ok (n : Nat) (u : Tr) (h1 : okT u) (h2 : levT u ≤ 60) (h3 : sizeT u ≤ 50000) : mir (n + 2) 31 [encT u, encT u] = .ok (.d (.bool true)) := by
  rw [mir__law_walk, run__law_walk, show envOf 3 [encT u, encT u] = [some (.d (encT u)), some (.d (encT u)), none, none, none] from rfl]
  refine fin_step (env1 := [some (.d (encT u)), some (.d (encT u)), some (todoO [u]), none, none]) (by
    show _ = SR.nx [some (.d (encT u)), some (.d (encT u)), some (.l [.d (.tuple [encT u, encT u])]), none, none]
    generalize encT u = E
    simp [sizeLine_eq]) ?_
  obtain ⟨y2, y3, y4, e⟩ := walk_loop n (encT u) (encT u) (sizeT u) [u] 1000000 none none (by rw [sizeTs, sizeTs]; omega) (by omega) h3 fun v hv => by
    rw [List.mem_singleton.mp hv]
    exact ⟨h1, h2⟩
  refine fin_step (env1 := [some (.d (encT u)), some (.d (encT u)), y2, y3, y4]) e ?_
  generalize encT u = E
  simp [finR]
theorem answer_ok (n : Nat) (T U : D) (ask : Int) (r : R Ow) (h0 : ask = 0 → mir n 20 [T, U] = r) (h1 : ask ≠ 0 → mir n 21 [T, .int 0, U] = r) (x : D) (hr : r = .ok (.d x) ∨ (r = .ex "TooGreat" ∧ x = .list [.bool true])) : ∃ o, mir (n + 1) 32 [T, U, .int ask] = .ok o ∧ viewD o = x := by
  rw [mir__law_answer, run__law_answer, show envOf 1 [T, U, .int ask] = [some (.d T), some (.d U), some (.d (.int ask)), none] from rfl]
  have q : gEq (.int ask) (.int 0) = some (.bool (decide (ask = 0))) := rfl
  rcases hr with rfl | ⟨rfl, rfl⟩
  · refine ⟨.d x, ?_, by simp⟩
    have bd : (sSeq (sIf (eB (eBin gEq (eVar 2) (eC (.int 0))) asB)
    (sRet (eB (aCons (eVar 0) (aCons (eVar 1) aNil)) (mir n 20)))
    sSkip)
    (sRet (eB (aCons (eVar 0) (aCons (eC (.int 0)) (aCons (eVar 1) aNil))) (mir n 21)))) [some (.d T), some (.d U), some (.d (.int ask)), none] = .rt (.d x) [some (.d T), some (.d U), some (.d (.int ask)), none] := by
      by_cases c : ask = 0
      · have := h0 c
        subst c
        simp [q, this, SR.andThen]
      · have := h1 c
        simp [q, c, this, SR.andThen]
    rw [sTryT_rt bd]
    rfl
  · refine ⟨.l [.d (.bool true)], ?_, by simp⟩
    have bd : (sSeq (sIf (eB (eBin gEq (eVar 2) (eC (.int 0))) asB)
    (sRet (eB (aCons (eVar 0) (aCons (eVar 1) aNil)) (mir n 20)))
    sSkip)
    (sRet (eB (aCons (eVar 0) (aCons (eC (.int 0)) (aCons (eVar 1) aNil))) (mir n 21)))) [some (.d T), some (.d U), some (.d (.int ask)), none] = .ex "TooGreat" [some (.d T), some (.d U), some (.d (.int ask)), none] := by
      by_cases c : ask = 0
      · have := h0 c
        subst c
        simp [q, this, SR.andThen]
      · have := h1 c
        simp [q, c, this, SR.andThen]
    have le : lookE [("NoTree", false), ("TooGreat", true)] "TooGreat" = some true := by decide +kernel
    have l1 : lookE [("NoTree", true), ("TooGreat", true)] "TooGreat" = some true := by decide +kernel
    have l2 : lookE [("NoTree", true), ("TooGreat", false)] "TooGreat" = some false := by decide +kernel
    have g1 : gIsE [("NoTree", true), ("TooGreat", true)] (excD "TooGreat") = .ok (.bool true) := gIsE_exc l1
    have g2 : gIsE [("NoTree", true), ("TooGreat", false)] (excD "TooGreat") = .ok (.bool false) := gIsE_exc l2
    rw [sTryT_ex bd le (by simp)]
    generalize excD "TooGreat" = EX at g1 g2 ⊢
    simp [g1, g2, sizeLine_eq, dropT, finR]
end
end G
set_option Elab.async false
set_option linter.all false
set_option maxRecDepth 100000
set_option maxHeartbeats 4000000
namespace G
open PySem PySem.Spec L2 Mir
noncomputable section
def bareR (sd : Bool) (N : Nat → Str) (A : Int) (last : Nat) : Trm := if sd then wideT (N 3) A (last - 1) [] else deepT (N 3) A [] (last - 1)
def fullR (sd : Bool) (N : Nat → Str) (A : Int) (each : Nat) : Trm := if sd then wideT (N 4) A (each - 1) [.call 0 0] else deepT (N 4) A [.call 0 0] (each - 1)
theorem rules_ok (n : Nat) {NS : D} {N : Nat → Str} (hN : NamesD NS N) (A : Int) (sd : Bool) (each last : Nat) (he : 1 ≤ each ∧ each ≤ 20) (hl : 1 ≤ last ∧ last ≤ 20) : mir (n + 2) 33 [NS, .int A, .bool sd, .int (each : Nat), .int (last : Nat)] = .ok (.l [.d (encM (bareR sd N A last)), .d (encM (fullR sd N A each))]) := by
  rw [mir__law_rules, run__law_rules, show envOf 1 [NS, .int A, .bool sd, .int (each : Nat), .int (last : Nat)] = [some (.d NS), some (.d (.int A)), some (.d (.bool sd)), some (.d (.int (each : Nat))), some (.d (.int (last : Nat))), none] from rfl]
  have n3 : gIx NS (.int 3) = some (.str (N 3)) := hN.ix 3 (by decide)
  have n4 : gIx NS (.int 4) = some (.str (N 4)) := hN.ix 4 (by decide)
  have s1 : gSub (.int (last : Nat)) (.int 1) = some (.int ((last - 1 : Nat) : Int)) := by
    show some (PyData.int ((last : Int) - 1)) = _
    congr 2; omega
  have s2 : gSub (.int (each : Nat)) (.int 1) = some (.int ((each - 1 : Nat) : Int)) := by
    show some (PyData.int ((each : Int) - 1)) = _
    congr 2; omega
  have i0 : PyData.tuple (([] : List Trm).map encM) = .tuple [] := rfl
  have i1 : PyData.tuple (([.call 0 0] : List Trm).map encM) = .tuple [.tuple [.str "call", .int 0, .int 0]] := by rw [List.map_cons, List.map_nil, encM_call]
  unfold bareR fullR
  cases sd with
  | true =>
    have w1 := wide_ok n (N 3) A (last - 1) (by omega) [] (by simp)
    have w2 := wide_ok n (N 4) A (each - 1) (by omega) [.call 0 0] (by simp)
    rw [i0] at w1
    rw [i1] at w2
    simp only [if_true]
    refine fin_step (env1 := [some (.d NS), some (.d (.int A)), some (.d (.bool true)), some (.d (.int (each : Nat))), some (.d (.int (last : Nat))), some (.d (.tuple [.tuple [.str "call", .int 0, .int 0]]))]) (by simp [sizeLine_eq]) ?_
    generalize PyData.tuple [.tuple [.str "call", .int 0, .int 0]] = CL at w2 ⊢
    generalize encM (wideT (N 3) A (last - 1) []) = E1 at w1 ⊢
    generalize encM (wideT (N 4) A (each - 1) [.call 0 0]) = E2 at w2 ⊢
    simp [n3, n4, s1, s2, w1, w2, sizeLine_eq, SR.andThen, finR]
  | false =>
    have w1 := deep_ok n (N 3) A (last - 1) (by omega) []
    have w2 := deep_ok n (N 4) A (each - 1) (by omega) [.call 0 0]
    rw [i0] at w1
    rw [i1] at w2
    simp only [Bool.false_eq_true, if_false]
    refine fin_step (env1 := [some (.d NS), some (.d (.int A)), some (.d (.bool false)), some (.d (.int (each : Nat))), some (.d (.int (last : Nat))), some (.d (.tuple [.tuple [.str "call", .int 0, .int 0]]))]) (by simp [sizeLine_eq]) ?_
    generalize PyData.tuple [.tuple [.str "call", .int 0, .int 0]] = CL at w2 ⊢
    generalize encM (deepT (N 3) A [] (last - 1)) = E1 at w1 ⊢
    generalize encM (deepT (N 4) A [.call 0 0] (each - 1)) = E2 at w2 ⊢
    simp [n3, n4, s1, s2, w1, w2, sizeLine_eq, SR.andThen, finR]
def bbR (sd : Bool) (each : Nat) : Nat := if sd then 2 else each + 1
theorem two_R {NS : D} {N : Nat → Str} (hN : NamesD NS N) (A : Int) (sd : Bool) {each last : Nat} (he : 1 ≤ each ∧ each ≤ 20) (hl : 1 ≤ last ∧ last ≤ each) : Two (bbR sd each) (bareR sd N A last) (fullR sd N A each) := by
  have o3 := hN.ok 3 (by decide)
  have o4 := hN.ok 4 (by decide)
  unfold bbR bareR fullR
  cases sd with
  | true =>
    obtain ⟨a, b⟩ := good_wide o3 A (c := last - 1) (by omega) (inner := []) (.inl rfl)
    obtain ⟨c, d⟩ := good_wide o4 A (c := each - 1) (by omega) (inner := [.call 0 0]) (.inr rfl)
    refine ⟨a, c, ?_, fun x hx => (d x hx).2⟩
    cases hc : callsM (wideT (N 3) A (last - 1) []) with
    | nil => exact hc
    | cons x y => exact absurd rfl (b x (by rw [hc]; exact List.mem_cons_self)).1
  | false =>
    obtain ⟨a1, a2, a3, a4⟩ := good_deep o3 A (inner := []) (.inl rfl) (last - 1)
    obtain ⟨b1, b2, b3, b4⟩ := good_deep o4 A (inner := [.call 0 0]) (.inr rfl) (each - 1)
    simp only [List.length_nil, List.length_singleton] at a2 a3 b2 b3
    refine ⟨⟨a1, by show levM (deepT (N 3) A [] (last - 1)) ≤ each + 1; omega, by show sizeM (deepT (N 3) A [] (last - 1)) ≤ 1000; omega⟩, ⟨b1, by show levM (deepT (N 4) A [.call 0 0] (each - 1)) ≤ each + 1; omega, by show sizeM (deepT (N 4) A [.call 0 0] (each - 1)) ≤ 1000; omega⟩, ?_, fun x hx => (b4 x hx).2⟩
    cases hc : callsM (deepT (N 3) A [] (last - 1)) with
    | nil => exact hc
    | cons x y => exact absurd rfl (a4 x (by rw [hc]; exact List.mem_cons_self)).1
/-- sizes and levels of the chain's outcome -/
theorem size_R (sd : Bool) (N : Nat → Str) (A : Int) {each last : Nat} (he : 2 ≤ each) (hl : 1 ≤ last) (M : Nat → Int) : ∀ k, sizeT (out2 (bareR sd N A last) (fullR sd N A each) M k) = last + k * each ∧ levT (out2 (bareR sd N A last) (fullR sd N A each) M k) = if sd then k + 1 + min (last - 1) 1 else last + k * each
  | 0 => by
    rw [out2]
    unfold bareR
    cases sd with
    | true =>
      obtain ⟨⟨a, b⟩, _⟩ := put_wide (N 3) A (M 0) out2.noTr (last - 1)
      simp only [if_true]
      refine ⟨by omega, by omega⟩
    | false =>
      obtain ⟨⟨a, b⟩, _⟩ := put_deep (N 3) A (M 0) out2.noTr (last - 1)
      simp only [Bool.false_eq_true, if_false]
      refine ⟨by omega, by omega⟩
  | k + 1 => by
    obtain ⟨s, l⟩ := size_R sd N A he hl M k
    have m : (k + 1) * each = k * each + each := Nat.succ_mul k each
    rw [out2]
    generalize out2 (bareR sd N A last) (fullR sd N A each) M k = o at s l
    unfold fullR
    cases sd with
    | true =>
      obtain ⟨_, a, b⟩ := put_wide (N 4) A (M (k + 1)) o (each - 1)
      simp only [if_true] at l ⊢
      refine ⟨by omega, by omega⟩
    | false =>
      obtain ⟨_, a, b⟩ := put_deep (N 4) A (M (k + 1)) o (each - 1)
      simp only [Bool.false_eq_true, if_false] at l ⊢
      refine ⟨by omega, by omega⟩
mutual
theorem okT_put (mk : Int) {b : Tr} (hb : okT b) : ∀ T : Trm, okM T → okT (putL mk b T)
  | .call m i, _ => by rw [putL]; exact hb
  | .put nm kp ad ps, h => by
    rw [okM, okMs_iff] at h
    rw [putL, okT, okTs_iff, putLs_map, List.length_map]
    refine ⟨h.1, h.2.1, fun t ht => ?_⟩
    obtain ⟨p, hp, rfl⟩ := List.mem_map.mp ht
    exact okT_puts mk hb ps h.2.2 p hp
theorem okT_puts (mk : Int) {b : Tr} (hb : okT b) : ∀ ps : List Trm, (∀ p ∈ ps, okM p) → ∀ p ∈ ps, okT (putL mk b p)
  | [], _, p, h => by cases h
  | q :: ps, h, p, hp => by
    rcases List.mem_cons.mp hp with e | hp
    · rw [e]
      exact okT_put mk hb q (h q List.mem_cons_self)
    · exact okT_puts mk hb ps (fun x hx => h x (List.mem_cons_of_mem _ hx)) p hp
end
theorem okT_out {BB : Nat} {B F : Trm} (h : Two BB B F) (M : Nat → Int) : ∀ k, okT (out2 B F M k)
  | 0 => by
    rw [out2]
    refine okT_put _ ?_ B h.gB.ok
    unfold out2.noTr
    rw [okT, okTs]
    exact ⟨by decide +kernel, by simp, trivial⟩
  | k + 1 => by
    rw [out2]
    exact okT_put _ (okT_out h M k) F h.gF.ok
theorem out_mk {BB : Nat} (sd : Bool) (N : Nat → Str) (A : Int) (each last : Nat) (M : Nat → Int) (k : Nat) : ∃ z a cs, out2 (bareR sd N A last) (fullR sd N A each) M k = .mk z a cs ∧ (z = N 3 ∨ z = N 4) := by
  have dp : ∀ (nm : Str) (inner : List Trm) (c : Nat) (mk : Int) (b : Tr), ∃ a cs, putL mk b (deepT nm A inner c) = .mk nm a cs := fun nm inner c mk b => by
    cases c with
    | zero => exact ⟨_, _, by rw [deepT, putL]⟩
    | succ c => exact ⟨_, _, by rw [deepT, putL]⟩
  have wd : ∀ (nm : Str) (inner : List Trm) (c : Nat) (mk : Int) (b : Tr), ∃ a cs, putL mk b (wideT nm A c inner) = .mk nm a cs := fun nm inner c mk b => ⟨_, _, by unfold wideT; rw [putL]⟩
  cases k with
  | zero =>
    rw [out2]
    unfold bareR
    cases sd with
    | true =>
      obtain ⟨a, cs, e⟩ := wd (N 3) [] (last - 1) (M 0) out2.noTr
      exact ⟨_, _, _, e, .inl rfl⟩
    | false =>
      obtain ⟨a, cs, e⟩ := dp (N 3) [] (last - 1) (M 0) out2.noTr
      exact ⟨_, _, _, e, .inl rfl⟩
  | succ k =>
    rw [out2]
    generalize out2 (bareR sd N A last) (fullR sd N A each) M k = o
    unfold fullR
    cases sd with
    | true =>
      obtain ⟨a, cs, e⟩ := wd (N 4) [.call 0 0] (each - 1) (M (k + 1)) o
      exact ⟨_, _, _, e, .inr rfl⟩
    | false =>
      obtain ⟨a, cs, e⟩ := dp (N 4) [.call 0 0] (each - 1) (M (k + 1)) o
      exact ⟨_, _, _, e, .inr rfl⟩
end
end G
set_option Elab.async false
set_option linter.all false
set_option maxRecDepth 100000
set_option maxHeartbeats 4000000
namespace G
open PySem PySem.Spec L2 Mir
noncomputable section
abbrev lA (m : Nat → List PyData → R Ow) (s : Ev → SR) : Ev → SR := (sSeq (sSet 1 (eM (eM (eB (aCons (eM (eB (aCons (eVar 0) (aCons (eC (.int 0)) aNil)) (m 22)) viewD) aNil) (m 24)) viewD) Ow.d))
    (sSeq (sSet 2 (eM (eM (eB (aCons (eM (eB (aCons (eVar 0) (aCons (eC (.int 1)) aNil)) (m 22)) viewD) (aCons (eC (.int 1)) aNil)) (m 23)) viewD) Ow.d))
    (sSeq (sSet 3 (eM (eBin gIx (eB (eLst (aCons (eM (eBinO gAdd (eC (.int 398)) (eBin gMod (eVar 2) (eC (.int 6)))) viewD) (aCons (eM (eBinO gAdd (eC (.int 58)) (eBin gMod (eVar 2) (eC (.int 6)))) viewD) (aCons (eM (eBinO gAdd (eC (.int 14)) (eBin gMod (eVar 2) (eC (.int 30)))) viewD) aNil)))) shD) (eBin gMod (eBin gDiv (eVar 2) (eC (.int 8))) (eC (.int 3)))) Ow.d))
    (sSeq (sSet 4 (eM (eBin gEq (eBin gMod (eBin gDiv (eVar 2) (eC (.int 8))) (eC (.int 3))) (eC (.int 0))) Ow.d))
    (sSeq (sSet 5 (eM (eBin gIx (eB (eLst (aCons (eM (eBinO gAdd (eC (.int 2)) (eBin gMod (eBin gDiv (eVar 2) (eC (.int 64))) (eC (.int 6)))) viewD) (aCons (eM (eBinO gAdd (eC (.int 12)) (eBin gMod (eBin gDiv (eVar 2) (eC (.int 64))) (eC (.int 8)))) viewD) aNil))) shD) (eM (eCa gInt (aCons (eVar 4) aNil)) viewD)) Ow.d))
    (sSeq (sSet 6 (eM (eBin gDiv (eBin gSub (eVar 3) (eC (.int 1))) (eVar 5)) Ow.d))
    (sSeq (sSet 7 (eM (eBin gSub (eVar 3) (eBin gMul (eVar 6) (eVar 5))) Ow.d))
    s)))))))
/-- the numbers drawn -/
structure Nums (sd : Bool) (goal each steps last : Nat) : Prop where
  e2 : 2 ≤ each ∧ each ≤ 20
  l1 : 1 ≤ last ∧ last ≤ each
  gl : goal = last + steps * each
  gt : sd = true → 398 ≤ goal ∧ goal ≤ 403 ∧ 12 ≤ each
  gf : sd = false → 14 ≤ goal ∧ goal ≤ 63 ∧ each ≤ 7
theorem Nums.steps_le {sd : Bool} {goal each steps last : Nat} (h : Nums sd goal each steps last) : steps ≤ 33 ∧ (sd = false → steps ≤ 31 ∧ steps * each ≤ 62) := by
  have e := h.gl
  have l := h.l1
  have e2 := h.e2
  cases sd with
  | true =>
    obtain ⟨a, b, c⟩ := h.gt rfl
    refine ⟨?_, fun z => by cases z⟩
    have : steps * 12 ≤ steps * each := Nat.mul_le_mul_left _ c
    omega
  | false =>
    obtain ⟨a, b, c⟩ := h.gf rfl
    have : steps * 2 ≤ steps * each := Nat.mul_le_mul_left _ e2.1
    exact ⟨by omega, fun _ => ⟨by omega, by omega⟩⟩
theorem Nums.mk' (sd : Bool) (goal each : Nat) (e2 : 2 ≤ each ∧ each ≤ 20) (g1 : 1 ≤ goal) (gt : sd = true → 398 ≤ goal ∧ goal ≤ 403 ∧ 12 ≤ each) (gf : sd = false → 14 ≤ goal ∧ goal ≤ 63 ∧ each ≤ 7) : Nums sd goal each ((goal - 1) / each) (goal - (goal - 1) / each * each) := by
  have d := Nat.div_add_mod (goal - 1) each
  have m := Nat.mod_lt (goal - 1) (y := each) (by omega)
  have c : each * ((goal - 1) / each) = (goal - 1) / each * each := Nat.mul_comm _ _
  rw [c] at d
  exact ⟨e2, ⟨by omega, by omega⟩, by omega, gt, gf⟩
theorem partA (n : Nat) (ns : List Int) (s : Ev → SR) : ∃ (NS : D) (N : Nat → Str) (sd : Bool) (goal each steps last : Nat) (nb : Int), NamesD NS N ∧ Nums sd goal each steps last ∧
    lA (mir (n + 2)) s [some (.d (scD ns)), none, none, none, none, none, none, none, none, none, none, none, none, none, none, none, none, none, none, none] = s [some (.d (scD ns)), some (.d NS), some (.d (.int nb)), some (.d (.int (goal : Nat))), some (.d (.bool sd)), some (.d (.int (each : Nat))), some (.d (.int (steps : Nat))), some (.d (.int (last : Nat))), none, none, none, none, none, none, none, none, none, none, none, none] := by
  have cc : ∀ k : Nat, mir (n + 2) 22 [scD ns, .int (k : Nat)] = .ok (.d (.int (scCell ns k))) := fun k => cell_ok (n + 1) ns k
  have c0 : mir (n + 2) 22 [scD ns, .int 0] = .ok (.d (.int (scCell ns 0))) := cc 0
  have c1 : mir (n + 2) 22 [scD ns, .int 1] = .ok (.d (.int (scCell ns 1))) := cc 1
  obtain ⟨ls, l8, hn⟩ := names_ok n (scCell ns 0)
  have vn := viewD_nmO ls
  have hN := names_at l8
  obtain ⟨N, hNe⟩ : ∃ N : Nat → Str, N = fun i => lets (ls.getD i []) := ⟨_, rfl⟩
  rw [← hNe] at hN
  clear hNe
  generalize nmO ls = NO at hn vn
  generalize nsD ls = NS at vn hN
  have mx := mixed_ok (n + 1) (scCell ns 1) 1 (by decide)
  change mir (n + 2) 23 [.int (scCell ns 1), .int 1] = .ok (.d (.int (mixI (scCell ns 1) 1))) at mx
  have nb0 : 0 ≤ mixI (scCell ns 1) 1 := Int.emod_nonneg _ (by decide)
  obtain ⟨z, hz⟩ : ∃ z : Nat, mixI (scCell ns 1) 1 = (z : Int) := ⟨(mixI (scCell ns 1) 1).toNat, by omega⟩
  rw [hz] at mx
  have m6 : gMod (.int (z : Nat)) (.int 6) = some (.int ((z % 6 : Nat) : Int)) := (gMod_int (by decide)).trans (by congr 2)
  have m30 : gMod (.int (z : Nat)) (.int 30) = some (.int ((z % 30 : Nat) : Int)) := (gMod_int (by decide)).trans (by congr 2)
  have d8 : gDiv (.int (z : Nat)) (.int 8) = some (.int ((z / 8 : Nat) : Int)) := (gDiv_small (by decide) (by decide)).trans (by congr 2)
  have m3 : gMod (.int ((z / 8 : Nat) : Int)) (.int 3) = some (.int ((z / 8 % 3 : Nat) : Int)) := (gMod_int (by decide)).trans (by congr 2)
  have d64 : gDiv (.int (z : Nat)) (.int 64) = some (.int ((z / 64 : Nat) : Int)) := (gDiv_small (by decide) (by decide)).trans (by congr 2)
  have q6 : gMod (.int ((z / 64 : Nat) : Int)) (.int 6) = some (.int ((z / 64 % 6 : Nat) : Int)) := (gMod_int (by decide)).trans (by congr 2)
  have q8 : gMod (.int ((z / 64 : Nat) : Int)) (.int 8) = some (.int ((z / 64 % 8 : Nat) : Int)) := (gMod_int (by decide)).trans (by congr 2)
  have b6 := Nat.mod_lt z (y := 6) (by decide)
  have b30 := Nat.mod_lt z (y := 30) (by decide)
  have b3 := Nat.mod_lt (z / 8) (y := 3) (by decide)
  have p6 := Nat.mod_lt (z / 64) (y := 6) (by decide)
  have p8 := Nat.mod_lt (z / 64) (y := 8) (by decide)
  generalize z % 6 = r6 at m6 b6
  generalize z % 30 = r30 at m30 b30
  generalize z / 8 % 3 = g at m3 b3
  generalize z / 8 = z8 at d8 m3
  generalize z / 64 % 6 = e6 at q6 p6
  generalize z / 64 % 8 = e8 at q8 p8
  generalize z / 64 = z64 at d64 q6 q8
  have sh3 : shD (.l [.d (.int (398 + (r6 : Int))), .d (.int (58 + (r6 : Int))), .d (.int (14 + (r30 : Int)))]) = .ok (.list [.int (398 + (r6 : Int)), .int (58 + (r6 : Int)), .int (14 + (r30 : Int))]) := rfl
  have sh2 : shD (.l [.d (.int (2 + (e6 : Int))), .d (.int (12 + (e8 : Int)))]) = .ok (.list [.int (2 + (e6 : Int)), .int (12 + (e8 : Int))]) := rfl
  obtain ⟨goal, hg⟩ : ∃ goal : Nat, goal = if g = 0 then 398 + r6 else if g = 1 then 58 + r6 else 14 + r30 := ⟨_, rfl⟩
  obtain ⟨each, hea⟩ : ∃ each : Nat, each = if g = 0 then 12 + e8 else 2 + e6 := ⟨_, rfl⟩
  have ix3 : gIx (.list [.int (398 + (r6 : Int)), .int (58 + (r6 : Int)), .int (14 + (r30 : Int))]) (.int (g : Nat)) = some (.int (goal : Nat)) := by
    obtain rfl | rfl | rfl : g = 0 ∨ g = 1 ∨ g = 2 := by omega
    · rw [hg, if_pos rfl]; show some (PyData.int _) = _; congr 2
    · rw [hg, if_neg (by decide), if_pos rfl]; show some (PyData.int _) = _; congr 2
    · rw [hg, if_neg (by decide), if_neg (by decide)]; show some (PyData.int _) = _; congr 2
  have eqg : gEq (.int (g : Nat)) (.int 0) = some (.bool (decide (g = 0))) := by
    show some (PyData.bool (decide ((g : Int) = 0))) = _
    congr 2
    exact decide_eq_decide.mpr ⟨fun h => by omega, fun h => by omega⟩
  have gb : gInt [.bool (decide (g = 0))] = some (.d (.int (if g = 0 then 1 else 0))) := by
    by_cases c : g = 0
    · rw [decide_eq_true c, if_pos c]; rfl
    · rw [decide_eq_false c, if_neg c]; rfl
  have ix2 : gIx (.list [.int (2 + (e6 : Int)), .int (12 + (e8 : Int))]) (.int (if g = 0 then 1 else 0)) = some (.int (each : Nat)) := by
    by_cases c : g = 0
    · rw [if_pos c, hea, if_pos c]; show some (PyData.int _) = _; congr 2
    · rw [if_neg c, hea, if_neg c]; show some (PyData.int _) = _; congr 2
  have nums : Nums (decide (g = 0)) goal each ((goal - 1) / each) (goal - (goal - 1) / each * each) := by
    refine Nums.mk' _ goal each ?_ ?_ (fun h => ?_) fun h => ?_
    · rw [hea]; split <;> omega
    · rw [hg]; split
      · omega
      · split <;> omega
    · have c := of_decide_eq_true h
      rw [hg, hea, if_pos c, if_pos c]
      omega
    · have c := of_decide_eq_false h
      rw [hg, hea, if_neg c, if_neg c]
      split <;> omega
  obtain ⟨steps, hst⟩ : ∃ steps, steps = (goal - 1) / each := ⟨_, rfl⟩
  obtain ⟨last, hla⟩ : ∃ last, last = goal - steps * each := ⟨_, rfl⟩
  rw [← hst, ← hla] at nums
  have e2 := nums.e2
  have g1 : 1 ≤ goal := by have := nums.gl; have := nums.l1; omega
  have st := nums.steps_le
  have sb1 : gSub (.int (goal : Nat)) (.int 1) = some (.int ((goal - 1 : Nat) : Int)) := by
    show some (PyData.int ((goal : Int) - 1)) = _
    congr 2; omega
  have dv : gDiv (.int ((goal - 1 : Nat) : Int)) (.int (each : Nat)) = some (.int (steps : Nat)) := (gDiv_small (by omega) (by
    have : (20 : Nat) < 2 ^ 250 := by decide
    omega)).trans (by rw [hst]; congr 2)
  have ml : gMul (.int (steps : Nat)) (.int (each : Nat)) = some (.int ((steps * each : Nat) : Int)) := (gMul_small (by
    have : (33 : Nat) < 2 ^ 250 := by decide
    omega) (by
    have : (20 : Nat) < 2 ^ 250 := by decide
    omega)).trans (by congr 2)
  have sb2 : gSub (.int (goal : Nat)) (.int ((steps * each : Nat) : Int)) = some (.int (last : Nat)) := by
    show some (PyData.int ((goal : Int) - ((steps * each : Nat) : Int))) = _
    have := nums.gl
    congr 2; omega
  refine ⟨NS, N, decide (g = 0), goal, each, steps, last, (z : Int), hN, nums, ?_⟩
  clear hg hea hst hla hz nb0 nums hN
  refine seq_nx (env1 := [some (.d (scD ns)), some (.d NS), none, none, none, none, none, none, none, none, none, none, none, none, none, none, none, none, none, none]) (by generalize scD ns = SC at c0 ⊢; simp [c0, hn, vn]) ?_
  refine seq_nx (env1 := [some (.d (scD ns)), some (.d NS), some (.d (.int (z : Nat))), none, none, none, none, none, none, none, none, none, none, none, none, none, none, none, none, none]) (by generalize scD ns = SC at c1 ⊢; simp [c1, mx]) ?_
  generalize scD ns = SC
  refine seq_nx (env1 := [some (.d SC), some (.d NS), some (.d (.int (z : Nat))), some (.d (.int (goal : Nat))), none, none, none, none, none, none, none, none, none, none, none, none, none, none, none, none]) (by
    simp [m6, m30, d8, m3, sizeLine_eq, sh3, ix3]) ?_
  refine seq_nx (env1 := [some (.d SC), some (.d NS), some (.d (.int (z : Nat))), some (.d (.int (goal : Nat))), some (.d (.bool (decide (g = 0)))), none, none, none, none, none, none, none, none, none, none, none, none, none, none, none]) (by
    generalize decide (g = 0) = b at eqg ⊢
    simp only [sSet_eq, eM_eq, eBin_eq, eVar_2, eC_eq, R.bind_ok, d8, R.of_some, m3, eqg, R.map_ok, R.st_ok]
    rfl) ?_
  refine seq_nx (env1 := [some (.d SC), some (.d NS), some (.d (.int (z : Nat))), some (.d (.int (goal : Nat))), some (.d (.bool (decide (g = 0)))), some (.d (.int (each : Nat))), none, none, none, none, none, none, none, none, none, none, none, none, none, none]) (by
    generalize (if g = 0 then (1 : Int) else 0) = gi at gb ix2
    generalize decide (g = 0) = b at gb ⊢
    simp [d64, q6, q8, sizeLine_eq, sh2, gb, ix2]) ?_
  generalize decide (g = 0) = b
  refine seq_nx (env1 := [some (.d SC), some (.d NS), some (.d (.int (z : Nat))), some (.d (.int (goal : Nat))), some (.d (.bool b)), some (.d (.int (each : Nat))), some (.d (.int (steps : Nat))), none, none, none, none, none, none, none, none, none, none, none, none, none]) (by
    generalize ((goal - 1 : Nat) : Int) = G1 at sb1 dv
    simp [sb1, dv]) ?_
  refine seq_nx (env1 := [some (.d SC), some (.d NS), some (.d (.int (z : Nat))), some (.d (.int (goal : Nat))), some (.d (.bool b)), some (.d (.int (each : Nat))), some (.d (.int (steps : Nat))), some (.d (.int (last : Nat))), none, none, none, none, none, none, none, none, none, none, none, none]) (by
    generalize ((steps * each : Nat) : Int) = G1 at ml sb2
    simp [ml, sb2]) rfl
end
end G
set_option Elab.async false
set_option linter.all false
set_option maxRecDepth 100000
set_option maxHeartbeats 4000000
namespace G
open PySem PySem.Spec L2 Mir
noncomputable section
abbrev e26 (SC NS : D) (nb : Int) (goal : Nat) (sd : Bool) (each steps last : Nat) (x8 x9 x10 x11 x12 x13 x14 x15 x16 x17 x18 x19 : Option Ow) : Ev :=
  [some (.d SC), some (.d NS), some (.d (.int nb)), some (.d (.int (goal : Nat))), some (.d (.bool sd)), some (.d (.int (each : Nat))), some (.d (.int (steps : Nat))), some (.d (.int (last : Nat))), x8, x9, x10, x11, x12, x13, x14, x15, x16, x17, x18, x19]
abbrev lB (m : Nat → List PyData → R Ow) (s : Ev → SR) : Ev → SR := (sSeq (sAsg (gtLst 2 (gtCons (gtName 8) (gtCons (gtName 9) gtNil))) (eM (eB (aCons (eVar 1) (aCons (eM (eB (aCons (eM (eB (aCons (eVar 0) (aCons (eC (.int 2)) aNil)) (m 22)) viewD) aNil) (m 25)) viewD) (aCons (eVar 4) (aCons (eVar 5) (aCons (eVar 7) aNil))))) (m 33)) viewD))
    (sSeq (sSet 10 (eM (eM (eCa gSorted (aCons (eB (eLst (aCons (eTup (aCons (eBin gIx (eVar 1) (eC (.int 1))) (aCons (eTup aNil) aNil))) (aCons (eTup (aCons (eBin gIx (eVar 1) (eC (.int 2))) (aCons (eTup (aCons (eBin gIx (eVar 1) (eC (.int 0))) aNil)) aNil))) aNil))) shD) aNil)) viewD) Ow.d))
    (sSeq (sSet 11 (eM (eM (eLst (aCons (eVar 8) (aCons (eVar 9) aNil))) viewD) Ow.d))
    (sSeq (sIf (eB (eBin gLtS (eBin gIx (eVar 1) (eC (.int 2))) (eBin gIx (eVar 1) (eC (.int 1)))) asB)
    (sSet 11 (eM (eM (eLst (aCons (eVar 9) (aCons (eVar 8) aNil))) viewD) Ow.d))
    sSkip)
    (sSeq (sSet 12 (eM (eTup (aCons (eM (eLst (aCons (eTup (aCons (eBin gIx (eVar 1) (eC (.int 0))) (aCons (eVar 10) aNil))) aNil)) viewD) (aCons (eTup (aCons (eC (.str "call")) (aCons (eC (.int 0)) (aCons (eC (.int 0)) aNil)))) (aCons (eM (eLst (aCons (eTup (aCons (eBin gIx (eVar 1) (eC (.int 0))) (aCons (eVar 11) aNil))) aNil)) viewD) aNil)))) Ow.d))
    s)))))
theorem partB (n : Nat) (ns : List Int) {NS : D} {N : Nat → Str} (hN : NamesD NS N) (sd : Bool) (goal each steps last : Nat) (nb : Int) (hu : Nums sd goal each steps last) (s : Ev → SR) : ∃ (A : Int) (x10 x11 : Option Ow),
    lB (mir (n + 2)) s (e26 (scD ns) NS nb goal sd each steps last none none none none none none none none none none none none) =
      s (e26 (scD ns) NS nb goal sd each steps last (some (.d (encM (bareR sd N A last)))) (some (.d (encM (fullR sd N A each)))) x10 x11 (some (.d (encTn (tn2 N (bareR sd N A last) (fullR sd N A each))))) none none none none none none none) := by
  have c2 : mir (n + 2) 22 [scD ns, .int 2] = .ok (.d (.int (scCell ns 2))) := cell_ok (n + 1) ns 2
  have gr := great_ok (n + 1) (scCell ns 2)
  obtain ⟨A, hA⟩ : ∃ A, A = greatI (scCell ns 2) := ⟨_, rfl⟩
  rw [← hA] at gr
  change mir (n + 2) 25 [.int (scCell ns 2)] = _ at gr
  have e2 := hu.e2
  have l1 := hu.l1
  have rl := rules_ok n hN A sd each last (by omega) (by omega)
  have n0 : gIx NS (.int 0) = some (.str (N 0)) := hN.ix 0 (by decide)
  have n1 : gIx NS (.int 1) = some (.str (N 1)) := hN.ix 1 (by decide)
  have n2 : gIx NS (.int 2) = some (.str (N 2)) := hN.ix 2 (by decide)
  have h12 := hN.ne 1 2 (by decide) (by decide) (by decide)
  have srt := gSort2 (r := ⟨N 1, []⟩) (s := ⟨N 2, [N 0]⟩) h12
  change gSorted [.list [.tuple [.str (N 1), .tuple []], .tuple [.str (N 2), .tuple [.str (N 0)]]]] = some (.l (((rws2 N).map encRw).map Ow.d)) at srt
  have sv : viewD (.l (((rws2 N).map encRw).map Ow.d)) = rwsD (rws2 N) := vw_ls _
  have w2 : ∀ a b : Trm, viewD (.l [.d (encM a), .d (encM b)]) = trsD [a, b] := fun a b => vw_ls [encM a, encM b]
  have v2 : ∀ a b : D, viewD (.l [.d a, .d b]) = .list [a, b] := fun a b => vw_ls [a, b]
  have v1 : ∀ x : PyData, viewD (.l [.d x]) = .list [x] := fun x => vw_ls [x]
  have et : encTn (tn2 N (bareR sd N A last) (fullR sd N A each)) = .tuple [.list [.tuple [.str (N 0), rwsD (rws2 N)]], .tuple [.str "call", .int 0, .int 0], .list [.tuple [.str (N 0), trsD (rls2 N (bareR sd N A last) (fullR sd N A each))]]] := by
    have : encTn (tn2 N (bareR sd N A last) (fullR sd N A each)) = .tuple [encWd [(N 0, rws2 N)], encM (.call 0 0), moD [(N 0, rls2 N (bareR sd N A last) (fullR sd N A each))]] := rfl
    rw [this, encM_call]
    rfl
  refine ⟨A, some (.d (rwsD (rws2 N))), some (.d (trsD (rls2 N (bareR sd N A last) (fullR sd N A each)))), ?_⟩
  rw [et]
  generalize bareR sd N A last = B at rl ⊢
  generalize fullR sd N A each = F at rl ⊢
  unfold e26
  generalize scD ns = SC at c2 ⊢
  generalize ((goal : Nat) : Int) = Gi
  generalize ((each : Nat) : Int) = Ei at rl ⊢
  generalize ((steps : Nat) : Int) = Si
  generalize ((last : Nat) : Int) = Li at rl ⊢
  refine seq_nx (env1 := [some (.d SC), some (.d NS), some (.d (.int nb)), some (.d (.int Gi)), some (.d (.bool sd)), some (.d (.int Ei)), some (.d (.int Si)), some (.d (.int Li)), some (.d (encM B)), some (.d (encM F)), none, none, none, none, none, none, none, none, none, none]) (by
    have vv := v2 (encM B) (encM F)
    generalize encM B = EB at rl vv ⊢
    generalize encM F = EF at rl vv ⊢
    simp [c2, gr, rl, vv]) ?_
  refine seq_nx (env1 := [some (.d SC), some (.d NS), some (.d (.int nb)), some (.d (.int Gi)), some (.d (.bool sd)), some (.d (.int Ei)), some (.d (.int Si)), some (.d (.int Li)), some (.d (encM B)), some (.d (encM F)), some (.d (rwsD (rws2 N))), none, none, none, none, none, none, none, none, none]) (by
    generalize encM B = EB
    generalize encM F = EF
    generalize rwsD (rws2 N) = RW at sv
    generalize Ow.l (((rws2 N).map encRw).map Ow.d) = RO at srt sv
    simp [n0, n1, n2, shl2, srt, sv, sizeLine_eq]) ?_
  refine seq_nx (env1 := [some (.d SC), some (.d NS), some (.d (.int nb)), some (.d (.int Gi)), some (.d (.bool sd)), some (.d (.int Ei)), some (.d (.int Si)), some (.d (.int Li)), some (.d (encM B)), some (.d (encM F)), some (.d (rwsD (rws2 N))), some (.d (trsD [B, F])), none, none, none, none, none, none, none, none]) (by
    have wa := w2 B F
    generalize trsD [B, F] = T1 at wa
    generalize encM B = EB at wa
    generalize encM F = EF at wa
    generalize rwsD (rws2 N) = RW
    simp [wa, sizeLine_eq]) ?_
  refine seq_nx (env1 := [some (.d SC), some (.d NS), some (.d (.int nb)), some (.d (.int Gi)), some (.d (.bool sd)), some (.d (.int Ei)), some (.d (.int Si)), some (.d (.int Li)), some (.d (encM B)), some (.d (encM F)), some (.d (rwsD (rws2 N))), some (.d (trsD (rls2 N B F))), none, none, none, none, none, none, none, none]) (by
    unfold rls2
    have wb := w2 F B
    by_cases lt : (N 2).cps.toList < (N 1).cps.toList
    · rw [if_pos lt]
      generalize trsD [B, F] = T1
      generalize trsD [F, B] = T2 at wb
      generalize encM B = EB at wb
      generalize encM F = EF at wb
      generalize rwsD (rws2 N) = RW
      simp [wb, lt, n1, n2, sizeLine_eq]
    · rw [if_neg lt]
      generalize trsD [B, F] = T1
      generalize encM B = EB
      generalize encM F = EF
      generalize rwsD (rws2 N) = RW
      simp [lt, n1, n2, sizeLine_eq]) ?_
  refine seq_nx (env1 := [some (.d SC), some (.d NS), some (.d (.int nb)), some (.d (.int Gi)), some (.d (.bool sd)), some (.d (.int Ei)), some (.d (.int Si)), some (.d (.int Li)), some (.d (encM B)), some (.d (encM F)), some (.d (rwsD (rws2 N))), some (.d (trsD (rls2 N B F))), some (.d (.tuple [.list [.tuple [.str (N 0), rwsD (rws2 N)]], .tuple [.str "call", .int 0, .int 0], .list [.tuple [.str (N 0), trsD (rls2 N B F)]]])), none, none, none, none, none, none, none]) (by
    generalize encM B = EB
    generalize encM F = EF
    generalize rwsD (rws2 N) = RW
    generalize trsD (rls2 N B F) = TR
    simp [n0, v1, sizeLine_eq]) rfl
abbrev lC (m : Nat → List PyData → R Ow) (s : Ev → SR) : Ev → SR := (sSeq (sSet 13 (eM (eM (eB (aCons (eM (eB (aCons (eVar 0) (aCons (eC (.int 3)) aNil)) (m 22)) viewD) aNil) (m 25)) viewD) Ow.d))
    (sSeq (sSet 14 (eM (eTup (aCons (eBin gIx (eVar 1) (eC (.int 1))) (aCons (eVar 13) (aCons (eTup aNil) aNil)))) Ow.d))
    (sSeq (sSet 15 (eM (eM (eB (aCons (eVar 8) (aCons (eVar 13) (aCons (eC .none) aNil))) (m 30)) viewD) Ow.d))
    (sSeq (sFor (eB (aCons (eVar 6) aNil) rg1) (gtName 16)
    (sSeq (sSet 13 (eM (eM (eB (aCons (eM (eB (aCons (eVar 0) (aCons (eM (eBinO gAdd (eC (.int 4)) (eVar 16)) viewD) aNil)) (m 22)) viewD) aNil) (m 25)) viewD) Ow.d))
    (sSeq (sSet 14 (eM (eTup (aCons (eBin gIx (eVar 1) (eC (.int 2))) (aCons (eVar 13) (aCons (eTup (aCons (eVar 14) aNil)) aNil)))) Ow.d))
    (sSet 15 (eM (eM (eB (aCons (eVar 9) (aCons (eVar 13) (aCons (eVar 15) aNil))) (m 30)) viewD) Ow.d)))))
    (sSeq (sSet 17 (eM (eVar 3) Ow.d))
    (sSeq (sIf (eB (eVar 4) asB)
    (sSet 17 (eM (eM (eBinO gAdd (eB (eBinO gAdd (eVar 6) (eC (.int 1))) shD) (eB (eCa gInt (aCons (eBin gGt (eVar 7) (eC (.int 1))) aNil)) shD)) viewD) Ow.d))
    sSkip)
    s))))))
theorem partC (n : Nat) (hn : 30 ≤ n) (ns : List Int) {NS : D} {N : Nat → Str} (hN : NamesD NS N) (sd : Bool) (goal each steps last : Nat) (nb : Int) (hu : Nums sd goal each steps last) (A : Int) (x10 x11 x12 : Option Ow) (s : Ev → SR) : ∃ (M : Nat → Int) (x16 : Option Ow),
    lC (mir (n + 2)) s (e26 (scD ns) NS nb goal sd each steps last (some (.d (encM (bareR sd N A last)))) (some (.d (encM (fullR sd N A each)))) x10 x11 x12 none none none none none none none) =
      s (e26 (scD ns) NS nb goal sd each steps last (some (.d (encM (bareR sd N A last)))) (some (.d (encM (fullR sd N A each)))) x10 x11 x12 (some (.d (.int (M steps)))) (some (.d (encT (chK N M steps)))) (some (.d (encT (out2 (bareR sd N A last) (fullR sd N A each) M steps)))) x16 (some (.d (.int (levT (out2 (bareR sd N A last) (fullR sd N A each) M steps) : Nat)))) none none) ∧ (M steps).natAbs < 2 ^ 250 := by
  have e2 := hu.e2
  have l1 := hu.l1
  have st := hu.steps_le.1
  have tw := two_R hN A sd (each := each) (last := last) (by omega) l1
  have sz := size_R sd N A (each := each) (last := last) e2.1 l1.1
  obtain ⟨B, hB⟩ : ∃ B, B = bareR sd N A last := ⟨_, rfl⟩
  obtain ⟨F, hF⟩ : ∃ F, F = fullR sd N A each := ⟨_, rfl⟩
  rw [← hB, ← hF] at tw
  rw [← hB, ← hF] at sz ⊢
  have cc : ∀ k : Nat, mir (n + 2) 22 [scD ns, .int (k : Nat)] = .ok (.d (.int (scCell ns k))) := fun k => cell_ok (n + 1) ns k
  have c3 : mir (n + 2) 22 [scD ns, .int 3] = .ok (.d (.int (scCell ns 3))) := cc 3
  have c4 : ∀ k : Nat, mir (n + 2) 22 [scD ns, .int (4 + (k : Nat))] = .ok (.d (.int (scCell ns (3 + (k + 1))))) := fun k => by
    have := cc (3 + (k + 1))
    rwa [show ((3 + (k + 1) : Nat) : Int) = 4 + (k : Nat) from by omega] at this
  have gg : ∀ z : Int, mir (n + 2) 25 [.int z] = .ok (.d (.int (greatI z))) := fun z => great_ok (n + 1) z
  obtain ⟨M, hMk⟩ : ∃ M : Nat → Int, ∀ k, M k = greatI (scCell ns (3 + k)) := ⟨fun k => greatI (scCell ns (3 + k)), fun _ => rfl⟩
  have hMb : ∀ i, (M i).natAbs < 2 ^ 250 := fun i => by rw [hMk]; exact greatI_abs _
  have g3 := gg (scCell ns 3)
  have m0 := hMk 0
  change M 0 = greatI (scCell ns 3) at m0
  rw [← m0] at g3
  have g4 : ∀ k, mir (n + 2) 25 [.int (scCell ns (3 + (k + 1)))] = .ok (.d (.int (M (k + 1)))) := fun k => by rw [hMk]; exact gg _
  have levB : levM B ≤ n := by
    have := tw.gB.lev
    unfold bbR at this
    split at this <;> omega
  have levF : levM F ≤ n := by
    have := tw.gF.lev
    unfold bbR at this
    split at this <;> omega
  have pB := lawPut_ok (hMb 0) out2.noTr .none (n + 1) B (by omega) tw.gB.ok (.inl tw.nB)
  have pF : ∀ k, mir (n + 2) 30 [encM F, .int (M (k + 1)), encT (out2 B F M k)] = .ok (.d (encT (out2 B F M (k + 1)))) := fun k => lawPut_ok (hMb (k + 1)) (out2 B F M k) (encT (out2 B F M k)) (n + 1) F (by omega) tw.gF.ok (.inr rfl)
  change mir (n + 2) 30 [encM B, .int (M 0), .none] = .ok (.d (encT (out2 B F M 0))) at pB
  have n1 : gIx NS (.int 1) = some (.str (N 1)) := hN.ix 1 (by decide)
  have n2 : gIx NS (.int 2) = some (.str (N 2)) := hN.ix 2 (by decide)
  have et0 : encT (chK N M 0) = .tuple [.str (N 1), .int (M 0), .tuple []] := by rw [chK, encT_mk]; rfl
  have etS : ∀ k, encT (chK N M (k + 1)) = .tuple [.str (N 2), .int (M (k + 1)), .tuple [encT (chK N M k)]] := fun k => by rw [chK, encT_mk]; rfl
  have sz := sz M steps
  have lev : levT (out2 B F M steps) = if sd then steps + 1 + min (last - 1) 1 else goal := by
    rw [sz.2, ← hu.gl]
  have sts := hu.steps_le
  clear hB hF tw levB levF sz
  have key := forL_ind (g := gtName 16) (f := (sSeq (sSet 13 (eM (eM (eB (aCons (eM (eB (aCons (eVar 0) (aCons (eM (eBinO gAdd (eC (.int 4)) (eVar 16)) viewD) aNil)) (mir (n + 2) 22)) viewD) aNil) (mir (n + 2) 25)) viewD) Ow.d))
    (sSeq (sSet 14 (eM (eTup (aCons (eBin gIx (eVar 1) (eC (.int 2))) (aCons (eVar 13) (aCons (eTup (aCons (eVar 14) aNil)) aNil)))) Ow.d))
    (sSet 15 (eM (eM (eB (aCons (eVar 9) (aCons (eVar 13) (aCons (eVar 15) aNil))) (mir (n + 2) 30)) viewD) Ow.d))))) (rangeD 0 steps)
    (fun i env => ∃ x16, env = e26 (scD ns) NS nb goal sd each steps last (some (.d (encM B))) (some (.d (encM F))) x10 x11 x12 (some (.d (.int (M i)))) (some (.d (encT (chK N M i)))) (some (.d (encT (out2 B F M i)))) x16 none none none) (fun i d env hi ⟨x16, he⟩ => by
      subst he
      obtain ⟨hil, rfl⟩ := rangeD_at hi
      refine ⟨e26 (scD ns) NS nb goal sd each steps last (some (.d (encM B))) (some (.d (encM F))) x10 x11 x12 (some (.d (.int (M i)))) (some (.d (encT (chK N M i)))) (some (.d (encT (out2 B F M i)))) (some (.d (.int (i : Nat)))) none none none, by simp, e26 (scD ns) NS nb goal sd each steps last (some (.d (encM B))) (some (.d (encM F))) x10 x11 x12 (some (.d (.int (M (i + 1))))) (some (.d (encT (chK N M (i + 1))))) (some (.d (encT (out2 B F M (i + 1))))) (some (.d (.int (i : Nat)))) none none none, .inl ?_, _, rfl⟩
      have c := c4 i
      have g := g4 i
      have p := pF i
      rw [etS]
      generalize encT (out2 B F M i) = O1 at p ⊢
      generalize encT (out2 B F M (i + 1)) = O2 at p ⊢
      generalize encT (chK N M i) = C1
      generalize encM B = EB
      generalize encM F = EF at p ⊢
      generalize scD ns = SC at c ⊢
      generalize ((goal : Nat) : Int) = Gi
      generalize ((each : Nat) : Int) = Ei
      generalize ((steps : Nat) : Int) = Si
      generalize ((last : Nat) : Int) = Li
      simp [c, g, n2, p, sizeLine_eq]) (e26 (scD ns) NS nb goal sd each steps last (some (.d (encM B))) (some (.d (encM F))) x10 x11 x12 (some (.d (.int (M 0)))) (some (.d (encT (chK N M 0)))) (some (.d (encT (out2 B F M 0)))) none none none none) ⟨none, rfl⟩
  obtain ⟨env', f1, x16, f2⟩ := key
  subst f2
  have hlen : (rangeD 0 steps).length = steps := by simp [rangeD]
  rw [hlen] at f1
  refine ⟨M, x16, ?_, hMb steps⟩
  have rg := rg1_nat steps (by omega)
  refine seq_nx (env1 := e26 (scD ns) NS nb goal sd each steps last (some (.d (encM B))) (some (.d (encM F))) x10 x11 x12 (some (.d (.int (M 0)))) none none none none none none) (by
    unfold e26
    generalize encM B = EB
    generalize encM F = EF
    generalize scD ns = SC at c3 ⊢
    generalize ((goal : Nat) : Int) = Gi
    generalize ((each : Nat) : Int) = Ei
    generalize ((steps : Nat) : Int) = Si
    generalize ((last : Nat) : Int) = Li
    simp [c3, g3]) ?_
  refine seq_nx (env1 := e26 (scD ns) NS nb goal sd each steps last (some (.d (encM B))) (some (.d (encM F))) x10 x11 x12 (some (.d (.int (M 0)))) (some (.d (encT (chK N M 0)))) none none none none none) (by
    rw [et0]
    unfold e26
    generalize encM B = EB
    generalize encM F = EF
    generalize scD ns = SC
    generalize ((goal : Nat) : Int) = Gi
    generalize ((each : Nat) : Int) = Ei
    generalize ((steps : Nat) : Int) = Si
    generalize ((last : Nat) : Int) = Li
    simp [n1, sizeLine_eq]) ?_
  refine seq_nx (env1 := e26 (scD ns) NS nb goal sd each steps last (some (.d (encM B))) (some (.d (encM F))) x10 x11 x12 (some (.d (.int (M 0)))) (some (.d (encT (chK N M 0)))) (some (.d (encT (out2 B F M 0)))) none none none none) (by
    unfold e26
    generalize encT (out2 B F M 0) = O0 at pB ⊢
    generalize encT (chK N M 0) = C0
    generalize encM B = EB at pB ⊢
    generalize encM F = EF
    generalize scD ns = SC
    generalize ((goal : Nat) : Int) = Gi
    generalize ((each : Nat) : Int) = Ei
    generalize ((steps : Nat) : Int) = Si
    generalize ((last : Nat) : Int) = Li
    simp [pB]) ?_
  refine seq_nx (env1 := e26 (scD ns) NS nb goal sd each steps last (some (.d (encM B))) (some (.d (encM F))) x10 x11 x12 (some (.d (.int (M steps)))) (some (.d (encT (chK N M steps)))) (some (.d (encT (out2 B F M steps)))) x16 none none none) (by
    rw [sFor_eq]
    have : (eB (aCons (eVar 6) aNil) rg1) (e26 (scD ns) NS nb goal sd each steps last (some (.d (encM B))) (some (.d (encM F))) x10 x11 x12 (some (.d (.int (M 0)))) (some (.d (encT (chK N M 0)))) (some (.d (encT (out2 B F M 0)))) none none none none) = .ok (rangeD 0 steps) := by
      unfold e26
      generalize encT (out2 B F M 0) = O0
      generalize encT (chK N M 0) = C0
      generalize encM B = EB
      generalize encM F = EF
      generalize scD ns = SC
      simp [rg]
    rw [this, R.st_ok]
    exact f1) ?_
  clear f1 rg pB pF c4 g4 cc gg
  rw [lev]
  generalize encT (out2 B F M steps) = O0
  generalize encT (chK N M steps) = C0
  generalize encM B = EB
  generalize encM F = EF
  generalize scD ns = SC
  generalize M steps = Mk
  refine seq_nx (env1 := e26 SC NS nb goal sd each steps last (some (.d EB)) (some (.d EF)) x10 x11 x12 (some (.d (.int Mk))) (some (.d C0)) (some (.d O0)) x16 (some (.d (.int (goal : Nat)))) none none) (by unfold e26; simp) ?_
  refine seq_nx (env1 := e26 SC NS nb goal sd each steps last (some (.d EB)) (some (.d EF)) x10 x11 x12 (some (.d (.int Mk))) (some (.d C0)) (some (.d O0)) x16 (some (.d (.int ((if sd then steps + 1 + min (last - 1) 1 else goal : Nat) : Int)))) none none) (by
    unfold e26
    cases sd with
    | false => simp
    | true =>
      have g1 : gGt (.int (last : Nat)) (.int 1) = some (.bool (decide ((1 : Int) < (last : Int)))) := rfl
      have gi : gInt [.bool (decide ((1 : Int) < (last : Int)))] = some (.d (.int ((min (last - 1) 1 : Nat) : Int))) := by
        by_cases c : last = 1
        · subst c; rfl
        · rw [decide_eq_true (by omega), show min (last - 1) 1 = 1 by omega]; rfl
      have ad : gAdd (.int ((steps : Int) + 1)) (.int ((min (last - 1) 1 : Nat) : Int)) = some (.d (.int ((steps + 1 + min (last - 1) 1 : Nat) : Int))) := by
        show some (Ow.d (.int _)) = _
        congr 3
      simp only [if_true]
      generalize ((min (last - 1) 1 : Nat) : Int) = ML at gi ad
      generalize ((steps + 1 + min (last - 1) 1 : Nat) : Int) = MM at ad ⊢
      generalize decide ((1 : Int) < (last : Int)) = bl at g1 gi
      simp [g1, gi, ad]) rfl
end
end G
set_option Elab.async false
set_option linter.all false
set_option maxRecDepth 100000
set_option maxHeartbeats 4000000
namespace G
open PySem PySem.Spec L2 Mir
noncomputable section
abbrev lD (m : Nat → List PyData → R Ow) : Ev → SR := (sSeq (sIf (tOrE (eB (eBin gNe (eM (eB (aCons (eVar 12) (aCons (eVar 14) aNil)) (m 13)) viewD) (eVar 3)) asB) (tOrE (eB (eBin gNe (eM (eB (aCons (eVar 12) (aCons (eVar 14) aNil)) (m 14)) viewD) (eVar 17)) asB) (eB (eBin gNe (eBin gIx (eB (eB (aCons (eVar 12) (aCons (eVar 14) (aCons (eTup aNil) aNil))) (m 17)) shD) (eC (.int 0))) (eBin gIx (eVar 15) (eC (.int 0)))) asB)))
    (sRet (eM (eC (.bool false)) Ow.d))
    sSkip)
    (sSeq (sFor (eB (aCons (eC (.int 2)) aNil) rg1) (gtName 18)
    (sSeq (sSet 19 (eM (eM (eB (aCons (eVar 12) (aCons (eVar 14) (aCons (eVar 18) aNil))) (m 32)) viewD) Ow.d))
    (sIf (tOrE (eB (eBin gGt (eVar 3) (eC (.int 400))) asB) (eB (eBin gGt (eVar 17) (eC (.int 60))) asB))
    (sIf (eB (eBin gNe (eVar 19) (eM (eLst (aCons (eC (.bool true)) aNil)) viewD)) asB)
    (sRet (eM (eC (.bool false)) Ow.d))
    sSkip)
    (sIf (tNotE (eB (eM (eB (aCons (eVar 19) (aCons (eVar 15) aNil)) (m 31)) viewD) asB))
    (sRet (eM (eC (.bool false)) Ow.d))
    sSkip))))
    (sRet (eB (aCons (eM (eB (aCons (eVar 12) (aCons (eTup (aCons (eBin gIx (eVar 1) (eC (.int 1))) (aCons (eVar 13) (aCons (eTup aNil) aNil)))) (aCons (eC (.int 0)) aNil))) (m 32)) viewD) (aCons (eM (eB (aCons (eVar 8) (aCons (eVar 13) (aCons (eC .none) aNil))) (m 30)) viewD) aNil)) (m 31)))))
theorem ans_of {n : Nat} {T U : D} {ask : Int} {o : Tr} (h0 : ask = 0 → mir n 20 [T, U] = within o) (h1 : ask ≠ 0 → mir n 21 [T, .int 0, U] = within o) : ∃ w, mir (n + 1) 32 [T, U, .int ask] = .ok w ∧ viewD w = if sizeT o ≤ 400 ∧ levT o ≤ 60 then encT o else .list [.bool true] := by
  by_cases c : sizeT o ≤ 400 ∧ levT o ≤ 60
  · rw [if_pos c]
    refine answer_ok n T U ask (within o) h0 h1 (encT o) (.inl ?_)
    unfold within
    rw [if_pos c]
  · rw [if_neg c]
    refine answer_ok n T U ask (within o) h0 h1 _ (.inr ⟨?_, rfl⟩)
    unfold within
    rw [if_neg c]
theorem partD (n : Nat) (hn : 175 ≤ n) (hn2 : n ≤ 900) (SC : D) {NS : D} {N : Nat → Str} (hN : NamesD NS N) (sd : Bool) (goal each steps last : Nat) (nb : Int) (hu : Nums sd goal each steps last) (A : Int) (M : Nat → Int) (hMs : (M steps).natAbs < 2 ^ 250) (x10 x11 x16 : Option Ow) :
    finR (lD (mir (n + 2)) (e26 SC NS nb goal sd each steps last (some (.d (encM (bareR sd N A last)))) (some (.d (encM (fullR sd N A each)))) x10 x11 (some (.d (encTn (tn2 N (bareR sd N A last) (fullR sd N A each))))) (some (.d (.int (M steps)))) (some (.d (encT (chK N M steps)))) (some (.d (encT (out2 (bareR sd N A last) (fullR sd N A each) M steps)))) x16 (some (.d (.int (levT (out2 (bareR sd N A last) (fullR sd N A each) M steps) : Nat)))) none none)) = .ok (.d (.bool true)) := by
  have e2 := hu.e2
  have l1 := hu.l1
  have st := hu.steps_le
  have tw := two_R hN A sd (each := each) (last := last) (by omega) l1
  have sz := size_R sd N A (each := each) (last := last) e2.1 l1.1
  obtain ⟨z, za, zc, om, hz⟩ := out_mk (BB := 0) sd N A each last M steps
  have h12 := hN.ne 1 2 (by decide) (by decide) (by decide)
  obtain ⟨BB, hBB⟩ : ∃ BB, BB = bbR sd each := ⟨_, rfl⟩
  have fu : (steps + 2) * (BB + 1) + BB + 7 ≤ n ∧ 1 ≤ BB ∧ BB ≤ 21 := by
    rw [hBB]
    unfold bbR
    cases sd with
    | true =>
      simp only [if_true]
      have := st.1
      omega
    | false =>
      simp only [Bool.false_eq_true, if_false]
      obtain ⟨a, b⟩ := st.2 rfl
      obtain ⟨_, _, c⟩ := hu.gf rfl
      have m : (steps + 2) * (each + 1 + 1) = steps * each + 2 * steps + 2 * each + 4 := by
        rw [Nat.add_mul, Nat.mul_add, Nat.mul_add]
        omega
      omega
  rw [← hBB] at tw
  obtain ⟨B, hB⟩ : ∃ B, B = bareR sd N A last := ⟨_, rfl⟩
  obtain ⟨F, hF⟩ : ∃ F, F = fullR sd N A each := ⟨_, rfl⟩
  rw [← hB, ← hF] at tw sz om ⊢
  have szs := sz M steps
  rw [← hu.gl] at szs
  have snd := snd_t2 h12 tw
  obtain ⟨fs, gs⟩ := start_t2 (N := N) (B := B) (F := F) (BB := BB) fu.2.1
  have wd0 : (tn2 N B F).wood[0]? = some (N 0, rws2 N) := rfl
  have io := isOf_t2 (N := N) h12 (B := B) (F := F) M steps
  have lv := chK_lev N M steps
  have ab := above_t2 h12 tw M steps
  obtain ⟨mn, tl⟩ := many_ok snd (n + 2) (chK N M steps) wd0 (by rw [lv]; omega) fs gs io
  have sn := seen_ok snd (n + 2) (chK N M steps) [] wd0 (by rw [lv]; omega) (by omega) fs gs io
  rw [ab] at mn tl sn
  have tu := turned_ok snd (n + 1) (chK N M steps) wd0 (by rw [lv]; show (steps + 2) * (BB + 1) + BB + 7 ≤ _; omega) fs gs
  have ti := turnedIn_ok snd (n + 1) (chK N M steps) (m := 0) (p := (N 0, rls2 N B F)) rfl (by rw [lv]; show (steps + 2) * (BB + 1) + BB + 7 ≤ _; omega) fu.2.1
  rw [if_pos io, ab] at tu
  rw [if_pos io] at ti
  have ti : mir (n + 1) 21 [encTn (tn2 N B F), .int 0, encT (chK N M steps)] = within (madT (tn2 N B F) (chK N M steps) (ruleF (tn2 N B F) 0 (trNm (chK N M steps)))) := ti
  rw [mad_t2 h12 tw M steps] at ti
  obtain ⟨M', hM'⟩ : ∃ M' : Nat → Int, M' = fun _ => M steps := ⟨_, rfl⟩
  have lv0 := chK_lev N M' 0
  have tu0 := turned_ok snd (n + 1) (chK N M' 0) wd0 (by
    rw [lv0]
    show 2 * (BB + 1) + BB + 7 ≤ _
    omega) fs gs
  rw [if_pos (isOf_t2 h12 M' 0), above_t2 h12 tw M' 0] at tu0
  have sz0 := sz M' 0
  have okO := okT_out tw M steps
  have okO0 := okT_out tw M' 0
  have lb0 : levT (out2 B F M' 0) ≤ 60 := by
    have := sz0.2
    cases sd <;> simp at this <;> omega
  have lp := lawPut_ok hMs out2.noTr .none (n + 1) B (by have := tw.gB.lev; omega) tw.gB.ok (.inl tw.nB)
  have eo0 : out2 B F M' 0 = putL (M steps) out2.noTr B := by rw [out2, hM']
  rw [← eo0] at lp
  have ec0 : encT (chK N M' 0) = .tuple [.str (N 1), .int (M steps), .tuple []] := by rw [chK, encT_mk, hM']; rfl
  rw [ec0] at tu0
  obtain ⟨w0, a0, v0⟩ := ans_of (ask := 0) (fun _ => tu0) (fun h => absurd rfl h)
  rw [if_pos ⟨by omega, lb0⟩] at v0
  have wk0 := walk_ok n (out2 B F M' 0) okO0 lb0 (by omega)
  have n1 : gIx NS (.int 1) = some (.str (N 1)) := hN.ix 1 (by decide)
  obtain ⟨O, hO⟩ : ∃ O, O = out2 B F M steps := ⟨_, rfl⟩
  rw [← hO] at mn tl sn tu ti okO om szs ⊢
  have s0 : sizeT O = goal := szs.1
  rw [s0] at mn
  have ixd : gIx (encT O) (.int 0) = some (.str z) := by rw [om, encT_mk]; rfl
  have sn' : mir (n + 2) 17 [encTn (tn2 N B F), encT (chK N M steps), .tuple []] = .ok (.d (.tuple [.str z, .int za, .int (zc.length : Nat)])) := by
    have e : labD (atT O []) = .tuple [.str z, .int za, .int (zc.length : Nat)] := by rw [om]; rfl
    rw [← e]
    exact sn
  have okz : PyData.strOk z = true := by
    rcases hz with rfl | rfl
    · exact hN.ok 3 (by decide)
    · exact hN.ok 4 (by decide)
  have nez : gNe (.str z) (.str z) = some (.bool false) := gNe_self ⟨by simp [PyData.canLay0, okz], by simp [PyData.depth]⟩
  have nei : ∀ i : Int, gNe (.int i) (.int i) = some (.bool false) := fun i => gNe_self ⟨by simp [PyData.canLay0], by simp [PyData.depth]⟩
  have neg := nei (goal : Nat)
  have nel := nei (levT O : Nat)
  have i0 : gIx (.tuple [.str z, .int za, .int (zc.length : Nat)]) (.int 0) = some (.str z) := rfl
  have g4 : gGt (.int (goal : Nat)) (.int 400) = some (.bool (decide (400 < goal))) := by
    show some (PyData.bool (decide ((400 : Int) < (goal : Int)))) = _
    congr 2
    exact decide_eq_decide.mpr ⟨fun h => by omega, fun h => by omega⟩
  have g6 : gGt (.int (levT O : Nat)) (.int 60) = some (.bool (decide (60 < levT O))) := by
    show some (PyData.bool (decide ((60 : Int) < ((levT O : Nat) : Int)))) = _
    congr 2
    exact decide_eq_decide.mpr ⟨fun h => by omega, fun h => by omega⟩
  have nlt : Nice (.list [.bool true]) := ⟨by simp [PyData.canLay0, PyData.canLayAll0], by simp [PyData.depth, PyData.depthAll]⟩
  have net := gNe_self nlt
  have vt : viewD (.l [.d (.bool true)]) = .list [.bool true] := vw_ls [.bool true]
  clear hM' sz szs tw snd fs gs io hB hF hO om hBB fu
  generalize encTn (tn2 N B F) = TN at mn tl sn' tu ti tu0 a0 ⊢
  generalize encT (chK N M steps) = CH at mn tl sn' tu ti ⊢
  generalize encM B = EB at lp ⊢
  generalize encM F = EF
  generalize M steps = Mk at lp tu0 a0 ⊢
  refine fin_step (env1 := e26 SC NS nb goal sd each steps last (some (.d EB)) (some (.d EF)) x10 x11 (some (.d TN)) (some (.d (.int Mk))) (some (.d CH)) (some (.d (encT O))) x16 (some (.d (.int (levT O : Nat)))) none none) (by
    unfold e26
    generalize encT O = EO at ixd ⊢
    generalize ((levT O : Nat) : Int) = LO at tl nel ⊢
    generalize ((goal : Nat) : Int) = Gi at mn neg ⊢
    generalize PyData.tuple [.str z, .int za, .int (zc.length : Nat)] = LB at sn' i0
    simp [mn, neg, tl, nel, sizeLine_eq, sn', i0, ixd, nez]) ?_
  have key := forL_ind (g := gtName 18) (f := (sSeq (sSet 19 (eM (eM (eB (aCons (eVar 12) (aCons (eVar 14) (aCons (eVar 18) aNil))) (mir (n + 2) 32)) viewD) Ow.d))
    (sIf (tOrE (eB (eBin gGt (eVar 3) (eC (.int 400))) asB) (eB (eBin gGt (eVar 17) (eC (.int 60))) asB))
    (sIf (eB (eBin gNe (eVar 19) (eM (eLst (aCons (eC (.bool true)) aNil)) viewD)) asB)
    (sRet (eM (eC (.bool false)) Ow.d))
    sSkip)
    (sIf (tNotE (eB (eM (eB (aCons (eVar 19) (aCons (eVar 15) aNil)) (mir (n + 2) 31)) viewD) asB))
    (sRet (eM (eC (.bool false)) Ow.d))
    sSkip)))) (rangeD 0 2)
    (fun i env => ∃ x18 x19, env = e26 SC NS nb goal sd each steps last (some (.d EB)) (some (.d EF)) x10 x11 (some (.d TN)) (some (.d (.int Mk))) (some (.d CH)) (some (.d (encT O))) x16 (some (.d (.int (levT O : Nat)))) x18 x19) (fun i d env hi ⟨x18, x19, he⟩ => by
      subst he
      obtain ⟨hil, rfl⟩ := rangeD_at hi
      obtain ⟨w, aw, vw⟩ := ans_of (n := n + 1) (T := TN) (U := CH) (ask := 0 + (i : Int)) (o := O) (fun _ => tu) (fun _ => ti)
      have aw : mir (n + 2) 32 [TN, CH, .int (0 + (i : Int))] = .ok w := aw
      simp only [Int.zero_add] at aw ⊢
      refine ⟨_, rfl, e26 SC NS nb goal sd each steps last (some (.d EB)) (some (.d EF)) x10 x11 (some (.d TN)) (some (.d (.int Mk))) (some (.d CH)) (some (.d (encT O))) x16 (some (.d (.int (levT O : Nat)))) (some (.d (.int (i : Nat)))) (some (.d (viewD w))), .inl ?_, _, _, rfl⟩
      by_cases c : sizeT O ≤ 400 ∧ levT O ≤ 60
      · rw [if_pos c] at vw
        have wk := walk_ok n O okO c.2 (by omega)
        rw [decide_eq_false (by omega)] at g4 g6
        rw [vw]
        unfold e26
        generalize encT O = EO at wk vw ⊢
        generalize ((levT O : Nat) : Int) = LO at g6 ⊢
        generalize ((goal : Nat) : Int) = Gi at g4 ⊢
        simp [aw, vw, g4, g6, wk]
      · rw [if_neg c] at vw
        rw [vw]
        unfold e26
        generalize encT O = EO
        by_cases c4 : 400 < goal
        · rw [decide_eq_true c4] at g4
          generalize ((levT O : Nat) : Int) = LO at g6 ⊢
          generalize ((goal : Nat) : Int) = Gi at g4 ⊢
          generalize PyData.list [.bool true] = LT at vw vt net ⊢
          simp [aw, vw, g4, sizeLine_eq, vt, net]
        · rw [decide_eq_false c4] at g4
          rw [decide_eq_true (by omega)] at g6
          generalize ((levT O : Nat) : Int) = LO at g6 ⊢
          generalize ((goal : Nat) : Int) = Gi at g4 ⊢
          generalize PyData.list [.bool true] = LT at vw vt net ⊢
          simp [aw, vw, g4, g6, sizeLine_eq, vt, net]) (e26 SC NS nb goal sd each steps last (some (.d EB)) (some (.d EF)) x10 x11 (some (.d TN)) (some (.d (.int Mk))) (some (.d CH)) (some (.d (encT O))) x16 (some (.d (.int (levT O : Nat)))) none none) ⟨none, none, rfl⟩
  obtain ⟨env', f1, x18, x19, f2⟩ := key
  subst f2
  have rg := rg1_nat 2 (by decide)
  refine fin_step (env1 := _) (by
    rw [sFor_eq]
    have : (eB (aCons (eC (.int 2)) aNil) rg1) (e26 SC NS nb goal sd each steps last (some (.d EB)) (some (.d EF)) x10 x11 (some (.d TN)) (some (.d (.int Mk))) (some (.d CH)) (some (.d (encT O))) x16 (some (.d (.int (levT O : Nat)))) none none) = .ok (rangeD 0 2) := by
      simp only [eB_eq, aCons_eq, eC_eq, R.bind_ok, aNil_eq, R.map_ok]
      exact rg
    rw [this, R.st_ok]
    exact f1) ?_
  have a0 : mir (n + 2) 32 [TN, .tuple [.str (N 1), .int Mk, .tuple []], .int 0] = .ok w0 := a0
  unfold e26
  generalize encT (out2 B F M' 0) = E0 at v0 wk0 lp
  generalize encT O = EO
  generalize ((levT O : Nat) : Int) = LO
  simp [n1, sizeLine_eq, a0, v0, lp, wk0, finR]
theorem law_true (L : Nat) (hL : 180 ≤ L) (hL2 : L ≤ 900) (ns : List Int) : mir L 34 [.list (ns.map PyData.int)] = .ok (.d (.bool true)) := by
  obtain ⟨n, rfl⟩ : ∃ n, L = n + 3 := ⟨L - 3, by omega⟩
  rw [show n + 3 = (n + 2) + 1 from rfl, mir_law, run_law]
  rw [show envOf 19 [PyData.list (ns.map PyData.int)] = [some (.d (scD ns)), none, none, none, none, none, none, none, none, none, none, none, none, none, none, none, none, none, none, none] from rfl]
  obtain ⟨NS, N, sd, goal, each, steps, last, nb, hN, hu, e1⟩ := partA n ns (lB (mir (n + 2)) (lC (mir (n + 2)) (lD (mir (n + 2)))))
  refine (congrArg finR e1).trans ?_
  obtain ⟨A, x10, x11, e2⟩ := partB n ns hN sd goal each steps last nb hu (lC (mir (n + 2)) (lD (mir (n + 2))))
  refine (congrArg finR e2).trans ?_
  obtain ⟨M, x16, e3, hM⟩ := partC n (by omega) ns hN sd goal each steps last nb hu A x10 x11 (some (.d (encTn (tn2 N (bareR sd N A last) (fullR sd N A each))))) (lD (mir (n + 2)))
  refine (congrArg finR e3).trans ?_
  exact partD n (by omega) (by omega) (scD ns) hN sd goal each steps last nb hu A M hM x10 x11 x16
end
end G
open PySem PySem.W PyProof.Rows
set_option maxRecDepth 100000 in
set_option maxHeartbeats 0 in
theorem PySem.Challenge.cw_turnery_k26_outcomes_too_great_holds : PySem.Challenge.rw_turnery_k26_outcomes_too_great.Holds := by
  w_on; o_law; k_head; (case hw => w_witness2)
  k_fill
  refine Mir.law_end (l := PySem.Challenge.rw_turnery_k26_outcomes_too_great) (m := G.mir 180 34) 180 "_law_script" rfl rfl ⟨rfl, by decide, by decide⟩ (fun w h Y => PySem.W.kIn_of Y) (fun ns h _ => G.law_true 180 (by decide) (by decide) ns) ?F
  case F =>
    intro w mg fa h KX Gn hmg
    refine' G.all_mk 180 KX Gn hmg ?a0 ?l0 ?c0 ?k0 ?a1 ?l1 ?c1 ?k1 ?a2 ?l2 ?c2 ?k2 ?a3 ?l3 ?c3 ?k3 ?a4 ?l4 ?c4 ?k4 ?a5 ?l5 ?c5 ?k5 ?a6 ?l6 ?c6 ?k6 ?a7 ?l7 ?c7 ?k7 ?a8 ?l8 ?c8 ?k8 ?a9 ?l9 ?c9 ?k9 ?a10 ?l10 ?c10 ?k10 ?a11 ?l11 ?c11 ?k11 ?a12 ?l12 ?c12 ?k12 ?a13 ?l13 ?c13 ?k13 ?a14 ?l14 ?c14 ?k14 ?a15 ?l15 ?c15 ?k15 ?a16 ?l16 ?c16 ?k16 ?a17 ?l17 ?c17 ?k17 ?a18 ?l18 ?c18 ?k18 ?a19 ?l19 ?c19 ?k19 ?a20 ?l20 ?c20 ?k20 ?a21 ?l21 ?c21 ?k21 ?a22 ?l22 ?c22 ?k22 ?a23 ?l23 ?c23 ?k23 ?a24 ?l24 ?c24 ?k24 ?a25 ?l25 ?c25 ?k25 ?a26 ?l26 ?c26 ?k26 ?a27 ?l27 ?c27 ?k27 ?a28 ?l28 ?c28 ?k28 ?a29 ?l29 ?c29 ?k29 ?a30 ?l30 ?c30 ?k30 ?a31 ?l31 ?c31 ?k31 ?a32 ?l32 ?c32 ?k32 ?a33 ?l33 ?c33 ?k33 ?a34 ?l34 ?c34 ?k34 ?z_ValueError ?z_bool ?z_enumerate ?z_int ?z_isinstance ?z_len ?z_list ?z_max ?z_range ?z_sorted ?z_str ?z_tuple ?z_zip ?e_NoTree ?e_TooGreat ?e_TurnError ?xb_NoTree ?xt_NoTree ?xd_NoTree ?xs_NoTree ?xb_TooGreat ?xt_TooGreat ?xd_TooGreat ?xs_TooGreat ?xb_TurnError ?xt_TurnError ?xd_TurnError ?xs_TurnError ?xe_NoTree ?xk_NoTree ?y0_NoTree ?y1_NoTree ?y2_NoTree ?y3_NoTree ?y4_NoTree ?y5_NoTree ?xe_TooGreat ?xk_TooGreat ?y0_TooGreat ?y1_TooGreat ?y2_TooGreat ?y3_TooGreat ?y4_TooGreat ?y5_TooGreat ?hci_NoTree_NoTree ?hci_TooGreat_NoTree ?hci_NoTree_ValueError ?hci_TooGreat_ValueError ?hci_NoTree_TurnError ?hci_TooGreat_TurnError ?hcm_TooGreat_TooGreat ?hcm_NoTree_TooGreat ?hkn_NoTree ?hkn_TurnError
    (case a0 => k_is)
    (case l0 => k_is)
    (case c0 => k_is)
    (case k0 => k_is)
    (case a1 => k_is)
    (case l1 => k_is)
    (case c1 => k_is)
    (case k1 => k_is)
    (case a2 => k_is)
    (case l2 => k_is)
    (case c2 => k_is)
    (case k2 => k_is)
    (case a3 => k_is)
    (case l3 => k_is)
    (case c3 => k_is)
    (case k3 => k_is)
    (case a4 => k_is)
    (case l4 => k_is)
    (case c4 => k_is)
    (case k4 => k_is)
    (case a5 => k_is)
    (case l5 => k_is)
    (case c5 => k_is)
    (case k5 => k_is)
    (case a6 => k_is)
    (case l6 => k_is)
    (case c6 => k_is)
    (case k6 => k_is)
    (case a7 => k_is)
    (case l7 => k_is)
    (case c7 => k_is)
    (case k7 => k_is)
    (case a8 => k_is)
    (case l8 => k_is)
    (case c8 => k_is)
    (case k8 => k_is)
    (case a9 => k_is)
    (case l9 => k_is)
    (case c9 => k_is)
    (case k9 => k_is)
    (case a10 => k_is)
    (case l10 => k_is)
    (case c10 => k_is)
    (case k10 => k_is)
    (case a11 => k_is)
    (case l11 => k_is)
    (case c11 => k_is)
    (case k11 => k_is)
    (case a12 => k_is)
    (case l12 => k_is)
    (case c12 => k_is)
    (case k12 => k_is)
    (case a13 => k_is)
    (case l13 => k_is)
    (case c13 => k_is)
    (case k13 => k_is)
    (case a14 => k_is)
    (case l14 => k_is)
    (case c14 => k_is)
    (case k14 => k_is)
    (case a15 => k_is)
    (case l15 => k_is)
    (case c15 => k_is)
    (case k15 => k_is)
    (case a16 => k_is)
    (case l16 => k_is)
    (case c16 => k_is)
    (case k16 => k_is)
    (case a17 => k_is)
    (case l17 => k_is)
    (case c17 => k_is)
    (case k17 => k_is)
    (case a18 => k_is)
    (case l18 => k_is)
    (case c18 => k_is)
    (case k18 => k_is)
    (case a19 => k_is)
    (case l19 => k_is)
    (case c19 => k_is)
    (case k19 => k_is)
    (case a20 => k_is)
    (case l20 => k_is)
    (case c20 => k_is)
    (case k20 => k_is)
    (case a21 => k_is)
    (case l21 => k_is)
    (case c21 => k_is)
    (case k21 => k_is)
    (case a22 => k_is)
    (case l22 => k_is)
    (case c22 => k_is)
    (case k22 => k_is)
    (case a23 => k_is)
    (case l23 => k_is)
    (case c23 => k_is)
    (case k23 => k_is)
    (case a24 => k_is)
    (case l24 => k_is)
    (case c24 => k_is)
    (case k24 => k_is)
    (case a25 => k_is)
    (case l25 => k_is)
    (case c25 => k_is)
    (case k25 => k_is)
    (case a26 => k_is)
    (case l26 => k_is)
    (case c26 => k_is)
    (case k26 => k_is)
    (case a27 => k_is)
    (case l27 => k_is)
    (case c27 => k_is)
    (case k27 => k_is)
    (case a28 => k_is)
    (case l28 => k_is)
    (case c28 => k_is)
    (case k28 => k_is)
    (case a29 => k_is)
    (case l29 => k_is)
    (case c29 => k_is)
    (case k29 => k_is)
    (case a30 => k_is)
    (case l30 => k_is)
    (case c30 => k_is)
    (case k30 => k_is)
    (case a31 => k_is)
    (case l31 => k_is)
    (case c31 => k_is)
    (case k31 => k_is)
    (case a32 => k_is)
    (case l32 => k_is)
    (case c32 => k_is)
    (case k32 => k_is)
    (case a33 => k_is)
    (case l33 => k_is)
    (case c33 => k_is)
    (case k33 => k_is)
    (case a34 => k_is)
    (case l34 => k_is)
    (case c34 => k_is)
    (case k34 => k_is)
    (case z_ValueError => k_is)
    (case z_bool => k_is)
    (case z_enumerate => k_is)
    (case z_int => k_is)
    (case z_isinstance => k_is)
    (case z_len => k_is)
    (case z_list => k_is)
    (case z_max => k_is)
    (case z_range => k_is)
    (case z_sorted => k_is)
    (case z_str => k_is)
    (case z_tuple => k_is)
    (case z_zip => k_is)
    (case e_NoTree => k_is)
    (case e_TooGreat => k_is)
    (case e_TurnError => k_is)
    (case xb_NoTree => k_is)
    (case xt_NoTree => k_is)
    (case xd_NoTree => k_is)
    (case xs_NoTree => k_is)
    (case xb_TooGreat => k_is)
    (case xt_TooGreat => k_is)
    (case xd_TooGreat => k_is)
    (case xs_TooGreat => k_is)
    (case xb_TurnError => k_is)
    (case xt_TurnError => k_is)
    (case xd_TurnError => k_is)
    (case xs_TurnError => k_is)
    (case xe_NoTree => k_exc)
    (case xk_NoTree => k_is)
    (case y0_NoTree => k_is)
    (case y1_NoTree => k_is)
    (case y2_NoTree => k_is)
    (case y3_NoTree => k_is)
    (case y4_NoTree => k_is)
    (case y5_NoTree => k_is)
    (case xe_TooGreat => k_exc)
    (case xk_TooGreat => k_is)
    (case y0_TooGreat => k_is)
    (case y1_TooGreat => k_is)
    (case y2_TooGreat => k_is)
    (case y3_TooGreat => k_is)
    (case y4_TooGreat => k_is)
    (case y5_TooGreat => k_is)
    (case hci_NoTree_NoTree => k_is)
    (case hci_TooGreat_NoTree => k_is)
    (case hci_NoTree_ValueError => k_is)
    (case hci_TooGreat_ValueError => k_is)
    (case hci_NoTree_TurnError => k_is)
    (case hci_TooGreat_TurnError => k_is)
    (case hcm_TooGreat_TooGreat => k_is)
    (case hcm_NoTree_TooGreat => k_is)
    (case hkn_NoTree => k_is)
    (case hkn_TurnError => k_is)


import PyProof.Rows.All
import Wide.All
import OpenK.AllK
import Wide.FinOn
import HandS.ForMost
import HandS.ForExc
import HandS.Walk
import HandS.TupAny
import HandS.Wide
import HandS.IsInst
import KE.KDictKeyed
import PyProof.P3Eq
import PyProof.NeData
import PyProof.Rows.SeqMore
import KE.GoesNew
import KE.GoesMore
import KE.GoesEnum
import HandS.Zip
import PyProof.AutoSeq1
import HandS.More
import KE.SortData
import HandS.EndBits
import HandS.Steps
import HandS.Rev
import PyProof.StrOps2
import HandS.Text
import HandS.Dict
import KE.KDictSum
import HandS.ExcIs
import HandS.TryOnly
import HandS.RevRange
import HandS.List
import PyProof.StrCalls
import KE.DataMinMax
import HandS.Style
import PySem.Challenge.RW_turnery_k60_starts_that_stray
set_option Elab.async false
set_option linter.all false
set_option maxRecDepth 100000
set_option maxHeartbeats 4000000
noncomputable section
namespace Mir
open PySem PySem.Spec L2

abbrev D := PyData
/-- what stands in the program's heap, and the world -/
structure Kw where
  K : PySem.W.Frag
  w : World
instance : CoeOut Kw PySem.W.Frag := ⟨Kw.K⟩
/-- a value in a mirror: data that stays, or a list or a dict that the def owns -/
inductive Ow where
  | d (x : D)
  | l (xs : List Ow)
  | m (kvs : List (D × D))
  /-- a tuple with own things in it -/
  | t (xs : List Ow)
  /-- a dict whose keys are whole numbers and texts, and one whose keys are tuples; its values may be own -/
  | k (ks : List D) (xs : List Ow)
  | n (ks : List D) (xs : List Ow)
  /-- an instance of a class, its fields by names -/
  | o (c : Str) (ns : List Str) (xs : List Ow)
abbrev Ev := List (Option Ow)
abbrev _root_.L2.Cx.KK (X : L2.Cx) : Kw := ⟨X.K, X.w⟩

/-- a pure outcome: none (not mirrored), a value, an exception's class -/
inductive R (α : Type) where
  | no
  | ok (a : α)
  | ex (c : Str)
def R.bind {α β : Type} : R α → (α → R β) → R β
  | .no, _ => .no
  | .ok a, f => f a
  | .ex c, _ => .ex c
@[simp] theorem R.bind_ok {α β : Type} (a : α) (f : α → R β) : (R.ok a).bind f = f a := rfl
@[simp] theorem R.bind_no {α β : Type} (f : α → R β) : (R.no : R α).bind f = .no := rfl
@[simp] theorem R.bind_ex {α β : Type} (c : Str) (f : α → R β) : (R.ex c : R α).bind f = .ex c := rfl
def R.map {α β : Type} (f : α → β) (r : R α) : R β := r.bind fun a => .ok (f a)
@[simp] theorem R.map_ok {α β : Type} (a : α) (f : α → β) : (R.ok a).map f = .ok (f a) := rfl
/-- r where c holds (by a choice that nothing reckons with) -/
def guard (c : Prop) {α : Type} (r : R α) : R α := @ite _ c (Classical.propDecidable c) r .no
@[simp] theorem guard_pos {c : Prop} {α : Type} {r : R α} (h : c) : guard c r = r := @if_pos _ (Classical.propDecidable c) h _ _ _

/-- how an exception of a class, and any instance, is told as data -/
def excD (c : Str) : D := .dict [(.none, .str c)]
def insD : D := .dict [(.none, .none)]
mutual
def viewD : Ow → D
  | .d x => x
  | .l xs => .list (viewAll xs)
  | .m kvs => .dict kvs
  | .t xs => .tuple (viewAll xs)
  | .k ks xs => .dict (ks.zip (viewAll xs))
  | .n ks xs => .dict (ks.zip (viewAll xs))
  | .o _ _ _ => insD
def viewAll : List Ow → List D
  | [] => []
  | x :: xs => viewD x :: viewAll xs
end
@[simp] theorem viewD_d (x : D) : viewD (.d x) = x := by unfold viewD; rfl
@[simp] theorem viewD_m (kvs : List (D × D)) : viewD (.m kvs) = .dict kvs := by rw [viewD]
@[simp] theorem viewD_l (xs : List Ow) : viewD (.l xs) = .list (viewAll xs) := by rw [viewD]
@[simp] theorem viewD_t (xs : List Ow) : viewD (.t xs) = .tuple (viewAll xs) := by rw [viewD]
@[simp] theorem viewD_k (ks : List D) (xs : List Ow) : viewD (.k ks xs) = .dict (ks.zip (viewAll xs)) := by rw [viewD]
@[simp] theorem viewD_n (ks : List D) (xs : List Ow) : viewD (.n ks xs) = .dict (ks.zip (viewAll xs)) := by rw [viewD]
@[simp] theorem viewD_o (c : Str) (ns : List Str) (xs : List Ow) : viewD (.o c ns xs) = insD := by rw [viewD]
@[simp] theorem viewAll_nil : viewAll [] = [] := by rw [viewAll]
@[simp] theorem viewAll_cons (x : Ow) (xs : List Ow) : viewAll (x :: xs) = viewD x :: viewAll xs := by rw [viewAll]
theorem viewAll_map : ∀ xs : List Ow, viewAll xs = xs.map viewD
  | [] => by rw [viewAll]; rfl
  | x :: xs => by rw [viewAll, viewAll_map xs]; rfl
@[simp] theorem viewAll_mapd : ∀ xs : List D, viewAll (xs.map Ow.d) = xs
  | [] => by simp
  | x :: xs => by simp [viewAll_mapd xs]

/-- a dict's key as data -/
def keyD : Key → D
  | .inl i => .int i
  | .inr z => .str z
/-- an exception of a class of the program's own -/
def excO (K : Kw) (a : Addr) (c : Str) : HO := .ext fun h => ∃ C oe vs, PySem.W.nsIn K.K mainGlobals c = some (some (.ref C)) ∧ h.get? a = some oe ∧ Zc (.ref C) none oe ∧ oe.data = .fields vs
/-- a dict whose keys are tuples, nested ones among them -/
def rowN (w : World) (x : NestedKey × Addr × Value) : DictEntry := ⟨x.1.hash w, .ref x.2.1, x.2.2⟩
def RelN (p : NestedKey × Addr × V) (q : NestedKey × Addr × Value) : Prop := p.1 = q.1 ∧ p.2.1 = q.2.1 ∧ RelV p.2.2 q.2.2
def dnO (w : World) (a : Addr) (kvs : List (NestedKey × Addr × V)) : HO := .ext fun h => kvs.length ≤ sizeLine ∧ (a == sysModules) = false ∧ ∃ xs : List (NestedKey × Addr × Value), Paired RelN kvs xs ∧
  ∃ o es ep, h.get? a = some o ∧ o.ExactDict ∧ o.data = .dict es ep ∧ es.toList = xs.map (rowN w) ∧ (xs.map (·.1)).Nodup
mutual
inductive Dp (K : Kw) (H : Hp) : V → PyData → Prop
  | non : Dp K H .non .none
  | bl (b : Bool) : Dp K H (.bl b) (.bool b)
  | int (i : Int) : Dp K H (.int i) (.int i)
  | str (x : Str) : Dp K H (.str x) (.str x)
  | lst {a : Addr} {xs : List V} {ds : List PyData} : SqL K.K H a xs → DpAll K H xs ds → Dp K H (.ref a) (.list ds)
  | tup {a : Addr} {xs : List V} {ds : List PyData} : SqT K.K H a xs → DpAll K H xs ds → Dp K H (.ref a) (.tuple ds)
  | dct {a : Addr} {kvs : List (Key × V)} {ps : List (PyData × PyData)} : Rd H a (.dK kvs) → DpKv K H kvs ps → Dp K H (.ref a) (.dict ps)
  | dcn {a : Addr} {kvs : List (NestedKey × Addr × V)} {ps : List (PyData × PyData)} : Rd H a (dnO K.w a kvs) → DpKn K H kvs ps → Dp K H (.ref a) (.dict ps)
  | exc {a : Addr} {c : Str} : Rd H a (excO K a c) → Dp K H (.ref a) (.dict [(.none, .str c)])
  | ins {a C dx : Addr} {fs : List (Str × V)} : H a = some (.ins C dx fs) → Dp K H (.ref a) (.dict [(.none, .none)])
inductive DpAll (K : Kw) (H : Hp) : List V → List PyData → Prop
  | nil : DpAll K H [] []
  | cons {v : V} {vs : List V} {d : PyData} {ds : List PyData} : Dp K H v d → DpAll K H vs ds → DpAll K H (v :: vs) (d :: ds)
inductive DpKv (K : Kw) (H : Hp) : List (Key × V) → List (PyData × PyData) → Prop
  | nil : DpKv K H [] []
  | cons {k : Key} {v : V} {kvs : List (Key × V)} {d : PyData} {ps : List (PyData × PyData)} : Dp K H v d → DpKv K H kvs ps → DpKv K H ((k, v) :: kvs) ((keyD k, d) :: ps)
inductive DpKn (K : Kw) (H : Hp) : List (NestedKey × Addr × V) → List (PyData × PyData) → Prop
  | nil : DpKn K H [] []
  | cons {k : NestedKey} {b : Addr} {v : V} {kvs : List (NestedKey × Addr × V)} {d : PyData} {ps : List (PyData × PyData)} : Dp K H (.ref b) k.data → k.depth ≤ 8 → Dp K H v d → DpKn K H kvs ps → DpKn K H ((k, b, v) :: kvs) ((k.data, d) :: ps)
end
section
variable {K : Kw}
theorem Same.rd {H H' : Hp} {a : Addr} {u : HO} (e : Same H H') (h : Rd H a u) : Rd H' a u := by
  rcases h with h | ⟨o, h⟩
  · exact .inl (e _ _ h)
  · exact .inr ⟨o, e _ _ h⟩
theorem SqT_mono {K : PySem.W.Frag} {H H' : Hp} {a : Addr} {xs : List V} (e : Same H H') (h : SqT K H a xs) : SqT K H' a xs := by
  rcases h with (h | ⟨o, h⟩) | h
  · exact .inl (.inl (e _ _ h))
  · exact .inl (.inr ⟨o, e _ _ h⟩)
  · exact .inr h
mutual
theorem Dp.mono {H H' : Hp} (e : Same H H') : ∀ (d : D) (v : V), Dp K H v d → Dp K H' v d
  | .none, _, h => by cases h; exact .non
  | .bool b, _, h => by cases h; exact .bl b
  | .int b, _, h => by cases h; exact .int b
  | .str b, _, h => by cases h; exact .str b
  | .list ds, _, h => by
    cases h with
    | lst hs ha => exact .lst (e.seq hs) (DpAll.mono e ds _ ha)
  | .tuple ds, _, h => by
    cases h with
    | tup hs ha => exact .tup (SqT_mono e hs) (DpAll.mono e ds _ ha)
  | .dict ps, _, h => by
    cases h with
    | dct hs ha => exact .dct (Same.rd e hs) (DpKv.mono e ps _ ha)
    | dcn hs ha => exact .dcn (Same.rd e hs) (DpKn.mono e ps _ ha)
    | exc hs => exact .exc (Same.rd e hs)
    | ins hs => exact .ins (e _ _ hs)
theorem DpAll.mono {H H' : Hp} (e : Same H H') : ∀ (ds : List D) (vs : List V), DpAll K H vs ds → DpAll K H' vs ds
  | [], _, h => by cases h; exact .nil
  | d :: ds, _, h => by
    cases h with
    | cons h1 h2 => exact .cons (Dp.mono e d _ h1) (DpAll.mono e ds _ h2)
theorem DpKv.mono {H H' : Hp} (e : Same H H') : ∀ (ps : List (D × D)) (kvs : List (Key × V)), DpKv K H kvs ps → DpKv K H' kvs ps
  | [], _, h => by cases h; exact .nil
  | (x, d) :: ps, _, h => by
    cases h with
    | cons h1 h2 => exact .cons (Dp.mono e d _ h1) (DpKv.mono e ps _ h2)
theorem DpKn.mono {H H' : Hp} (e : Same H H') : ∀ (ps : List (D × D)) (kvs : List (NestedKey × Addr × V)), DpKn K H kvs ps → DpKn K H' kvs ps
  | [], _, h => by cases h; exact .nil
  | (x, d) :: ps, _, h => by
    cases h with
    | cons h0 h1 h2 h3 => exact .cons (Dp.mono e _ _ h0) h1 (Dp.mono e d _ h2) (DpKn.mono e ps _ h3)
end
mutual
/-- as the kit has it, where no dict is within -/
theorem Dp.kit {H : Hp} : ∀ (d : D) (v : V), Dp K H v d → d.canLay0 = true → L2.Dp K.K H v d
  | .none, _, h, _ => by cases h; exact .non
  | .bool b, _, h, _ => by cases h; exact .bl b
  | .int b, _, h, _ => by cases h; exact .int b
  | .str b, _, h, _ => by cases h; exact .str b
  | .list ds, _, h, c => by
    cases h with
    | lst hs ha => exact .lst hs (DpAll.kit ds _ ha (by rw [PyData.canLay0] at c; exact c))
  | .tuple ds, _, h, c => by
    cases h with
    | tup hs ha => exact .tup hs (DpAll.kit ds _ ha (by rw [PyData.canLay0] at c; exact c))
  | .dict _, _, _, c => by rw [PyData.canLay0] at c; cases c
theorem DpAll.kit {H : Hp} : ∀ (ds : List D) (vs : List V), DpAll K H vs ds → PyData.canLayAll0 ds = true → L2.DpAll K.K H vs ds
  | [], _, h, _ => by cases h; exact .nil
  | d :: ds, _, h, c => by
    rw [PyData.canLayAll0, Bool.and_eq_true] at c
    cases h with
    | cons h1 h2 => exact .cons (Dp.kit d _ h1 c.1) (DpAll.kit ds _ h2 c.2)
end
theorem dpUp {H H' : Hp} {v : V} {d : D} (h : Dp K H v d) (e : Same H H') : Dp K H' v d := Dp.mono e d v h
theorem dpaUp {H H' : Hp} {v : List V} {d : List D} (h : DpAll K H v d) (e : Same H H') : DpAll K H' v d := DpAll.mono e d v h
theorem DpAll.len {H : Hp} : ∀ {vs : List V} {ds : List D}, DpAll K H vs ds → vs.length = ds.length
  | _, [], h => by cases h; rfl
  | _, d :: ds, h => by
    cases h with
    | cons h1 h2 => simp [DpAll.len h2]
theorem DpAll.get {H : Hp} : ∀ {vs : List V} {ds : List D} {i : Nat} {d : D}, DpAll K H vs ds → ds[i]? = some d → ∃ v, vs[i]? = some v ∧ Dp K H v d
  | _, [], i, d, h, e => by simp at e
  | _, x :: ds, 0, d, h, e => by
    cases h with
    | cons h1 h2 => simp at e; subst e; exact ⟨_, rfl, h1⟩
  | _, x :: ds, i + 1, d, h, e => by
    cases h with
    | cons h1 h2 =>
      obtain ⟨v, q, r⟩ := DpAll.get (i := i) h2 (by simpa using e)
      exact ⟨v, by simpa using q, r⟩
theorem DpAll.getV {H : Hp} : ∀ {vs : List V} {ds : List D} {i : Nat} {v : V}, DpAll K H vs ds → vs[i]? = some v → ∃ d, ds[i]? = some d ∧ Dp K H v d
  | _, [], i, v, h, e => by cases h; simp at e
  | _, x :: ds, 0, v, h, e => by
    cases h with
    | cons h1 h2 => simp at e; subst e; exact ⟨_, rfl, h1⟩
  | _, x :: ds, i + 1, v, h, e => by
    cases h with
    | cons h1 h2 =>
      obtain ⟨d, q, r⟩ := DpAll.getV (i := i) h2 (by simpa using e)
      exact ⟨d, by simpa using q, r⟩
theorem DpAll.append {H : Hp} : ∀ {vs ws : List V} {ds es : List D}, DpAll K H vs ds → DpAll K H ws es → DpAll K H (vs ++ ws) (ds ++ es)
  | _, _, [], _, h, g => by cases h; exact g
  | _, _, d :: ds, _, h, g => by
    cases h with
    | cons h1 h2 => exact .cons h1 (DpAll.append h2 g)
theorem DpAll.take {H : Hp} : ∀ {vs : List V} {ds : List D} (n : Nat), DpAll K H vs ds → DpAll K H (vs.take n) (ds.take n)
  | _, [], n, h => by cases h; simp; exact .nil
  | _, d :: ds, 0, h => by simp; exact .nil
  | _, d :: ds, n + 1, h => by
    cases h with
    | cons h1 h2 => exact .cons h1 (DpAll.take n h2)
theorem DpAll.drop {H : Hp} : ∀ {vs : List V} {ds : List D} (n : Nat), DpAll K H vs ds → DpAll K H (vs.drop n) (ds.drop n)
  | _, [], n, h => by cases h; simp; exact .nil
  | _, d :: ds, 0, h => h
  | _, d :: ds, n + 1, h => by
    cases h with
    | cons h1 h2 => exact DpAll.drop n h2
theorem DpAll.of_ints {H : Hp} : ∀ (ns : List Int), DpAll K H (ns.map V.int) (ns.map PyData.int)
  | [] => .nil
  | n :: ns => .cons (.int n) (DpAll.of_ints ns)

/-- frozen facts F, the tracked heap H, behind a step that changes nothing that stood -/
structure Ext (F H F' H' : Hp) : Prop where
  ff : Same F F'
  hh : Same H H'
  fn : ∀ b o, F' b = some o → F b = some o ∨ H b = none
  fh : Same F' H'
theorem Ext.refl {F H : Hp} (h : Same F H) : Ext F H F H := ⟨Same.refl _, Same.refl _, fun _ _ h => .inl h, h⟩
theorem Ext.trans {F H F1 H1 F2 H2 : Hp} (a : Ext F H F1 H1) (b : Ext F1 H1 F2 H2) : Ext F H F2 H2 :=
  ⟨a.ff.trans b.ff, a.hh.trans b.hh, fun c o h => by
    rcases b.fn c o h with q | q
    · exact a.fn c o q
    · exact .inr (a.hh.free q), b.fh⟩
theorem free_of {F H : Hp} (s : Same F H) {p : Addr} (h : H p = none) : F p = none := s.free h
theorem same_upd {H : Hp} {p : Addr} (h : H p = none) (o : HO) : Same H (upd H p o) := fun b u q => by rw [upd_ne (ne_of_none q h)]; exact q
theorem same_upd2 {F H : Hp} (s : Same F H) {p : Addr} (h : H p = none) (o : HO) : Same (upd F p o) (upd H p o) := fun b u q => by
  by_cases e : b = p
  · subst e; rw [upd_same] at q ⊢; exact q
  · rw [upd_ne e] at q ⊢; exact s _ _ q
/-- a new object, frozen at once -/
theorem Ext.frz {F H : Hp} (s : Same F H) {p : Addr} (h : H p = none) (o : HO) : Ext F H (upd F p o) (upd H p o) :=
  ⟨same_upd (free_of s h) o, same_upd h o, fun b u q => by
    by_cases e : b = p
    · subst e; exact .inr h
    · rw [upd_ne e] at q; exact .inl q, same_upd2 s h o⟩
/-- a new object of the def's own -/
theorem Ext.own {F H : Hp} (s : Same F H) {p : Addr} (h : H p = none) (o : HO) : Ext F H F (upd H p o) :=
  ⟨Same.refl _, same_upd h o, fun _ _ q => .inl q, s.trans (same_upd h o)⟩

mutual
inductive OwnAt (K : Kw) (F H : Hp) : V → Ow → List Addr → Prop
  | d {v : V} {x : D} : Dp K F v x → OwnAt K F H v (.d x) []
  | l {a : Addr} {vs : List V} {os : List Ow} {fp : List Addr} : F a = none → H a = some (.lst vs) → OwnAll K F H vs os fp → OwnAt K F H (.ref a) (.l os) (a :: fp)
  | m {a : Addr} {kvs : List (Key × V)} {ps : List (D × D)} : F a = none → H a = some (.dK kvs) → DpKv K F kvs ps → OwnAt K F H (.ref a) (.m ps) [a]
  | t {a : Addr} {vs : List V} {os : List Ow} {fp : List Addr} : SqT K.K F a vs → OwnAll K F H vs os fp → OwnAt K F H (.ref a) (.t os) fp
  | k {a : Addr} {kvs : List (Key × V)} {os : List Ow} {fp : List Addr} : F a = none → H a = some (.dK kvs) → OwnAll K F H (kvs.map (·.2)) os fp → OwnAt K F H (.ref a) (.k (kvs.map fun p => keyD p.1) os) (a :: fp)
  | n {a : Addr} {kvs : List (NestedKey × Addr × V)} {os : List Ow} {fp : List Addr} : F a = none → H a = some (dnO K.w a kvs) → (∀ p ∈ kvs, Dp K F (.ref p.2.1) p.1.data ∧ p.1.depth ≤ 8) → OwnAll K F H (kvs.map (·.2.2)) os fp → OwnAt K F H (.ref a) (.n (kvs.map (·.1.data)) os) (a :: fp)
  | o {c : Str} {a C dx : Addr} {fs : List (Str × V)} {os : List Ow} {fp : List Addr} : PySem.W.nsIn K.K mainGlobals c = some (some (.ref C)) → F a = none → F dx = none → H a = some (.ins C dx fs) → H dx = some (.own a) → OwnAll K F H (fs.map (·.2)) os fp → OwnAt K F H (.ref a) (.o c (fs.map (·.1)) os) (a :: dx :: fp)
inductive OwnAll (K : Kw) (F H : Hp) : List V → List Ow → List Addr → Prop
  | nil : OwnAll K F H [] [] []
  | cons {v : V} {vs : List V} {o : Ow} {os : List Ow} {fp fps : List Addr} : OwnAt K F H v o fp → OwnAll K F H vs os fps → OwnAll K F H (v :: vs) (o :: os) (fp ++ fps)
end
/-- the step of a statement: what is owned (fp) may change -/
structure StepS (F H : Hp) (fp : List Addr) (F' H' : Hp) (fp' : List Addr) : Prop where
  ff : Same F F'
  fr : ∀ b o, H b = some o → b ∉ fp → H' b = some o
  fn : ∀ b o, F' b = some o → F b = some o ∨ b ∈ fp ∨ H b = none
  sub : ∀ b ∈ fp', b ∈ fp ∨ H b = none
theorem StepS.of_ext {F H F' H' : Hp} (e : Ext F H F' H') (fp : List Addr) : StepS F H fp F' H' fp :=
  ⟨e.ff, fun b o h _ => e.hh b o h, fun b o h => (e.fn b o h).imp id .inr, fun b h => .inl h⟩
theorem StepS.trans {F H F1 H1 F2 H2 : Hp} {fp fp1 fp2 : List Addr} (a : StepS F H fp F1 H1 fp1) (b : StepS F1 H1 fp1 F2 H2 fp2) : StepS F H fp F2 H2 fp2 := by
  have nn : ∀ c, H1 c = none → c ∈ fp ∨ H c = none := fun c h => by
    cases q : H c with
    | none => exact .inr rfl
    | some o =>
      by_cases hc : c ∈ fp
      · exact .inl hc
      · rw [a.fr c o q hc] at h; cases h
  refine ⟨a.ff.trans b.ff, fun c o h hc => b.fr c o (a.fr c o h hc) fun z => ?_, fun c o h => ?_, fun c h => ?_⟩
  · rcases a.sub c z with q | q
    · exact hc q
    · rw [h] at q; cases q
  · rcases b.fn c o h with q | q | q
    · exact a.fn c o q
    · exact .inr (a.sub c q)
    · exact .inr (nn c q)
  · rcases b.sub c h with q | q
    · exact a.sub c q
    · exact nn c q
theorem StepS.mono {F H F1 H1 : Hp} {fp fp' fp1 : List Addr} (a : StepS F H fp F1 H1 fp1) (h : ∀ b ∈ fp, b ∈ fp') : StepS F H fp' F1 H1 fp1 :=
  ⟨a.ff, fun b o q n => a.fr b o q fun z => n (h b z), fun b o q => (a.fn b o q).imp id (.imp (h b) id), fun b q => (a.sub b q).imp (h b) id⟩
theorem StepS.subset {F H F1 H1 : Hp} {fp fp1 fp2 : List Addr} (a : StepS F H fp F1 H1 fp1) (h : ∀ b ∈ fp2, b ∈ fp1) : StepS F H fp F1 H1 fp2 :=
  ⟨a.ff, a.fr, a.fn, fun b q => a.sub b (h b q)⟩
theorem StepS.none_of {F H F' H' : Hp} {fx fy : List Addr} {a : Addr} {o : HO} (s : StepS F H fx F' H' fy) (h1 : F a = none) (h2 : H a = some o) (na : a ∉ fx) : F' a = none := by
  cases q : F' a with
  | none => rfl
  | some u =>
    rcases s.fn a u q with z | z | z
    · rw [h1] at z; cases z
    · exact absurd z na
    · rw [h2] at z; cases z

mutual
/-- what is owned apart from what changes stays -/
theorem OwnAt.keep {F H F' H' : Hp} {fx fy : List Addr} (s : StepS F H fx F' H' fy) : ∀ (o : Ow) (v : V) (fp : List Addr), OwnAt K F H v o fp → (∀ b ∈ fp, b ∉ fx) → OwnAt K F' H' v o fp
  | .d x, v, fp, h, _ => by
    cases h with
    | d q => exact .d (dpUp q s.ff)
  | .l os, v, fp, h, n => by
    cases h with
    | @l a vs _ fps h1 h2 h3 =>
      have na : a ∉ fx := n a List.mem_cons_self
      refine .l ?_ (s.fr _ _ h2 na) (OwnAll.keep s os vs fps h3 fun b hb => n b (List.mem_cons_of_mem _ hb))
      cases q : F' a with
      | none => rfl
      | some u =>
        rcases s.fn a u q with z | z | z
        · rw [h1] at z; cases z
        · exact absurd z na
        · rw [h2] at z; cases z
  | .m ps, v, fp, h, n => by
    cases h with
    | @m a kvs _ h1 h2 h3 =>
      have na : a ∉ fx := n a List.mem_cons_self
      refine .m ?_ (s.fr _ _ h2 na) (DpKv.mono s.ff ps _ h3)
      cases q : F' a with
      | none => rfl
      | some u =>
        rcases s.fn a u q with z | z | z
        · rw [h1] at z; cases z
        · exact absurd z na
        · rw [h2] at z; cases z
  | .t os, v, fp, h, n => by
    cases h with
    | @t a vs _ _ h1 h2 => exact .t (SqT_mono s.ff h1) (OwnAll.keep s os vs fp h2 n)
  | .k _ os, v, fp, h, n => by
    cases h with
    | @k a kvs _ fps h1 h2 h3 =>
      have na : a ∉ fx := n a List.mem_cons_self
      refine .k (s.none_of h1 h2 na) (s.fr _ _ h2 na) (OwnAll.keep s os _ fps h3 fun b hb => n b (List.mem_cons_of_mem _ hb))
  | .n _ os, v, fp, h, n => by
    cases h with
    | @n a kvs _ fps h1 h2 h3 h4 =>
      have na : a ∉ fx := n a List.mem_cons_self
      refine .n (s.none_of h1 h2 na) (s.fr _ _ h2 na) (fun p hp => ⟨Dp.mono s.ff _ _ (h3 p hp).1, (h3 p hp).2⟩) (OwnAll.keep s os _ fps h4 fun b hb => n b (List.mem_cons_of_mem _ hb))
  | .o _ _ os, v, fp, h, n => by
    cases h with
    | @o c a C dx fs _ fps h0 h1 h2 h3 h4 h5 =>
      have na : a ∉ fx := n a List.mem_cons_self
      have nd : dx ∉ fx := n dx (List.mem_cons_of_mem _ List.mem_cons_self)
      exact .o h0 (s.none_of h1 h3 na) (s.none_of h2 h4 nd) (s.fr _ _ h3 na) (s.fr _ _ h4 nd) (OwnAll.keep s os _ fps h5 fun b hb => n b (List.mem_cons_of_mem _ (List.mem_cons_of_mem _ hb)))
theorem OwnAll.keep {F H F' H' : Hp} {fx fy : List Addr} (s : StepS F H fx F' H' fy) : ∀ (os : List Ow) (vs : List V) (fp : List Addr), OwnAll K F H vs os fp → (∀ b ∈ fp, b ∉ fx) → OwnAll K F' H' vs os fp
  | [], vs, fp, h, _ => by cases h; exact .nil
  | o :: os, vs, fp, h, n => by
    cases h with
    | cons h1 h2 => exact .cons (OwnAt.keep s o _ _ h1 fun b hb => n b (List.mem_append_left _ hb)) (OwnAll.keep s os _ _ h2 fun b hb => n b (List.mem_append_right _ hb))
end
theorem OwnAt.ext {F H F' H' : Hp} {v : V} {o : Ow} {fp : List Addr} (h : OwnAt K F H v o fp) (e : Ext F H F' H') : OwnAt K F' H' v o fp :=
  OwnAt.keep (StepS.of_ext e []) o v fp h fun _ _ => by simp
theorem OwnAll.ext {F H F' H' : Hp} {v : List V} {o : List Ow} {fp : List Addr} (h : OwnAll K F H v o fp) (e : Ext F H F' H') : OwnAll K F' H' v o fp :=
  OwnAll.keep (StepS.of_ext e []) o v fp h fun _ _ => by simp
mutual
theorem OwnAt.there {F H : Hp} : ∀ (o : Ow) (v : V) (fp : List Addr), OwnAt K F H v o fp → ∀ b ∈ fp, F b = none ∧ ∃ o, H b = some o
  | .d x, v, fp, h, b, hb => by cases h; cases hb
  | .l os, v, fp, h, b, hb => by
    cases h with
    | l h1 h2 h3 =>
      rcases List.mem_cons.mp hb with e | e
      · subst e; exact ⟨h1, _, h2⟩
      · exact OwnAll.there os _ _ h3 b e
  | .m ps, v, fp, h, b, hb => by
    cases h with
    | m h1 h2 h3 =>
      rw [List.mem_singleton] at hb
      subst hb; exact ⟨h1, _, h2⟩
  | .t os, v, fp, h, b, hb => by
    cases h with
    | t h1 h2 => exact OwnAll.there os _ _ h2 b hb
  | .k _ os, v, fp, h, b, hb => by
    cases h with
    | k h1 h2 h3 =>
      rcases List.mem_cons.mp hb with e | e
      · subst e; exact ⟨h1, _, h2⟩
      · exact OwnAll.there os _ _ h3 b e
  | .n _ os, v, fp, h, b, hb => by
    cases h with
    | n h1 h2 h3 h4 =>
      rcases List.mem_cons.mp hb with e | e
      · subst e; exact ⟨h1, _, h2⟩
      · exact OwnAll.there os _ _ h4 b e
  | .o _ _ os, v, fp, h, b, hb => by
    cases h with
    | o h0 h1 h2 h3 h4 h5 =>
      rcases List.mem_cons.mp hb with e | e
      · subst e; exact ⟨h1, _, h3⟩
      · rcases List.mem_cons.mp e with e | e
        · subst e; exact ⟨h2, _, h4⟩
        · exact OwnAll.there os _ _ h5 b e
theorem OwnAll.there {F H : Hp} : ∀ (o : List Ow) (v : List V) (fp : List Addr), OwnAll K F H v o fp → ∀ b ∈ fp, F b = none ∧ ∃ o, H b = some o
  | [], v, fp, h, b, hb => by cases h; cases hb
  | o :: os, v, fp, h, b, hb => by
    cases h with
    | cons h1 h2 =>
      rcases List.mem_append.mp hb with e | e
      · exact OwnAt.there o _ _ h1 b e
      · exact OwnAll.there os _ _ h2 b e
end
theorem dpKv_zip {H : Hp} : ∀ {kvs : List (Key × V)} {ds : List D}, DpAll K H (kvs.map (·.2)) ds → DpKv K H kvs ((kvs.map fun p => keyD p.1).zip ds)
  | [], _, h => by cases h; exact .nil
  | p :: kvs, _, h => by
    cases h with
    | cons h1 h2 => exact .cons h1 (dpKv_zip h2)
theorem dpKn_zip {H : Hp} : ∀ {kvs : List (NestedKey × Addr × V)} {ds : List D}, (∀ p ∈ kvs, Dp K H (.ref p.2.1) p.1.data ∧ p.1.depth ≤ 8) → DpAll K H (kvs.map (·.2.2)) ds → DpKn K H kvs ((kvs.map (·.1.data)).zip ds)
  | [], _, _, h => by cases h; exact .nil
  | p :: kvs, _, g, h => by
    cases h with
    | cons h1 h2 => exact .cons (g p List.mem_cons_self).1 (g p List.mem_cons_self).2 h1 (dpKn_zip (fun q hq => g q (List.mem_cons_of_mem _ hq)) h2)
mutual
theorem OwnAt.view {F H : Hp} (s : Same F H) : ∀ (o : Ow) (v : V) (fp : List Addr), OwnAt K F H v o fp → Dp K H v (viewD o)
  | .d x, v, fp, h => by
    cases h with
    | d q => rw [viewD]; exact dpUp q s
  | .l os, v, fp, h => by
    cases h with
    | l h1 h2 h3 => rw [viewD]; exact .lst (SqL.of h2) (OwnAll.view s os _ _ h3)
  | .m ps, v, fp, h => by
    cases h with
    | m h1 h2 h3 => rw [viewD]; exact .dct (.inl h2) (DpKv.mono s ps _ h3)
  | .t os, v, fp, h => by
    cases h with
    | t h1 h2 => rw [viewD]; exact .tup (SqT_mono s h1) (OwnAll.view s os _ _ h2)
  | .k _ os, v, fp, h => by
    cases h with
    | k h1 h2 h3 => rw [viewD]; exact .dct (.inl h2) (dpKv_zip (OwnAll.view s os _ _ h3))
  | .n _ os, v, fp, h => by
    cases h with
    | n h1 h2 h3 h4 => rw [viewD]; exact .dcn (.inl h2) (dpKn_zip (fun p hp => ⟨Dp.mono s _ _ (h3 p hp).1, (h3 p hp).2⟩) (OwnAll.view s os _ _ h4))
  | .o _ _ os, v, fp, h => by
    cases h with
    | o h0 h1 h2 h3 h4 h5 => rw [viewD]; exact .ins h3
theorem OwnAll.view {F H : Hp} (s : Same F H) : ∀ (o : List Ow) (v : List V) (fp : List Addr), OwnAll K F H v o fp → DpAll K H v (viewAll o)
  | [], v, fp, h => by cases h; rw [viewAll]; exact .nil
  | o :: os, v, fp, h => by
    cases h with
    | cons h1 h2 => rw [viewAll]; exact .cons (OwnAt.view s o _ _ h1) (OwnAll.view s os _ _ h2)
end
theorem OwnAll.len {F H : Hp} : ∀ {os : List Ow} {vs : List V} {fp : List Addr}, OwnAll K F H vs os fp → vs.length = os.length
  | [], _, _, h => by cases h; rfl
  | o :: os, _, _, h => by
    cases h with
    | cons h1 h2 => simp [OwnAll.len h2]
/-- F with the objects at fp as they stand in H -/
def frzAt (F H : Hp) (fp : List Addr) : Hp := fun b => if b ∈ fp then H b else F b
theorem frzAt_same {F H : Hp} {fp : List Addr} (n : ∀ b ∈ fp, F b = none) : Same F (frzAt F H fp) := fun b o h => by
  have : b ∉ fp := fun z => by rw [n b z] at h; cases h
  simp [frzAt, this, h]
theorem frzAt_in {F H : Hp} {fp : List Addr} (s : Same F H) : Same (frzAt F H fp) H := fun b o h => by
  unfold frzAt at h
  split at h
  · exact h
  · exact s _ _ h
theorem frzAt_of {F H : Hp} {fp : List Addr} {b : Addr} {o : HO} (h : frzAt F H fp b = some o) : F b = some o ∨ b ∈ fp := by
  unfold frzAt at h
  split at h
  · exact .inr ‹_›
  · exact .inl h
mutual
theorem OwnAt.frz {F H : Hp} {fx : List Addr} (nx : ∀ b ∈ fx, F b = none) : ∀ (o : Ow) (v : V) (fp : List Addr), OwnAt K F H v o fp → (∀ b ∈ fp, b ∈ fx) → Dp K (frzAt F H fx) v (viewD o)
  | .d x, v, fp, h, _ => by
    cases h with
    | d q => rw [viewD]; exact dpUp q (frzAt_same nx)
  | .l os, v, fp, h, hs => by
    cases h with
    | @l a _ _ _ h1 h2 h3 =>
      rw [viewD]
      have e : frzAt F H fx a = some (.lst _) := (if_pos (hs a List.mem_cons_self)).trans h2
      exact .lst (SqL.of e) (OwnAll.frz nx os _ _ h3 fun b hb => hs b (List.mem_cons_of_mem _ hb))
  | .m ps, v, fp, h, hs => by
    cases h with
    | @m a _ _ h1 h2 h3 =>
      rw [viewD]
      have e : frzAt F H fx a = some (.dK _) := (if_pos (hs a List.mem_cons_self)).trans h2
      exact .dct (.inl e) (DpKv.mono (frzAt_same nx) ps _ h3)
  | .t os, v, fp, h, hs => by
    cases h with
    | t h1 h2 => rw [viewD]; exact .tup (SqT_mono (frzAt_same nx) h1) (OwnAll.frz nx os _ _ h2 hs)
  | .k _ os, v, fp, h, hs => by
    cases h with
    | @k a _ _ _ h1 h2 h3 =>
      rw [viewD]
      have e : frzAt F H fx a = some (.dK _) := (if_pos (hs a List.mem_cons_self)).trans h2
      exact .dct (.inl e) (dpKv_zip (OwnAll.frz nx os _ _ h3 fun b hb => hs b (List.mem_cons_of_mem _ hb)))
  | .n _ os, v, fp, h, hs => by
    cases h with
    | @n a _ _ _ h1 h2 h3 h4 =>
      rw [viewD]
      have e : frzAt F H fx a = some (dnO _ _ _) := (if_pos (hs a List.mem_cons_self)).trans h2
      exact .dcn (.inl e) (dpKn_zip (fun p hp => ⟨Dp.mono (frzAt_same nx) _ _ (h3 p hp).1, (h3 p hp).2⟩) (OwnAll.frz nx os _ _ h4 fun b hb => hs b (List.mem_cons_of_mem _ hb)))
  | .o _ _ os, v, fp, h, hs => by
    cases h with
    | @o c a C dx fs _ _ h0 h1 h2 h3 h4 h5 =>
      rw [viewD]
      have e : frzAt F H fx a = some (.ins _ _ _) := (if_pos (hs a List.mem_cons_self)).trans h3
      exact .ins e
theorem OwnAll.frz {F H : Hp} {fx : List Addr} (nx : ∀ b ∈ fx, F b = none) : ∀ (o : List Ow) (v : List V) (fp : List Addr), OwnAll K F H v o fp → (∀ b ∈ fp, b ∈ fx) → DpAll K (frzAt F H fx) v (viewAll o)
  | [], v, fp, h, _ => by cases h; rw [viewAll]; exact .nil
  | o :: os, v, fp, h, hs => by
    cases h with
    | cons h1 h2 => rw [viewAll]; exact .cons (OwnAt.frz nx o _ _ h1 fun b hb => hs b (List.mem_append_left _ hb)) (OwnAll.frz nx os _ _ h2 fun b hb => hs b (List.mem_append_right _ hb))
end
/-- a fresh owned value made data -/
theorem Ext.freeze {F H F' H' : Hp} {v : V} {o : Ow} {fp : List Addr} (e : Ext F H F' H') (h : OwnAt K F' H' v o fp) (n : ∀ b ∈ fp, H b = none) :
    ∃ F2, Ext F H F2 H' ∧ Dp K F2 v (viewD o) := by
  have nx : ∀ b ∈ fp, F' b = none := fun b hb => (OwnAt.there o v fp h b hb).1
  refine ⟨frzAt F' H' fp, ⟨e.ff.trans (frzAt_same nx), e.hh, fun b u q => ?_, frzAt_in e.fh⟩, OwnAt.frz nx o v fp h fun _ z => z⟩
  rcases frzAt_of q with z | z
  · exact e.fn b u z
  · exact .inr (n b z)

inductive EnvAt (K : Kw) (F H : Hp) : St → Ev → List Addr → Prop
  | nil : EnvAt K F H [] [] []
  | non {x : Option V} {σ : St} {env : Ev} {fp : List Addr} : EnvAt K F H σ env fp → EnvAt K F H (x :: σ) (none :: env) fp
  | som {v : V} {o : Ow} {σ : St} {env : Ev} {fp fps : List Addr} : OwnAt K F H v o fp → EnvAt K F H σ env fps → EnvAt K F H (some v :: σ) (some o :: env) (fp ++ fps)
theorem EnvAt.keep {F H F' H' : Hp} {fx fy : List Addr} (s : StepS F H fx F' H' fy) : ∀ {σ : St} {env : Ev} {fp : List Addr}, EnvAt K F H σ env fp → (∀ b ∈ fp, b ∉ fx) → EnvAt K F' H' σ env fp := by
  intro σ env fp h
  induction h with
  | nil => intro _; exact .nil
  | non h ih => intro n; exact .non (ih n)
  | som h1 h2 ih => intro n; exact .som (OwnAt.keep s _ _ _ h1 fun b hb => n b (List.mem_append_left _ hb)) (ih fun b hb => n b (List.mem_append_right _ hb))
theorem EnvAt.ext {F H F' H' : Hp} {σ : St} {env : Ev} {fp : List Addr} (h : EnvAt K F H σ env fp) (e : Ext F H F' H') : EnvAt K F' H' σ env fp :=
  h.keep (StepS.of_ext e []) fun _ _ => by simp
theorem EnvAt.there {F H : Hp} {σ : St} {env : Ev} {fp : List Addr} (h : EnvAt K F H σ env fp) : ∀ b ∈ fp, F b = none ∧ ∃ o, H b = some o := by
  induction h with
  | nil => intro b hb; cases hb
  | non h ih => exact ih
  | som h1 h2 ih =>
    intro b hb
    rcases List.mem_append.mp hb with e | e
    · exact OwnAt.there _ _ _ h1 b e
    · exact ih b e
theorem EnvAt.len {F H : Hp} {σ : St} {env : Ev} {fp : List Addr} (h : EnvAt K F H σ env fp) : σ.length = env.length := by
  induction h with
  | nil => rfl
  | non h ih => simp [ih]
  | som h1 h2 ih => simp [ih]
/-- a slot read: its own footprint, and the others' -/
theorem EnvAt.get {F H : Hp} {σ : St} {env : Ev} {fp : List Addr} (h : EnvAt K F H σ env fp) : ∀ {i : Nat} {o : Ow}, env[i]? = some (some o) → ∃ v fo, σ[i]? = some (some v) ∧ OwnAt K F H v o fo ∧ (∀ b ∈ fo, b ∈ fp) := by
  induction h with
  | nil => intro i o e; simp at e
  | non h ih =>
    intro i o e
    cases i with
    | zero => simp at e
    | succ i => simpa using ih (i := i) (by simpa using e)
  | @som v o' σ' env' fp1 fps h1 h2 ih =>
    intro i o e
    cases i with
    | zero =>
      simp at e; subst e
      exact ⟨v, fp1, rfl, h1, fun b hb => List.mem_append_left _ hb⟩
    | succ i =>
      obtain ⟨v2, fo, a, b, c⟩ := ih (i := i) (by simpa using e)
      exact ⟨v2, fo, by simpa using a, b, fun b hb => List.mem_append_right _ (c b hb)⟩
/-- a slot changed: the rest keeps; fo what stood there, fr the rest (F, H may have moved by a step within fo) -/
theorem EnvAt.put {F H : Hp} {σ : St} {env : Ev} {fp : List Addr} (h : EnvAt K F H σ env fp) : ∀ {i : Nat}, i < env.length → fp.Nodup → ∃ fr fo, (∀ b ∈ fr, b ∈ fp) ∧ (∀ b ∈ fo, b ∈ fp) ∧ fr.Nodup ∧ fo.Nodup ∧ (∀ b ∈ fo, b ∉ fr) ∧
    (∀ o, env[i]? = some (some o) → ∃ v, σ[i]? = some (some v) ∧ OwnAt K F H v o fo) ∧
    ∀ (F' H' : Hp) (fx fy : List Addr), StepS F H fx F' H' fy → (∀ b ∈ fr, b ∉ fx) → (∀ (x : Option V), EnvAt K F' H' (σ.set i x) (env.set i none) fr) ∧ ∀ (v : V) (o : Ow) (fn : List Addr), OwnAt K F' H' v o fn → fn.Nodup → (∀ b ∈ fn, b ∉ fr) → ∃ fp', fp'.Nodup ∧ (∀ b ∈ fp', b ∈ fn ∨ b ∈ fr) ∧ EnvAt K F' H' (σ.set i (some v)) (env.set i (some o)) fp' := by
  induction h with
  | nil => intro i hi; simp at hi
  | @non x σ' env' fps h ih =>
    intro i hi hn
    cases i with
    | zero =>
      refine ⟨fps, [], fun b z => z, (fun b z => nomatch z), hn, List.nodup_nil, fun b z => (nomatch z), fun o e => by simp at e, fun F' H' fx fy s n => ⟨fun x => .non (h.keep s n), fun v o fn ho hd hx => ?_⟩⟩
      refine ⟨fn ++ fps, ?_, fun b hb => List.mem_append.mp hb, .som ho (h.keep s n)⟩
      rw [List.nodup_append]
      exact ⟨hd, hn, fun a ha b hb e => hx a ha (e ▸ hb)⟩
    | succ i =>
      obtain ⟨fr, fo, a1, a2, a3, a3', a4, a5, a6⟩ := ih (i := i) (by simpa using hi) hn
      refine ⟨fr, fo, a1, a2, a3, a3', a4, by simpa using a5, fun F' H' fx fy s n => ⟨fun x => .non ((a6 F' H' fx fy s n).1 x), fun v o fn ho hd hx => ?_⟩⟩
      obtain ⟨fp', b1, b2, b3⟩ := (a6 F' H' fx fy s n).2 v o fn ho hd hx
      exact ⟨fp', b1, b2, .non b3⟩
  | @som v0 o0 σ' env' f1 fps h1 h2 ih =>
    intro i hi hn
    rw [List.nodup_append] at hn
    obtain ⟨n1, n2, n3⟩ := hn
    cases i with
    | zero =>
      refine ⟨fps, f1, fun b z => List.mem_append_right _ z, fun b z => List.mem_append_left _ z, n2, n1, fun b z q => n3 b z b q rfl, fun o e => ?_, fun F' H' fx fy s n => ⟨fun x => .non (h2.keep s n), fun v o fn ho hd hx => ?_⟩⟩
      · simp at e; subst e; exact ⟨v0, rfl, h1⟩
      · refine ⟨fn ++ fps, ?_, fun b hb => List.mem_append.mp hb, .som ho (h2.keep s n)⟩
        rw [List.nodup_append]
        exact ⟨hd, n2, fun a ha b hb e => hx a ha (e ▸ hb)⟩
    | succ i =>
      obtain ⟨fr, fo, a1, a2, a3, a3', a4, a5, a6⟩ := ih (i := i) (by simpa using hi) n2
      have dis : ∀ b ∈ f1, b ∉ fr := fun b z q => n3 b z b (a1 b q) rfl
      have key : ∀ (F' H' : Hp) (fx fy : List Addr), StepS F H fx F' H' fy → (∀ b ∈ f1 ++ fr, b ∉ fx) → OwnAt K F' H' v0 o0 f1 := fun F' H' fx fy s n => OwnAt.keep s _ _ _ h1 fun b hb => n b (List.mem_append_left _ hb)
      refine ⟨f1 ++ fr, fo, fun b z => ?_, fun b z => List.mem_append_right _ (a2 b z), ?_, a3', fun b z q => ?_, by simpa using a5, fun F' H' fx fy s n => ⟨fun x => .som (key F' H' fx fy s n) ((a6 F' H' fx fy s fun b hb => n b (List.mem_append_right _ hb)).1 x), fun v o fn ho hd hx => ?_⟩⟩
      · rcases List.mem_append.mp z with z | z
        · exact List.mem_append_left _ z
        · exact List.mem_append_right _ (a1 b z)
      · rw [List.nodup_append]; exact ⟨n1, a3, fun a ha b hb e => dis a ha (e ▸ hb)⟩
      · rcases List.mem_append.mp q with q | q
        · exact n3 b q b (a2 b z) rfl
        · exact a4 b z q
      · obtain ⟨fp', b1, b2, b3⟩ := (a6 F' H' fx fy s fun b hb => n b (List.mem_append_right _ hb)).2 v o fn ho hd fun b hb q => hx b hb (List.mem_append_right _ q)
        have dj : ∀ b ∈ f1, b ∉ fp' := fun b z q => by
          rcases b2 b q with r | r
          · exact hx b r (List.mem_append_left _ z)
          · exact dis b z r
        refine ⟨f1 ++ fp', ?_, fun b hb => ?_, .som (key F' H' fx fy s n) b3⟩
        · rw [List.nodup_append]; exact ⟨n1, b1, fun a ha b hb e => dj a ha (e ▸ hb)⟩
        · rcases List.mem_append.mp hb with r | r
          · exact .inr (List.mem_append_left _ r)
          · exact (b2 b r).imp id (List.mem_append_right _)

structure Sat (K : Kw) (F H : Hp) (σ : St) (env : Ev) (fp : List Addr) : Prop where
  fh : Same F H
  en : EnvAt K F H σ env fp
  nd : fp.Nodup
theorem Sat.ext {F H F' H' : Hp} {σ : St} {env : Ev} {fp : List Addr} (s : Sat K F H σ env fp) (e : Ext F H F' H') : Sat K F' H' σ env fp := ⟨e.fh, s.en.ext e, s.nd⟩
end
end Mir
end
set_option Elab.async false
set_option linter.all false
set_option maxRecDepth 100000
set_option maxHeartbeats 4000000
noncomputable section
namespace Mir
open PySem PySem.Spec L2

def Post (X : Cx) (W : WX) {α β : Type} (P : Hp → α → β → Hp → Hp → Prop) (F H : Hp) (σ : L2.St) : R α → (β → Hp → Prop) → Prop
  | .no, _ => False
  | .ok a, Q => ∀ v F' H', Ext F H F' H' → P H a v F' H' → Q v H'
  | .ex c, _ => ∀ C F' H', X.mg c = some (.ref C) → Ext F H F' H' → W (.ref C) none σ H'
class Anti {α β : Type} (P : Hp → α → β → Hp → Hp → Prop) : Prop where
  anti : ∀ {H H1 : Hp} {a : α} {v : β} {F' H' : Hp}, Same H H1 → P H1 a v F' H' → P H a v F' H'
def PVw (K : Kw) (_ : Hp) (d : D) (v : V) (_ H' : Hp) : Prop := Dp K H' v d
def PFz (K : Kw) (_ : Hp) (d : D) (v : V) (F' _ : Hp) : Prop := Dp K F' v d
def POw (K : Kw) (H : Hp) (r : Ow) (v : V) (F' H' : Hp) : Prop := ∃ fp, OwnAt K F' H' v r fp ∧ fp.Nodup ∧ ∀ b ∈ fp, H b = none
/-- a list or tuple whose items are frozen, though it may itself change; other data -/
def PSq (K : Kw) (_ : Hp) (d : D) (v : V) (F' H' : Hp) : Prop := match d with
  | .list ds => ∃ a vs, v = .ref a ∧ SqL K H' a vs ∧ DpAll K F' vs ds
  | d => Dp K F' v d
def PTb (_ : Hp) (b : Bool) (v : Bool) (_ _ : Hp) : Prop := v = b
def PAv (K : Kw) (_ : Hp) (ds : List D) (vs : List V) (_ H' : Hp) : Prop := DpAll K H' vs ds
def PAf (K : Kw) (_ : Hp) (ds : List D) (vs : List V) (F' _ : Hp) : Prop := DpAll K F' vs ds
variable {K : Kw}
instance : Anti (PVw K) := ⟨fun _ h => h⟩
instance : Anti (PFz K) := ⟨fun _ h => h⟩
instance : Anti (PSq K) := ⟨fun {_ _ _ _ _ _} _ h => h⟩
instance : Anti PTb := ⟨fun _ h => h⟩
instance : Anti (PAv K) := ⟨fun _ h => h⟩
instance : Anti (PAf K) := ⟨fun _ h => h⟩
instance : Anti (POw K) := ⟨fun s ⟨fp, a, b, c⟩ => ⟨fp, a, b, fun x hx => s.free (c x hx)⟩⟩

/-- the semantics: t (a reading) is implied by the mirror f -/
def Sm (X : Cx) (W : WX) {α β : Type} (P : Hp → α → β → Hp → Hp → Prop) (t : L2.St → Hp → (β → Hp → Prop) → Prop) (f : Ev → R α) : Prop :=
  ∀ F H σ env fp Q, Sat X.KK F H σ env fp → Post X W P F H σ (f env) Q → t σ H Q
section
variable {X : Cx} {W : WX} {α β γ δ : Type}
theorem Post.ext {P : Hp → α → β → Hp → Hp → Prop} [Anti P] {F H F1 H1 : Hp} {σ : L2.St} {r : R α} {Q : β → Hp → Prop} (h : Post X W P F H σ r Q) (e : Ext F H F1 H1) : Post X W P F1 H1 σ r Q := by
  cases r with
  | no => exact h
  | ok a => exact fun v F' H' e' p => h v F' H' (e.trans e') (Anti.anti e.hh p)
  | ex c => exact fun C F' H' m e' => h C F' H' m (e.trans e')
/-- evaluate one part, go on -/
theorem Sm.go {P : Hp → α → β → Hp → Hp → Prop} {P2 : Hp → γ → δ → Hp → Hp → Prop} [Anti P2] {t : L2.St → Hp → (β → Hp → Prop) → Prop} {f : Ev → R α} (s : Sm X W P t f) {g : α → R γ} {F H : Hp} {σ : L2.St} {env : Ev} {fp : List Addr} {Q : δ → Hp → Prop} {T : β → Hp → Prop}
    (sat : Sat X.KK F H σ env fp) (h : Post X W P2 F H σ ((f env).bind g) Q) (k : ∀ a v F1 H1, Sat X.KK F1 H1 σ env fp → P H a v F1 H1 → Ext F H F1 H1 → Post X W P2 F1 H1 σ (g a) Q → T v H1) : t σ H T := by
  refine s F H σ env fp T sat ?_
  cases e : f env with
  | no => rw [e] at h; exact h
  | ok a =>
    rw [e] at h
    exact fun v F' H' x p => k a v F' H' (sat.ext x) p x (Post.ext (show Post X W P2 F H σ (g a) Q from h) x)
  | ex c => rw [e] at h; exact h
theorem Post.thru {β' : Type} {P : Hp → α → β → Hp → Hp → Prop} {P2 : Hp → γ → β' → Hp → Hp → Prop} {F H : Hp} {σ : L2.St} {r : R α} {g : α → R γ} {Q : β → Hp → Prop} {Q2 : β' → Hp → Prop} (h : Post X W P2 F H σ (r.bind g) Q2)
    (k : ∀ a, r = .ok a → Post X W P2 F H σ (g a) Q2 → ∀ v F' H', Ext F H F' H' → P H a v F' H' → Q v H') : Post X W P F H σ r Q := by
  cases r with
  | no => exact h
  | ok a => exact k a rfl h
  | ex c => exact h
theorem Sm.map {P : Hp → α → β → Hp → Hp → Prop} {P2 : Hp → γ → β → Hp → Hp → Prop} {t : L2.St → Hp → (β → Hp → Prop) → Prop} {f : Ev → R α} (s : Sm X W P t f) {g : α → R γ} (k : ∀ H a v F' H', Same F' H' → P H a v F' H' → ∃ c, g a = .ok c ∧ P2 H c v F' H') :
    Sm X W P2 t fun env => (f env).bind g := by
  intro F H σ env fp Q sat h
  refine s F H σ env fp Q sat (Post.thru h fun a _ h' v F' H' x p => ?_)
  obtain ⟨c, hc, q⟩ := k H a v F' H' x.fh p
  rw [hc] at h'
  exact h' v F' H' x q
end

def eB {α β : Type} (f : Ev → R α) (g : α → R β) (env : Ev) : R β := (f env).bind g
def eM {α β : Type} (f : Ev → R α) (g : α → β) (env : Ev) : R β := (f env).map g

section
variable (X : Cx) (W : WX)
def DV (e : Expr) (f : Ev → R D) : Prop := ∃ t, PE X e t ∧ Sm X W (PVw X.KK) t f
def DF (e : Expr) (f : Ev → R D) : Prop := ∃ t, PE X e t ∧ Sm X W (PFz X.KK) t f
def DE (e : Expr) (f : Ev → R Ow) : Prop := ∃ t, PE X e t ∧ Sm X W (POw X.KK) t f
def DL (e : Expr) (f : Ev → R D) : Prop := ∃ t, PE X e t ∧ Sm X W (PSq X.KK) t f
def DT (e : Expr) (f : Ev → R Bool) : Prop := ∃ t, PT X e t ∧ Sm X W PTb t f
def DW (e : Expr) (f : Ev → R Bool) : Prop := ∃ t, PW X e t ∧ Sm X W PTb t f
def DA (es : List Expr) (f : Ev → R (List D)) : Prop := ∃ t, PA X es t ∧ Sm X W (PAf X.KK) t f
end
def unD : Ow → Option D
  | .d x => some x
  | .l _ => none
  | _ => none
def unDs : List Ow → Option (List D)
  | [] => some []
  | o :: os => (unD o).bind fun x => (unDs os).map fun xs => x :: xs
@[simp] theorem unDs_map : ∀ ds : List D, unDs (ds.map Ow.d) = some ds
  | [] => rfl
  | d :: ds => by simp [unDs, unD, unDs_map ds]
theorem unDs_eq : ∀ {os : List Ow} {ds : List D}, unDs os = some ds → os = ds.map Ow.d
  | [], ds, h => by simp [unDs] at h; subst h; rfl
  | .d x :: os, ds, h => by
    simp only [unDs, unD, Option.bind_some, Option.map_eq_some_iff] at h
    obtain ⟨xs, h1, h2⟩ := h
    subst h2
    rw [unDs_eq h1]; rfl
  | .l _ :: os, ds, h => by simp [unDs, unD] at h
  | .m _ :: os, ds, h => by simp [unDs, unD] at h
  | .t _ :: os, ds, h => by simp [unDs, unD] at h
  | .k _ _ :: os, ds, h => by simp [unDs, unD] at h
  | .n _ _ :: os, ds, h => by simp [unDs, unD] at h
  | .o _ _ _ :: os, ds, h => by simp [unDs, unD] at h
def shD : Ow → R D
  | .d x => .ok x
  | .l os => match unDs os with
    | some ds => .ok (.list ds)
    | none => .no
  | _ => .no
@[simp] theorem shD_d (x : D) : shD (.d x) = .ok x := rfl
@[simp] theorem shD_l (ds : List D) : shD (.l (ds.map Ow.d)) = .ok (.list ds) := by simp [shD]
@[simp] theorem shD_nil : shD (.l []) = .ok (.list []) := rfl
theorem OwnAll.dp {F H : Hp} : ∀ {ds : List D} {vs : List V} {fp : List Addr}, OwnAll K F H vs (ds.map Ow.d) fp → DpAll K F vs ds ∧ fp = []
  | [], _, _, h => by cases h; exact ⟨.nil, rfl⟩
  | d :: ds, _, _, h => by
    cases h with
    | cons h1 h2 =>
      cases h1 with
      | d q =>
        obtain ⟨a, b⟩ := OwnAll.dp (ds := ds) h2
        exact ⟨.cons q a, by rw [b]; rfl⟩
theorem OwnAll.of_dp {F H : Hp} : ∀ {ds : List D} {vs : List V}, DpAll K F vs ds → OwnAll K F H vs (ds.map Ow.d) []
  | [], _, h => by cases h; exact .nil
  | d :: ds, _, h => by
    cases h with
    | cons h1 h2 => exact .cons (fp := []) (.d h1) (OwnAll.of_dp h2)
theorem PSq.of {F H : Hp} {v : V} {d : D} {H0 : Hp} (s : Same F H) (h : Dp K F v d) : PSq K H0 d v F H := by
  cases d with
  | list ds =>
    cases h with
    | lst hs ha => exact ⟨_, _, rfl, s.seq hs, ha⟩
  | _ => exact h
theorem PSq.view {F H : Hp} {v : V} {d : D} {H0 : Hp} (s : Same F H) (h : PSq K H0 d v F H) : Dp K H v d := by
  cases d with
  | list ds =>
    obtain ⟨a, vs, rfl, h1, h2⟩ := h
    exact .lst h1 (dpaUp h2 s)
  | _ => exact dpUp (show Dp K F v _ from h) s
theorem PSq.ext {F H F1 H1 : Hp} {v : V} {d : D} {H0 H2 : Hp} (e : Ext F H F1 H1) (h : PSq K H0 d v F H) : PSq K H2 d v F1 H1 := by
  cases d with
  | list ds =>
    obtain ⟨a, vs, rfl, h1, h2⟩ := h
    exact ⟨_, _, rfl, e.hh.seq h1, dpaUp h2 e.ff⟩
  | _ => exact dpUp (show Dp K F v _ from h) e.ff
theorem own_seq {F H : Hp} {v : V} {o : Ow} {fp : List Addr} {d : D} {H0 : Hp} (s : Same F H) (h : OwnAt K F H v o fp) (e : shD o = .ok d) : PSq K H0 d v F H := by
  cases o with
  | d x =>
    cases h with
    | d p =>
      cases e
      exact .of s p
  | l os =>
    cases h with
    | l h1 h2 h3 =>
      have e' : (match unDs os with | some ds => (R.ok (.list ds) : R D) | none => .no) = .ok d := e
      clear e
      cases u : unDs os with
      | none => rw [u] at e'; cases e'
      | some ds =>
        rw [u] at e'
        cases e'
        rw [unDs_eq u] at h3
        exact ⟨_, _, rfl, SqL.of h2, (OwnAll.dp h3).1⟩
  | _ => cases e
theorem shD_ex (o : Ow) (c : Str) : shD o ≠ .ex c := fun e => by
  cases o with
  | d x => cases e
  | l os =>
    have e' : (match unDs os with | some ds => (R.ok (.list ds) : R D) | none => .no) = .ex c := e
    split at e' <;> cases e'
  | _ => cases e
theorem shD_ok {X : Cx} {W : WX} {β : Type} {P : Hp → D → β → Hp → Hp → Prop} {F H : Hp} {σ : L2.St} {o : Ow} {Q : β → Hp → Prop} (h : Post X W P F H σ (shD o) Q) : ∃ r, shD o = .ok r := by
  cases e2 : shD o with
  | no => rw [e2] at h; exact h.elim
  | ex c => exact absurd e2 (shD_ex o c)
  | ok r => exact ⟨r, rfl⟩
section
variable {X : Cx} {W : WX} {e a b : Expr} {es : List Expr} {pos : Pos}
theorem dv_df {f : Ev → R D} (h : DF X W e f) : DV X W e f := by
  obtain ⟨t, p, s⟩ := h
  refine ⟨t, p, fun F H σ env fp Q sat h => s F H σ env fp Q sat ?_⟩
  cases e : f env with
  | no => rw [e] at h; exact h
  | ex c => rw [e] at h; exact h
  | ok d => rw [e] at h; exact fun v F' H' x q => h v F' H' x (dpUp q x.fh)
theorem dv_de {f : Ev → R Ow} (h : DE X W e f) : DV X W e (eM f viewD) := by
  obtain ⟨t, p, s⟩ := h
  refine ⟨t, p, Sm.map s fun H o v F' H' sm ⟨fp, q, _⟩ => ⟨viewD o, rfl, OwnAt.view sm o v fp q⟩⟩
theorem de_df {f : Ev → R D} (h : DF X W e f) : DE X W e (eM f Ow.d) := by
  obtain ⟨t, p, s⟩ := h
  refine ⟨t, p, Sm.map s fun H d v F' H' sm q => ⟨.d d, rfl, [], .d q, List.nodup_nil, fun b z => nomatch z⟩⟩
theorem df_de {f : Ev → R Ow} (h : DE X W e f) : DF X W e (eM f viewD) := by
  obtain ⟨t, p, s⟩ := h
  refine ⟨t, p, fun F H σ env fp Q sat h => s F H σ env fp Q sat (Post.thru h fun d _ h' v F' H' x ⟨fp, q, _, n⟩ => ?_)⟩
  obtain ⟨F2, x2, q2⟩ := x.freeze q n
  exact h' v F2 H' x2 q2
theorem dl_df {f : Ev → R D} (h : DF X W e f) : DL X W e f := by
  obtain ⟨t, p, s⟩ := h
  refine ⟨t, p, fun F H σ env fp Q sat h => s F H σ env fp Q sat ?_⟩
  cases e : f env with
  | no => rw [e] at h; exact h
  | ex c => rw [e] at h; exact h
  | ok d => rw [e] at h; exact fun v F' H' x q => h v F' H' x (.of x.fh q)
theorem dl_de {f : Ev → R Ow} (h : DE X W e f) : DL X W e (eB f shD) := by
  obtain ⟨t, p, s⟩ := h
  refine ⟨t, p, fun F H σ env fp Q sat h => s F H σ env fp Q sat (Post.thru h fun d _ h' v F' H' x ⟨fp, q, _, n⟩ => ?_)⟩
  obtain ⟨r, e2⟩ := shD_ok h'
  rw [e2] at h'
  exact h' v F' H' x (own_seq x.fh q e2)
def eVar (i : Nat) (env : Ev) : R D := match env[i]? with
  | some (some (.d x)) => .ok x
  | _ => .no
def eVarO (i : Nat) (env : Ev) : R Ow := match env[i]? with
  | some (some o) => .ok o
  | _ => .no
theorem eVar_ok {P : Hp → D → V → Hp → Hp → Prop} {F H : Hp} {σ : L2.St} {i : Nat} {env : Ev} {Q : VK} (h : Post X W P F H σ (eVar i env) Q) : ∃ d, env[i]? = some (some (.d d)) ∧ eVar i env = .ok d := by
  unfold eVar at h ⊢
  split at h
  · rename_i d he
    exact ⟨d, he, rfl⟩
  · exact h.elim
theorem eVarO_ok {γ : Type} {P : Hp → γ → V → Hp → Hp → Prop} {F H : Hp} {σ : L2.St} {i : Nat} {env : Ev} {Q : VK} {g : Ow → R γ} (h : Post X W P F H σ ((eVarO i env).bind g) Q) : ∃ d, env[i]? = some (some d) ∧ eVarO i env = .ok d ∧ Post X W P F H σ (g d) Q := by
  unfold eVarO at h ⊢
  cases e : env[i]? with
  | none => rw [e] at h; exact h.elim
  | some o =>
    cases o with
    | none => rw [e] at h; exact h.elim
    | some o => rw [e] at h; exact ⟨o, rfl, rfl, h⟩
theorem df_var (i : Nat) {x : Str} (hN : X.N[i]? = some x := by rfl) (hv : Vis X.env.scope x := by first | exact Or.inl rfl | exact Or.inr (Or.inl rfl) | exact Or.inr (Or.inr rfl)) (hd : (x == ("__debug__" : Str)) = false := by decide)
    (hcd : (x == ("__classdict__" : Str)) = false := by decide) : DF X W (.Name x pos) (eVar i) := by
  refine ⟨_, pe_var hN hv hd hcd, fun F H σ env fp Q sat h => ?_⟩
  obtain ⟨d, he, e2⟩ := eVar_ok h
  rw [e2] at h
  obtain ⟨v, fo, h1, h2, _⟩ := sat.en.get he
  cases h2 with
  | d q => exact ⟨v, h1, h v F H (.refl sat.fh) q⟩
def eC (d : D) (_ : Ev) : R D := .ok d
theorem df_int {i j} : DF X W (.Constant (.int i) j pos) (eC (.int i)) := ⟨_, pe_int, fun F H σ env fp Q sat h => h _ F H (.refl sat.fh) (.int i)⟩
theorem df_bl {i j} : DF X W (.Constant (.bool i) j pos) (eC (.bool i)) := ⟨_, pe_bl, fun F H σ env fp Q sat h => h _ F H (.refl sat.fh) (.bl i)⟩
theorem df_non {j} : DF X W (.Constant .none j pos) (eC .none) := ⟨_, pe_non, fun F H σ env fp Q sat h => h _ F H (.refl sat.fh) .non⟩
theorem df_str {i j} : DF X W (.Constant (.str i) j pos) (eC (.str i)) := ⟨_, pe_str, fun F H σ env fp Q sat h => h _ F H (.refl sat.fh) (.str i)⟩
def aNil (_ : Ev) : R (List D) := .ok []
def aCons (f : Ev → R D) (g : Ev → R (List D)) (env : Ev) : R (List D) := (f env).bind fun d => (g env).map fun ds => d :: ds
theorem da_nil : DA X W [] aNil := ⟨_, pa_nil, fun F H σ env fp Q sat h => h _ F H (.refl sat.fh) .nil⟩
theorem da_cons {f : Ev → R D} {g : Ev → R (List D)} (hf : DF X W e f) (hg : DA X W es g) (hs : starEach (e :: es) X.env = (false, eval e X.env) :: starEach es X.env := by rfl) : DA X W (e :: es) (aCons f g) := by
  obtain ⟨t, p, s⟩ := hf
  obtain ⟨t', p', s'⟩ := hg
  refine ⟨_, pa_cons p p' hs, fun F H σ env fp Q sat h => ?_⟩
  refine s.go sat h fun d v F1 H1 sat1 q _ h1 => ?_
  refine s'.go sat1 h1 fun ds vs F2 H2 sat2 q' x2 h2 => ?_
  exact h2 _ F2 H2 (.refl sat2.fh) (.cons (dpUp q x2.ff) q')
def eTup (f : Ev → R (List D)) (env : Ev) : R D := (f env).bind fun ds => guard (ds.length ≤ sizeLine) (.ok (.tuple ds))
def eLst (f : Ev → R (List D)) (env : Ev) : R Ow := (f env).bind fun ds => guard (ds.length ≤ sizeLine) (.ok (.l (ds.map Ow.d)))
theorem guard_post {P : Hp → α → β → Hp → Hp → Prop} {F H : Hp} {σ : L2.St} {c : Prop} {r : R α} {Q : β → Hp → Prop} (h : Post X W P F H σ (guard c r) Q) : c ∧ Post X W P F H σ r Q := by
  unfold guard at h
  split at h
  · exact ⟨‹_›, h⟩
  · exact h.elim
theorem df_tup {x1} {f : Ev → R (List D)} (hf : DA X W es f) : DF X W (.Tuple es x1 pos) (eTup f) := by
  obtain ⟨t, p, s⟩ := hf
  refine ⟨_, pe_tup p, fun F H σ env fp Q sat h => ?_⟩
  refine s.go sat h fun ds vs F1 H1 sat1 q _ h1 => ?_
  obtain ⟨hl, h2⟩ := guard_post h1
  refine ⟨by rw [DpAll.len q]; exact hl, fun p hp => ?_⟩
  have x := Ext.frz sat1.fh hp (.tup vs)
  exact h2 _ _ _ x (.tup (SqT.of upd_same) (dpaUp q x.ff))
theorem de_lst {f : Ev → R (List D)} (hf : DA X W es f) : DE X W (.List es pos) (eLst f) := by
  obtain ⟨t, p, s⟩ := hf
  refine ⟨_, pe_lst p, fun F H σ env fp Q sat h => ?_⟩
  refine s.go sat h fun ds vs F1 H1 sat1 q _ h1 => ?_
  obtain ⟨hl, h2⟩ := guard_post h1
  refine ⟨by rw [DpAll.len q]; exact hl, fun p hp => ?_⟩
  have x := Ext.own sat1.fh hp (.lst vs)
  exact h2 _ _ _ x ⟨[p], .l (free_of sat1.fh hp) upd_same (OwnAll.of_dp q), by simp, by simpa using hp⟩

def R.of {α : Type} : Option α → R α
  | some a => .ok a
  | none => .no
@[simp] theorem R.of_some (a : α) : R.of (some a) = .ok a := rfl
@[simp] theorem R.of_none : R.of (none : Option α) = .no := rfl
/-- data in, flat data out, the heap as it was -/
def OpS (K : Kw) (r : R2) (g : D → D → Option D) : Prop := ∀ H x y dx dy d Q, Dp K H x dx → Dp K H y dy → g dx dy = some d → (∀ v, (∀ F, Dp K F v d) → Q v H) → r x y H Q
def eBin (g : D → D → Option D) (f h : Ev → R D) (env : Ev) : R D := (f env).bind fun x => (h env).bind fun y => R.of (g x y)
theorem post_of {P : Hp → α → β → Hp → Hp → Prop} {F H : Hp} {σ : L2.St} {o : Option α} {Q : β → Hp → Prop} (h : Post X W P F H σ (R.of o) Q) : ∃ a, o = some a ∧ ∀ v F' H', Ext F H F' H' → P H a v F' H' → Q v H' := by
  cases o with
  | none => exact h.elim
  | some a => exact ⟨a, rfl, h⟩
theorem op_sm {r : R2} {g : D → D → Option D} (hs : OpS X.KK r g) {ta tb : TE} {f h : Ev → R D} (sa : Sm X W (PVw X.KK) ta f) (sb : Sm X W (PVw X.KK) tb h) : Sm X W (PFz X.KK) (tOp r ta tb) (eBin g f h) := by
  intro F H σ env fp Q sat hp
  refine sa.go sat hp fun d v F1 H1 sat1 q _ h1 => ?_
  refine sb.go sat1 h1 fun d' v' F2 H2 sat2 q' x2 h2 => ?_
  obtain ⟨z, hz, h3⟩ := post_of h2
  exact hs H2 v v' d d' z Q (dpUp q x2.hh) q' hz fun u hu => h3 u F2 H2 (.refl sat2.fh) (hu _)
theorem df_bin {op : Operator} {r : R2} {g : D → D → Option D} (ho : OpR X (binaryOp op) r) (hs : OpS X.KK r g) {f h : Ev → R D} (ha : DV X W a f) (hb : DV X W b h) : DF X W (.BinOp a op b pos) (eBin g f h) := by
  obtain ⟨ta, pa, sa⟩ := ha
  obtain ⟨tb, pb, sb⟩ := hb
  exact ⟨_, pe_op ho pa pb, op_sm hs sa sb⟩
theorem df_cmp {op : CmpOp} {r : R2} {g : D → D → Option D} (ho : OpR X (compareOp op) r) (hs : OpS X.KK r g) {f h : Ev → R D} (ha : DV X W a f) (hb : DV X W b h) (hm : behindInMarks op b = false := by first | exact nomark _ | rfl) :
    DF X W (.Compare a [op] [b] pos) (eBin g f h) := by
  obtain ⟨ta, pa, sa⟩ := ha
  obtain ⟨tb, pb, sb⟩ := hb
  exact ⟨_, pe_cmpR ho pa pb hm, op_sm hs sa sb⟩
def asB : D → R Bool
  | .bool b => .ok b
  | _ => .no
@[simp] theorem asB_bool (b : Bool) : asB (.bool b) = .ok b := rfl
theorem tb_sm {t : TE} {f : Ev → R D} (s : Sm X W (PVw X.KK) t f) : Sm X W PTb (fun σ H Q => t σ H fun x H' => ∃ k, x = .bl k ∧ Q k H') (eB f asB) := by
  intro F H σ env fp Q sat hp
  refine s.go sat hp fun d v F1 H1 sat1 q _ h1 => ?_
  cases d with
  | bool b =>
    cases q
    exact ⟨b, rfl, h1 b F1 H1 (.refl sat1.fh) rfl⟩
  | _ => exact h1.elim
theorem dt_cmp {op : CmpOp} {r : R2} {g : D → D → Option D} (ho : OpR X (compareOp op) r) (hs : OpS X.KK r g) {f h : Ev → R D} (ha : DV X W a f) (hb : DV X W b h) (hm : behindInMarks op b = false := by first | exact nomark _ | rfl) :
    DT X W (.Compare a [op] [b] pos) (eB (eBin g f h) asB) := by
  obtain ⟨ta, pa, sa⟩ := ha
  obtain ⟨tb, pb, sb⟩ := hb
  refine ⟨_, pt_cmpR ho pa pb hm, tb_sm ?_⟩
  intro F H σ env fp Q sat hp
  refine op_sm hs sa sb F H σ env fp Q sat ?_
  cases e : eBin g f h env with
  | no => rw [e] at hp; exact hp
  | ex c => rw [e] at hp; exact hp
  | ok d => rw [e] at hp; exact fun v F' H' x q => hp v F' H' x (dpUp q x.fh)
theorem dt_val {f : Ev → R D} (h : DV X W e f) (he : ∀ whole, isTrue e X.env whole = (do let v ← whole; standAt e.pos; holding [v] (truthy v)) := by intro _; rfl) : DT X W e (eB f asB) := by
  obtain ⟨t, p, s⟩ := h
  exact ⟨_, pt_val p he, tb_sm s⟩
def tNotE (f : Ev → R Bool) (env : Ev) : R Bool := (f env).map (!·)
theorem dt_not {f : Ev → R Bool} (h : DT X W a f) : DT X W (.UnaryOp .Not a pos) (tNotE f) := by
  obtain ⟨t, p, s⟩ := h
  refine ⟨_, pt_not p, fun F H σ env fp Q sat hp => ?_⟩
  refine s.go sat hp fun b v F1 H1 sat1 q _ h1 => ?_
  obtain rfl : v = b := q
  exact h1 _ F1 H1 (.refl sat1.fh) rfl
def tAndE (f g : Ev → R Bool) (env : Ev) : R Bool := (f env).bind fun b => if b = true then g env else .ok false
def tOrE (f g : Ev → R Bool) (env : Ev) : R Bool := (f env).bind fun b => if b = true then .ok true else g env
theorem dw_and1 {f : Ev → R Bool} (h : DT X W a f) : DW X W (.BoolOp .And [a] pos) f := by
  obtain ⟨t, p, s⟩ := h
  exact ⟨_, pw_and1 p, s⟩
theorem dw_or1 {f : Ev → R Bool} (h : DT X W a f) : DW X W (.BoolOp .Or [a] pos) f := by
  obtain ⟨t, p, s⟩ := h
  exact ⟨_, pw_or1 p, s⟩
theorem dw_and {rest : List Expr} {f g : Ev → R Bool} (h : DT X W a f) (h2 : DW X W (.BoolOp .And (b :: rest) pos) g) : DW X W (.BoolOp .And (a :: b :: rest) pos) (tAndE f g) := by
  obtain ⟨t, p, s⟩ := h
  obtain ⟨t', p', s'⟩ := h2
  refine ⟨_, pw_and p p', fun F H σ env fp Q sat hp => ?_⟩
  refine s.go sat hp fun b v F1 H1 sat1 q _ h1 => ?_
  obtain rfl : v = b := q
  cases v with
  | true => exact s' F1 H1 σ env fp Q sat1 h1
  | false => exact h1 false F1 H1 (.refl sat1.fh) rfl
theorem dw_or {rest : List Expr} {f g : Ev → R Bool} (h : DT X W a f) (h2 : DW X W (.BoolOp .Or (b :: rest) pos) g) : DW X W (.BoolOp .Or (a :: b :: rest) pos) (tOrE f g) := by
  obtain ⟨t, p, s⟩ := h
  obtain ⟨t', p', s'⟩ := h2
  refine ⟨_, pw_or p p', fun F H σ env fp Q sat hp => ?_⟩
  refine s.go sat hp fun b v F1 H1 sat1 q _ h1 => ?_
  obtain rfl : v = b := q
  cases v with
  | false => exact s' F1 H1 σ env fp Q sat1 h1
  | true => exact h1 true F1 H1 (.refl sat1.fh) rfl
theorem dt_dw {f : Ev → R Bool} (h : DW X W a f) : DT X W a f := by
  obtain ⟨t, p, s⟩ := h
  exact ⟨_, p.pt, s⟩
def eAnd (f g : Ev → R D) (env : Ev) : R D := ((f env).bind asB).bind fun b => if b = true then g env else .ok (.bool false)
def eOr (f g : Ev → R D) (env : Ev) : R D := ((f env).bind asB).bind fun b => if b = true then .ok (.bool true) else g env
def eNot (f : Ev → R D) (env : Ev) : R D := ((f env).bind asB).bind fun b => .ok (.bool !b)
theorem R.bind_assoc {α β γ : Type} (r : R α) (f : α → R β) (g : β → R γ) : (r.bind f).bind g = r.bind fun a => (f a).bind g := by cases r <;> rfl
theorem df_one {op} {f : Ev → R D} (h : DF X W a f) : DF X W (.BoolOp op [a] pos) f := by
  obtain ⟨t, p, s⟩ := h
  exact ⟨_, pe_one p, s⟩
theorem df_and {rest : List Expr} {f g : Ev → R D} (h : DV X W a f) (h2 : DF X W (.BoolOp .And (b :: rest) pos) g) : DF X W (.BoolOp .And (a :: b :: rest) pos) (eAnd f g) := by
  obtain ⟨t, p, s⟩ := h
  obtain ⟨t', p', s'⟩ := h2
  refine ⟨_, pe_and p p', fun F H σ env fp Q sat hp => ?_⟩
  unfold eAnd at hp
  rw [R.bind_assoc] at hp
  refine s.go sat hp fun d v F1 H1 sat1 q _ h1 => ?_
  cases d with
  | bool b =>
    cases q
    refine ⟨b, rfl, ?_⟩
    cases b with
    | true => exact s' F1 H1 σ env fp Q sat1 h1
    | false => exact h1 _ F1 H1 (.refl sat1.fh) (.bl false)
  | _ => exact h1.elim
theorem df_not {f : Ev → R D} (h : DV X W a f) : DF X W (.UnaryOp .Not a pos) (eNot f) := by
  obtain ⟨t, p, s⟩ := h
  refine ⟨_, pe_not p, fun F H σ env fp Q sat hp => ?_⟩
  unfold eNot at hp
  rw [R.bind_assoc] at hp
  refine s.go sat hp fun d v F1 H1 sat1 q _ h1 => ?_
  cases d with
  | bool b =>
    cases q
    exact ⟨b, rfl, h1 _ F1 H1 (.refl sat1.fh) (.bl _)⟩
  | _ => exact h1.elim
def eIf (c : Ev → R Bool) (f g : Ev → R D) (env : Ev) : R D := (c env).bind fun b => if b = true then f env else g env
end
end Mir
end
set_option Elab.async false
set_option linter.all false
set_option maxRecDepth 100000
set_option maxHeartbeats 4000000
noncomputable section
namespace Mir
open PySem PySem.Spec L2

section
variable {K : Kw}
theorem dp_int {H : Hp} {v : V} {i : Int} (h : Dp K H v (.int i)) : v = .int i := by cases h; rfl
theorem dp_str {H : Hp} {v : V} {z : Str} (h : Dp K H v (.str z)) : v = .str z := by cases h; rfl
theorem dp_bool {H : Hp} {v : V} {z : Bool} (h : Dp K H v (.bool z)) : v = .bl z := by cases h; rfl
theorem dp_none {H : Hp} {v : V} (h : Dp K H v .none) : v = .non := by cases h; rfl
theorem dp_tup {H : Hp} {v : V} {ds : List D} (h : Dp K H v (.tuple ds)) : ∃ a vs, v = .ref a ∧ SqT K H a vs ∧ DpAll K H vs ds := by cases h with | tup a b => exact ⟨_, _, rfl, a, b⟩
theorem dp_lst {H : Hp} {v : V} {ds : List D} (h : Dp K H v (.list ds)) : ∃ a vs, v = .ref a ∧ SqL K H a vs ∧ DpAll K H vs ds := by cases h with | lst a b => exact ⟨_, _, rfl, a, b⟩

open Classical in
def gI (C : Int → Int → Prop) (f : Int → Int → Int) : D → D → Option D
  | .int i, .int j => if C i j then some (.int (f i j)) else none
  | _, _ => none
def gI0 (f : Int → Int → Int) : D → D → Option D
  | .int i, .int j => some (.int (f i j))
  | _, _ => none
def gIB (f : Int → Int → Bool) : D → D → Option D
  | .int i, .int j => some (.bool (f i j))
  | _, _ => none
theorem opS_I {C : Int → Int → Prop} {f : Int → Int → Int} : OpS K (rI C fun i j => .int (f i j)) (gI C f) := by
  intro H x y dx dy d Q hx hy e q
  unfold gI at e
  split at e
  · rename_i i j
    split at e
    · rename_i c
      cases e
      cases dp_int hx
      cases dp_int hy
      exact ⟨i, j, rfl, rfl, c, q _ fun _ => .int _⟩
    · cases e
  · cases e
theorem opS_I0 {f : Int → Int → Int} : OpS K (rI0 fun i j => .int (f i j)) (gI0 f) := by
  intro H x y dx dy d Q hx hy e q
  unfold gI0 at e
  split at e
  · cases e
    cases dp_int hx
    cases dp_int hy
    exact ⟨_, _, rfl, rfl, q _ fun _ => .int _⟩
  · cases e
theorem opS_IB {f : Int → Int → Bool} : OpS K (rI0 fun i j => .bl (f i j)) (gIB f) := by
  intro H x y dx dy d Q hx hy e q
  unfold gIB at e
  split at e
  · cases e
    cases dp_int hx
    cases dp_int hy
    exact ⟨_, _, rfl, rfl, q _ fun _ => .bl _⟩
  · cases e
def gSub := gI0 fun i j => i - j
def gMul := gI (fun i j => CMul i j ∨ CMulW i j) fun i j => i * j
def gDiv := gI CDivW fun i j => i / j
def gMod := gI (fun _ j => 0 < j) fun i j => i % j
def gPow := gI CPow fun i j => i ^ j.toNat
def gLt := gIB fun i j => decide (i < j)
def gLe := gIB fun i j => decide (i ≤ j)
def gGt := gIB fun i j => decide (j < i)
def gGe := gIB fun i j => decide (j ≤ i)
@[simp] theorem gSub_int (i j : Int) : gSub (.int i) (.int j) = some (.int (i - j)) := rfl
theorem gMul_int {i j : Int} (h : CMulW i j) : gMul (.int i) (.int j) = some (.int (i * j)) := if_pos (.inr h)
theorem gDiv_int {i j : Int} (h : CDivW i j) : gDiv (.int i) (.int j) = some (.int (i / j)) := if_pos h
theorem gMod_int {i j : Int} (h : 0 < j) : gMod (.int i) (.int j) = some (.int (i % j)) := if_pos h
theorem gPow_int {i j : Int} (h : CPow i j) : gPow (.int i) (.int j) = some (.int (i ^ j.toNat)) := if_pos h
@[simp] theorem gLt_int (i j : Int) : gLt (.int i) (.int j) = some (.bool (decide (i < j))) := rfl
@[simp] theorem gLe_int (i j : Int) : gLe (.int i) (.int j) = some (.bool (decide (i ≤ j))) := rfl
@[simp] theorem gGt_int (i j : Int) : gGt (.int i) (.int j) = some (.bool (decide (j < i))) := rfl
@[simp] theorem gGe_int (i j : Int) : gGe (.int i) (.int j) = some (.bool (decide (j ≤ i))) := rfl
end

section
variable {X : Cx} {W : WX} {e a b : Expr} {es : List Expr} {pos : Pos} {f g : Ev → R D}
theorem df_sub (ha : DV X W a f) (hb : DV X W b g) : DF X W (.BinOp a .Sub b pos) (eBin gSub f g) := df_bin op_sub opS_I0 ha hb
theorem op_mulV : OpR X (binaryOp .Mult) (rI (fun i j => CMul i j ∨ CMulW i j) fun i j => .int (i * j)) := by
  intro pins s σ H x y v u Q I rx ry h
  obtain ⟨i, j, e1, e2, c, q⟩ := h
  rcases c with c | c
  · exact op_mul pins s σ H x y v u Q I rx ry ⟨i, j, e1, e2, c, q⟩
  · exact op_mulW pins s σ H x y v u Q I rx ry ⟨i, j, e1, e2, c, q⟩
theorem df_mul (ha : DV X W a f) (hb : DV X W b g) : DF X W (.BinOp a .Mult b pos) (eBin gMul f g) := df_bin op_mulV opS_I ha hb
theorem df_div (ha : DV X W a f) (hb : DV X W b g) : DF X W (.BinOp a .FloorDiv b pos) (eBin gDiv f g) := df_bin op_fdivW opS_I ha hb
theorem df_mod (ha : DV X W a f) (hb : DV X W b g) : DF X W (.BinOp a .Mod b pos) (eBin gMod f g) := df_bin op_mod opS_I ha hb
theorem df_pow (ha : DV X W a f) (hb : DV X W b g) : DF X W (.BinOp a .Pow b pos) (eBin gPow f g) := df_bin op_pow opS_I ha hb
theorem df_gt (ha : DV X W a f) (hb : DV X W b g) : DF X W (.Compare a [.Gt] [b] pos) (eBin gGt f g) := df_cmp op_gt opS_IB ha hb
theorem dt_lt (ha : DV X W a f) (hb : DV X W b g) : DT X W (.Compare a [.Lt] [b] pos) (eB (eBin gLt f g) asB) := dt_cmp op_lt opS_IB ha hb
theorem dt_gt (ha : DV X W a f) (hb : DV X W b g) : DT X W (.Compare a [.Gt] [b] pos) (eB (eBin gGt f g) asB) := dt_cmp op_gt opS_IB ha hb
theorem dt_ge (ha : DV X W a f) (hb : DV X W b g) : DT X W (.Compare a [.GtE] [b] pos) (eB (eBin gGe f g) asB) := dt_cmp op_ge opS_IB ha hb
def gNeg : D → R D
  | .int i => .ok (.int (-i))
  | _ => .no
def scalD : D → Bool
  | .none => true
  | .bool _ => true
  | .int _ => true
  | .str _ => true
  | _ => false
/-- a bool beside an int is left to the deep rule -/
def scal2 : D → D → Bool
  | .bool _, .int _ => false
  | .int _, .bool _ => false
  | a, b => scalD a && scalD b
def eqOk (a b : D) : Bool := a.canLay0 && b.canLay0 && decide (a.depth ≤ 130)
def gEq (a b : D) : Option D := if (scal2 a b || eqOk a b) = true then some (.bool (PyData.eqv a b)) else none
def gNe (a b : D) : Option D := if (scal2 a b || eqOk a b) = true then some (.bool (!PyData.eqv a b)) else none
def rEqA (K : Kw) (neg : Bool) : R2 := fun x y H Q => ∃ d e, Dp K H x d ∧ Dp K H y e ∧ eqOk d e = true ∧ Q (.bl (if neg then !PyData.eqv d e else PyData.eqv d e)) H
theorem eqOk_cases {a b : D} (h : eqOk a b = true) : a.canLay0 = true ∧ b.canLay0 = true ∧ a.depth ≤ 130 := by
  unfold eqOk at h
  simp only [Bool.and_eq_true, decide_eq_true_eq] at h
  exact ⟨h.1.1, h.1.2, h.2⟩
theorem op_eqA (hu : X.A.units + 140 < cLine) : OpR X (compareOp .Eq) (rEqA X.KK false) := by
  intro pins s σ H x y v u Q I rx ry h
  obtain ⟨d, e, hd, he, sd, q⟩ := h
  obtain ⟨as, r1⟩ := L2.Dp.reads I d x v (Dp.kit _ _ hd (eqOk_cases sd).1) rx
  obtain ⟨bs, r2⟩ := L2.Dp.reads I e y u (Dp.kit _ _ he (eqOk_cases sd).2.1) ry
  obtain ⟨c1, c2, c3⟩ := eqOk_cases sd
  exact SeqAt.compareEq_reads r1 r2 c1 c2 (by have := Nat.min_le_left d.depth e.depth; omega) ⟨.bl _, H, I, rfl, q⟩
theorem op_neA (hu : X.A.units + 140 < cLine) : OpR X (compareOp .NotEq) (rEqA X.KK true) := by
  intro pins s σ H x y v u Q I rx ry h
  obtain ⟨d, e, hd, he, sd, q⟩ := h
  obtain ⟨as, r1⟩ := L2.Dp.reads I d x v (Dp.kit _ _ hd (eqOk_cases sd).1) rx
  obtain ⟨bs, r2⟩ := L2.Dp.reads I e y u (Dp.kit _ _ he (eqOk_cases sd).2.1) ry
  obtain ⟨c1, c2, c3⟩ := eqOk_cases sd
  exact SeqAt.compareNe_reads r1 r2 c1 c2 (by have := Nat.min_le_left d.depth e.depth; omega) ⟨.bl _, H, I, rfl, q⟩
theorem scal_dp {K : Kw} {H : Hp} {x y : V} {a b : D} (ha : Dp K H x a) (hb : Dp K H y b) (h : scal2 a b = true) : scal x y = true ∧ decide (x = y) = PyData.eqv a b := by
  cases a <;> cases b <;> first
    | (cases h; done)
    | (cases ha; cases hb; refine ⟨rfl, ?_⟩; simp [PyData.eqv]; try rfl)
    | (cases ha; cases hb; refine ⟨rfl, ?_⟩; simp [PyData.eqv, dec_int, dec_bl, dec_str])
theorem opS_eq {K : Kw} : OpS K (fun x y H Q => rEq x y H Q ∨ rEqA K false x y H Q) gEq := by
  intro H x y dx dy d Q hx hy e q
  unfold gEq at e
  split at e
  · rename_i c
    cases e
    cases c1 : scal2 dx dy with
    | true =>
      obtain ⟨h1, h2⟩ := scal_dp hx hy c1
      exact .inl ⟨h1, by rw [h2]; exact q _ fun _ => .bl _⟩
    | false =>
      rw [c1, Bool.false_or] at c
      exact .inr ⟨dx, dy, hx, hy, c, q _ fun _ => .bl _⟩
  · cases e
theorem opS_ne {K : Kw} : OpS K (fun x y H Q => rNe x y H Q ∨ rEqA K true x y H Q) gNe := by
  intro H x y dx dy d Q hx hy e q
  unfold gNe at e
  split at e
  · rename_i c
    cases e
    cases c1 : scal2 dx dy with
    | true =>
      obtain ⟨h1, h2⟩ := scal_dp hx hy c1
      exact .inl ⟨h1, by rw [h2]; exact q _ fun _ => .bl _⟩
    | false =>
      rw [c1, Bool.false_or] at c
      exact .inr ⟨dx, dy, hx, hy, c, q _ fun _ => .bl _⟩
  · cases e
theorem df_eq (hu : X.A.units + 140 < cLine) (ha : DV X W a f) (hb : DV X W b g) : DF X W (.Compare a [.Eq] [b] pos) (eBin gEq f g) := df_cmp (OpR.or op_eq (op_eqA hu)) opS_eq ha hb
theorem df_ne (hu : X.A.units + 140 < cLine) (ha : DV X W a f) (hb : DV X W b g) : DF X W (.Compare a [.NotEq] [b] pos) (eBin gNe f g) := df_cmp (OpR.or op_ne (op_neA hu)) opS_ne ha hb
theorem dt_eq (hu : X.A.units + 140 < cLine) (ha : DV X W a f) (hb : DV X W b g) : DT X W (.Compare a [.Eq] [b] pos) (eB (eBin gEq f g) asB) := dt_cmp (OpR.or op_eq (op_eqA hu)) opS_eq ha hb
theorem dt_ne (hu : X.A.units + 140 < cLine) (ha : DV X W a f) (hb : DV X W b g) : DT X W (.Compare a [.NotEq] [b] pos) (eB (eBin gNe f g) asB) := dt_cmp (OpR.or op_ne (op_neA hu)) opS_ne ha hb
def isNone : D → Bool
  | .none => true
  | _ => false
def gIsN : D → D → Option D
  | x, .none => some (.bool (isNone x))
  | _, _ => none
def gNotN : D → D → Option D
  | x, .none => some (.bool (!isNone x))
  | _, _ => none
@[simp] theorem gIsN_none (x : D) : gIsN x .none = some (.bool (isNone x)) := by cases x <;> rfl
@[simp] theorem gNotN_none (x : D) : gNotN x .none = some (.bool (!isNone x)) := by cases x <;> rfl
theorem isNone_dp {K : Kw} {H : Hp} {x : V} {d : D} (h : Dp K H x d) : decide (x = .non) = isNone d := by
  cases h <;> first | rfl | (simp [isNone]; done)
theorem opS_isN {K : Kw} : OpS K (fun x y H Q => y = .non ∧ Q (.bl (decide (x = .non))) H) gIsN := by
  intro H x y dx dy d Q hx hy e q
  cases dy with
  | none =>
    rw [gIsN_none] at e
    cases e
    exact ⟨dp_none hy, by rw [isNone_dp hx]; exact q _ fun _ => .bl _⟩
  | _ => cases dx <;> cases e
theorem opS_notN {K : Kw} : OpS K (fun x y H Q => y = .non ∧ Q (.bl (!decide (x = .non))) H) gNotN := by
  intro H x y dx dy d Q hx hy e q
  cases dy with
  | none =>
    rw [gNotN_none] at e
    cases e
    exact ⟨dp_none hy, by rw [isNone_dp hx]; exact q _ fun _ => .bl _⟩
  | _ => cases dx <;> cases e
theorem df_isN (ha : DV X W a f) (hb : DV X W b g) : DF X W (.Compare a [.Is] [b] pos) (eBin gIsN f g) := df_cmp op_isN opS_isN ha hb
theorem df_notN (ha : DV X W a f) (hb : DV X W b g) : DF X W (.Compare a [.IsNot] [b] pos) (eBin gNotN f g) := df_cmp op_notN opS_notN ha hb
theorem dt_isN (ha : DV X W a f) (hb : DV X W b g) : DT X W (.Compare a [.Is] [b] pos) (eB (eBin gIsN f g) asB) := dt_cmp op_isN opS_isN ha hb
theorem dt_notN (ha : DV X W a f) (hb : DV X W b g) : DT X W (.Compare a [.IsNot] [b] pos) (eB (eBin gNotN f g) asB) := dt_cmp op_notN opS_notN ha hb

def gAdd : D → D → Option Ow
  | .int i, .int j => some (.d (.int (i + j)))
  | .str x, .str y => if x.length + y.length ≤ sizeLine then some (.d (.str (x ++ y))) else none
  | .tuple xs, .tuple ys => if xs.length + ys.length ≤ sizeLine then some (.d (.tuple (xs ++ ys))) else none
  | .list xs, .list ys => if xs.length + ys.length ≤ sizeLine then some (.l ((xs ++ ys).map Ow.d)) else none
  | _, _ => none
@[simp] theorem gAdd_int (i j : Int) : gAdd (.int i) (.int j) = some (.d (.int (i + j))) := rfl
theorem gAdd_tup {xs ys : List D} (h : xs.length + ys.length ≤ sizeLine) : gAdd (.tuple xs) (.tuple ys) = some (.d (.tuple (xs ++ ys))) := if_pos h
def rCatL (K : Kw) : R2 := fun x y H Q => ∃ a b xs ys, x = .ref a ∧ y = .ref b ∧ SqL K H a xs ∧ SqL K H b ys ∧ xs.length + ys.length ≤ sizeLine ∧ ∀ p, H p = none → Q (.ref p) (upd H p (.lst (xs ++ ys)))
theorem op_catL : OpR X (binaryOp .Add) (rCatL X.KK) := by
  intro pins s σ H x y v u Q I rx ry h
  obtain ⟨l, b, xs, zs, rfl, rfl, hH, hB, hz, q⟩ := h
  cases rx
  cases ry
  obtain ⟨its, r, pl, hl⟩ := I.list hH
  obtain ⟨its2, r2, pl2, hl2⟩ := I.list hB
  obtain ⟨⟨c1, d1, t1, s1⟩, g1, k1, n1, m1⟩ := pl.isList
  obtain ⟨⟨c2, d2, t2, s2⟩, g2, k2, n2, m2⟩ := pl2.isList
  simp only at k1 m1 k2 m2
  subst k1 m1 k2 m2
  refine PySem.concat_meets ⟨_, g1, rfl⟩ ⟨_, g2, rfl⟩ PySem.noFill_list_add PySem.seq_list_add PySem.F.slot_list_add PySem.F.entry_list_add (PySem.F.args_list_add_2 _ _)
    (PyProof.Rows.list_addW l b its.toArray its2.toArray n1 n2 d1 d2 s1 s2 (by rw [List.size_toArray, List.size_toArray, ← r.length, ← r2.length]; exact hz)) ⟨g1, g2, ?_⟩
  have ea : its.toArray ++ its2.toArray = (its ++ its2).toArray := by simp
  rw [ea]
  exact ⟨.ref _, _, I.lnew (t' := s.toks) (r.append r2) (by rw [List.length_append]; omega), rfl, q _ I.fresh⟩
abbrev rAddAll (K : Kw) : R2 := fun x y H Q => rI0 (fun i j => .int (i + j)) x y H Q ∨ (fun x y H Q => (∃ i j, x = V.str i ∧ y = V.str j ∧ i.length + j.length ≤ sizeLine ∧ Q (.str (i ++ j)) H) ∨ (fun x y H Q => rCatA K x y H Q ∨ rCatL K x y H Q) x y H Q) x y H Q
theorem op_addAll : OpR X (binaryOp .Add) (rAddAll X.KK) := OpR.or op_add (OpR.or op_add_str (OpR.or op_catA op_catL))
def eBinO (g : D → D → Option Ow) (f h : Ev → R D) (env : Ev) : R Ow := (f env).bind fun x => (h env).bind fun y => R.of (g x y)
/-- two operands with frozen items, a new value -/
def OpG (K : Kw) (r : R2) (g : D → D → Option Ow) : Prop := ∀ F H x y dx dy o Q, Same F H → PSq K H dx x F H → PSq K H dy y F H → g dx dy = some o → (∀ v F' H', Ext F H F' H' → POw K H o v F' H' → Q v H') → r x y H Q
theorem opG_sm {r : R2} {g : D → D → Option Ow} (hs : OpG X.KK r g) {ta tb : TE} {f h : Ev → R D} (sa : Sm X W (PSq X.KK) ta f) (sb : Sm X W (PSq X.KK) tb h) : Sm X W (POw X.KK) (tOp r ta tb) (eBinO g f h) := by
  intro F H σ env fp Q sat hp
  refine sa.go sat hp fun d v F1 H1 sat1 q _ h1 => ?_
  refine sb.go sat1 h1 fun d' v' F2 H2 sat2 q' x2 h2 => ?_
  obtain ⟨z, hz, h3⟩ := post_of h2
  exact hs F2 H2 v v' d d' z Q sat2.fh (q.ext x2) q' hz h3
theorem de_bin {op : Operator} {r : R2} {g : D → D → Option Ow} (ho : OpR X (binaryOp op) r) (hs : OpG X.KK r g) {f h : Ev → R D} (ha : DL X W a f) (hb : DL X W b h) : DE X W (.BinOp a op b pos) (eBinO g f h) := by
  obtain ⟨ta, pa, sa⟩ := ha
  obtain ⟨tb, pb, sb⟩ := hb
  exact ⟨_, pe_op ho pa pb, opG_sm hs sa sb⟩
theorem own_d {K : Kw} {H0 F H : Hp} {v : V} {d : D} (h : Dp K F v d) : POw K H0 (.d d) v F H := ⟨[], .d h, List.nodup_nil, fun _ z => nomatch z⟩
theorem own_l {K : Kw} {F H : Hp} {p : Addr} {vs : List V} {ds : List D} (s : Same F H) (hp : H p = none) (h : DpAll K F vs ds) : POw K H (.l (ds.map Ow.d)) (.ref p) F (upd H p (.lst vs)) :=
  ⟨[p], .l (free_of s hp) upd_same (OwnAll.of_dp h), by simp, by simpa using hp⟩
theorem opG_add {K : Kw} : OpG K (rAddAll K) gAdd := by
  intro F H x y dx dy o Q s hx hy e q
  unfold gAdd at e
  split at e
  · cases e
    cases dp_int hx
    cases dp_int hy
    exact .inl ⟨_, _, rfl, rfl, q _ _ _ (.refl s) (own_d (.int _))⟩
  · split at e
    · cases e
      cases dp_str hx
      cases dp_str hy
      exact .inr (.inl ⟨_, _, rfl, rfl, ‹_›, q _ _ _ (.refl s) (own_d (.str _))⟩)
    · cases e
  · split at e
    · rename_i xs ys c
      cases e
      obtain ⟨a, vs, rfl, h1, h2⟩ := dp_tup hx
      obtain ⟨b, ws, rfl, g1, g2⟩ := dp_tup hy
      refine .inr (.inr (.inl ⟨a, b, vs, ws, rfl, rfl, SqT_mono s h1, SqT_mono s g1, by rw [DpAll.len h2, DpAll.len g2]; exact c, fun e0 => ?_, fun n0 e0 => ?_, fun n0 n1 p hp => ?_⟩))
      · have l := DpAll.len h2
        rw [e0] at l
        have z : xs = [] := List.length_eq_zero_iff.mp l.symm
        subst z
        exact q _ _ _ (.refl s) (own_d hy)
      · have l := DpAll.len g2
        rw [e0] at l
        have z : ys = [] := List.length_eq_zero_iff.mp l.symm
        subst z
        rw [List.append_nil] at q
        exact q _ _ _ (.refl s) (own_d hx)
      · have x := Ext.frz s hp (.tup (vs ++ ws))
        exact q _ _ _ x (own_d (.tup (SqT.of upd_same) (dpaUp (DpAll.append h2 g2) x.ff)))
    · cases e
  · split at e
    · rename_i xs ys c
      cases e
      obtain ⟨a, vs, rfl, h1, h2⟩ := hx
      obtain ⟨b, ws, rfl, g1, g2⟩ := hy
      refine .inr (.inr (.inr ⟨a, b, vs, ws, rfl, rfl, h1, g1, by rw [DpAll.len h2, DpAll.len g2]; exact c, fun p hp => ?_⟩))
      exact q _ _ _ (Ext.own s hp _) (own_l s hp (DpAll.append h2 g2))
    · cases e
  · cases e
theorem de_add (ha : DL X W a f) (hb : DL X W b g) : DE X W (.BinOp a .Add b pos) (eBinO gAdd f g) := de_bin op_addAll opG_add ha hb
end
end Mir
end
set_option Elab.async false
set_option linter.all false
set_option maxRecDepth 100000
set_option maxHeartbeats 4000000
noncomputable section
namespace Mir
open PySem PySem.Spec L2

section
variable {X : Cx} {W : WX} {e a b : Expr} {es : List Expr} {pos : Pos} {f g : Ev → R D}
theorem atI_dp {K : Kw} {F : Hp} {vs : List V} {ds : List D} {i : Int} {d : D} (h : DpAll K F vs ds) (e : atI ds i = some d) : ∃ v, atI vs i = some v ∧ Dp K F v d := by
  unfold atI at e ⊢
  rw [DpAll.len h]
  cases q : ixN ds.length i with
  | none => rw [q] at e; cases e
  | some j =>
    rw [q] at e
    exact DpAll.get h e
def gIx : D → D → Option D
  | .list ds, .int i => atI ds i
  | .tuple ds, .int i => atI ds i
  | .str z, .int i => if z.length ≤ sizeLine then (atI z.cps.toList i).map fun c => .str ⟨#[c]⟩ else none
  | _, _ => none
@[simp] theorem gIx_list (ds : List D) (i : Int) : gIx (.list ds) (.int i) = atI ds i := rfl
@[simp] theorem gIx_tup (ds : List D) (i : Int) : gIx (.tuple ds) (.int i) = atI ds i := rfl
theorem df_ix (ha : DL X W a f) (hb : DV X W b g) (hs : PlainIx b := by exact fun _ _ => rfl) : DF X W (.Subscript a b pos) (eBin gIx f g) := by
  obtain ⟨ta, pa, sa⟩ := ha
  obtain ⟨tb, pb, sb⟩ := hb
  refine ⟨_, pe_ix ix_seq pa pb hs, fun F H σ env fp Q sat hp => ?_⟩
  refine sa.go sat hp fun d v F1 H1 sat1 q _ h1 => ?_
  refine sb.go sat1 h1 fun d' v' F2 H2 sat2 q' x2 h2 => ?_
  obtain ⟨z, hz, h3⟩ := post_of h2
  unfold gIx at hz
  split at hz
  · rename_i ds i
    cases dp_int q'
    obtain ⟨p, vs, rfl, p1, p2⟩ := q
    obtain ⟨w, w1, w2⟩ := atI_dp p2 hz
    exact .inl ⟨p, vs, i, w, rfl, rfl, x2.hh.seq p1, w1, h3 _ _ _ (.refl sat2.fh) (dpUp w2 x2.ff)⟩
  · rename_i ds i
    cases dp_int q'
    obtain ⟨p, vs, rfl, p1, p2⟩ := dp_tup q
    obtain ⟨w, w1, w2⟩ := atI_dp p2 hz
    exact .inr (.inl ⟨p, vs, i, w, rfl, rfl, SqT_mono (x2.ff.trans sat2.fh) p1, w1, h3 _ _ _ (.refl sat2.fh) (dpUp w2 x2.ff)⟩)
  · split at hz
    · rename_i zz i c
      cases dp_int q'
      cases dp_str q
      obtain ⟨cc, c1, c2⟩ := Option.map_eq_some_iff.mp hz
      subst c2
      exact .inr (.inr ⟨_, _, cc, rfl, rfl, c, c1, h3 _ _ _ (.refl sat2.fh) (.str _)⟩)
    · cases hz
  · cases hz
/-- a slice's part -/
def DO (X : Cx) (W : WX) (e : Option Expr) (f : Ev → R (Option Int)) : Prop := ∃ t, PO X e t ∧ Sm X W (fun _ a v _ _ => v = a) t f
instance : Anti (fun (_ : Hp) (a v : Option Int) (_ _ : Hp) => v = a) := ⟨fun _ h => h⟩
def oNone (_ : Ev) : R (Option Int) := .ok none
def asI : D → R (Option Int)
  | .int i => .ok (some i)
  | _ => .no
@[simp] theorem asI_int (i : Int) : asI (.int i) = .ok (some i) := rfl
theorem do_none : DO X W none oNone := ⟨_, po_none, fun F H σ env fp Q sat hp => hp none F H (.refl sat.fh) rfl⟩
theorem do_some (h : DV X W e f) : DO X W (some e) (eB f asI) := by
  obtain ⟨t, p, s⟩ := h
  refine ⟨_, po_some p, fun F H σ env fp Q sat hp => ?_⟩
  refine s.go sat hp fun d v F1 H1 sat1 q _ h1 => ?_
  cases d with
  | int i => cases dp_int q; exact ⟨i, rfl, h1 _ F1 H1 (.refl sat1.fh) rfl⟩
  | _ => exact h1.elim
def cutL {α : Type} (xs : List α) (lo hi : Option Int) : List α := (xs.drop (HT.sIx xs.length 0 lo)).take (HT.sIx xs.length xs.length hi - HT.sIx xs.length 0 lo)
theorem cutL_dp {K : Kw} {F : Hp} {vs : List V} {ds : List D} {lo hi : Option Int} (h : DpAll K F vs ds) : DpAll K F (cutV vs lo hi) (cutL ds lo hi) := by
  unfold cutV cutL
  rw [DpAll.len h]
  exact DpAll.take _ (DpAll.drop _ h)
def gSl : D → Option Int → Option Int → Option Ow
  | .list ds, lo, hi => some (.l ((cutL ds lo hi).map Ow.d))
  | .tuple ds, lo, hi => some (.d (.tuple (cutL ds lo hi)))
  | .str z, lo, hi => if z.length ≤ sizeLine then some (.d (.str (cutS z lo hi))) else none
  | _, _, _ => none
@[simp] theorem gSl_list (ds : List D) (lo hi : Option Int) : gSl (.list ds) lo hi = some (.l ((cutL ds lo hi).map Ow.d)) := rfl
@[simp] theorem gSl_tup (ds : List D) (lo hi : Option Int) : gSl (.tuple ds) lo hi = some (.d (.tuple (cutL ds lo hi))) := rfl
def eSl (f : Ev → R D) (l h : Ev → R (Option Int)) (env : Ev) : R Ow := (f env).bind fun x => (l env).bind fun i => (h env).bind fun j => R.of (gSl x i j)
theorem de_slice {lo hi : Option Expr} {l h : Ev → R (Option Int)} {p2 : Pos} (ha : DL X W a f) (hl : DO X W lo l) (hh : DO X W hi h) : DE X W (.Subscript a (.Slice lo hi none p2) pos) (eSl f l h) := by
  obtain ⟨ta, pa, sa⟩ := ha
  obtain ⟨tl, pl, sl⟩ := hl
  obtain ⟨th, ph, sh⟩ := hh
  refine ⟨_, pe_slice (SlR.or sl_list (SlR.or sl_tupA sl_str)) pa pl ph, fun F H σ env fp Q sat hp => ?_⟩
  refine sa.go sat hp fun d v F1 H1 sat1 q _ h1 => ?_
  refine sl.go sat1 h1 fun i i' F2 H2 sat2 q' x2 h2 => ?_
  obtain rfl : i' = i := q'
  refine sh.go sat2 h2 fun j j' F3 H3 sat3 q' x3 h3 => ?_
  obtain rfl : j' = j := q'
  obtain ⟨z, hz, h4⟩ := post_of h3
  have x := x2.trans x3
  unfold gSl at hz
  split at hz
  · cases hz
    obtain ⟨p, vs, rfl, p1, p2⟩ := q
    refine .inl ⟨p, vs, rfl, x.hh.seq p1, fun r hr => ?_⟩
    exact h4 _ _ _ (Ext.own sat3.fh hr _) (own_l sat3.fh hr (cutL_dp (dpaUp p2 x.ff)))
  · cases hz
    obtain ⟨p, vs, rfl, p1, p2⟩ := dp_tup q
    have p3 := DpAll.len p2
    refine .inr (.inl ⟨p, vs, rfl, SqT_mono (x.ff.trans sat3.fh) p1, fun c => ?_, fun _ r hr => ?_⟩)
    · refine h4 _ _ _ (.refl sat3.fh) (own_d ?_)
      rename_i ds
      have e : cutL ds i' j' = ds := by
        unfold cutL
        rw [← p3, c.1, c.2, List.drop_zero, Nat.sub_zero, p3, List.take_length]
      rw [e]
      exact dpUp q x.ff
    · have y := Ext.frz sat3.fh hr (.tup (cutV vs i' j'))
      exact h4 _ _ _ y (own_d (.tup (SqT.of upd_same) (cutL_dp (dpaUp p2 (x.ff.trans y.ff)))))
  · split at hz
    · cases hz
      cases dp_str q
      exact .inr (.inr ⟨_, rfl, ‹_›, h4 _ _ _ (.refl sat3.fh) (own_d (.str _))⟩)
    · cases hz
  · cases hz

inductive PSqs (K : Kw) (F H : Hp) : List D → List V → Prop
  | nil : PSqs K F H [] []
  | cons {d : D} {ds : List D} {v : V} {vs : List V} : PSq K H d v F H → PSqs K F H ds vs → PSqs K F H (d :: ds) (v :: vs)
def PAl (K : Kw) (_ : Hp) (ds : List D) (vs : List V) (F' H' : Hp) : Prop := PSqs K F' H' ds vs
instance {K : Kw} : Anti (PAl K) := ⟨fun _ h => h⟩
def DAl (X : Cx) (W : WX) (es : List Expr) (f : Ev → R (List D)) : Prop := ∃ t, PA X es t ∧ Sm X W (PAl X.KK) t f
theorem dal_nil : DAl X W [] aNil := ⟨_, pa_nil, fun F H σ env fp Q sat h => h _ F H (.refl sat.fh) .nil⟩
theorem dal_cons {f : Ev → R D} {g : Ev → R (List D)} (hf : DL X W e f) (hg : DAl X W es g) (hs : starEach (e :: es) X.env = (false, eval e X.env) :: starEach es X.env := by rfl) : DAl X W (e :: es) (aCons f g) := by
  obtain ⟨t, p, s⟩ := hf
  obtain ⟨t', p', s'⟩ := hg
  refine ⟨_, pa_cons p p' hs, fun F H σ env fp Q sat h => ?_⟩
  refine s.go sat h fun d v F1 H1 sat1 q _ h1 => ?_
  refine s'.go sat1 h1 fun ds vs F2 H2 sat2 q' x2 h2 => ?_
  exact h2 _ F2 H2 (.refl sat2.fh) (.cons (q.ext x2) q')
def CaG (K : Kw) (r : List V → Hp → VK → Prop) (g : List D → Option Ow) : Prop := ∀ F H vs ds o Q, Same F H → PSqs K F H ds vs → g ds = some o → (∀ v F' H', Ext F H F' H' → POw K H o v F' H' → Q v H') → r vs H Q
def eCa (g : List D → Option Ow) (f : Ev → R (List D)) (env : Ev) : R Ow := (f env).bind fun ds => R.of (g ds)
theorem ca_sm {r : List V → Hp → VK → Prop} {g : List D → Option Ow} {t : TA} {f : Ev → R (List D)} (hs : CaG X.KK r g) (s : Sm X W (PAl X.KK) t f) : Sm X W (POw X.KK) (tCB r t) (eCa g f) := by
  intro F H σ env fp Q sat hp
  refine s.go sat hp fun ds vs F1 H1 sat1 q _ h1 => ?_
  obtain ⟨z, hz, h2⟩ := post_of h1
  exact hs F1 H1 vs ds z Q sat1.fh q hz h2
theorem de_callB {id : String} {r : List V → Hp → VK → Prop} {g : List D → Option Ow} {x : Str} {p : Pos} {f : Ev → R (List D)} (hc : CallR X (.builtin id) r) (hs : CaG X.KK r g) (hg : Gl X x) (hm : X.mg x = none) (hv : bootBuiltins x = some (.builtin id)) (ha : DAl X W (e :: es) f)
    (hn : x ≠ "__name__" := by decide) (hdb : (x == ("__debug__" : Str)) = false := by decide)
    (he : starEach (e :: es) X.env = (false, eval e X.env) :: starEach es X.env := by rfl) (hpl : (backTo pos (starEach es X.env)).any (·.1) = false := by rfl) : DE X W (.Call (.Name x p) (e :: es) [] pos) (eCa g f) := by
  obtain ⟨t, pa, s⟩ := ha
  exact ⟨_, pe_callB hc hg hm hv pa hn hdb he hpl, ca_sm hs s⟩
theorem de_callTy {T : String} {r : List V → Hp → VK → Prop} {g : List D → Option Ow} {x : Str} {p : Pos} {f : Ev → R (List D)} (hc : CallR X (.type T) r) (hs : CaG X.KK r g) (hg : Gl X x) (hm : X.mg x = none) (hv : bootBuiltins x = some (.type T)) (ha : DAl X W (e :: es) f)
    (hn : x ≠ "__name__" := by decide) (hdb : (x == ("__debug__" : Str)) = false := by decide)
    (he : starEach (e :: es) X.env = (false, eval e X.env) :: starEach es X.env := by rfl) (hpl : (backTo pos (starEach es X.env)).any (·.1) = false := by rfl) : DE X W (.Call (.Name x p) (e :: es) [] pos) (eCa g f) := by
  obtain ⟨t, pa, s⟩ := ha
  exact ⟨_, pe_callTy hc hg hm hv pa hn hdb he hpl, ca_sm hs s⟩
theorem psqs1 {K : Kw} {F H : Hp} {d : D} {vs : List V} (h : PSqs K F H [d] vs) : ∃ v, vs = [v] ∧ PSq K H d v F H := by
  cases h with | cons a b => cases b; exact ⟨_, rfl, a⟩
def gLen : List D → Option Ow
  | [.list ds] => some (.d (.int ds.length))
  | [.tuple ds] => some (.d (.int ds.length))
  | [.str z] => if z.length ≤ sizeLine then some (.d (.int z.length)) else none
  | _ => none
@[simp] theorem gLen_list (ds : List D) : gLen [.list ds] = some (.d (.int ds.length)) := rfl
@[simp] theorem gLen_tup (ds : List D) : gLen [.tuple ds] = some (.d (.int ds.length)) := rfl
theorem caG_len {K : Kw} : CaG K (fun xs H Q => ∃ x n, xs = [x] ∧ LenV K x H n ∧ Q (.int n) H) gLen := by
  intro F H vs ds o Q s h e q
  unfold gLen at e
  split at e
  · cases e
    obtain ⟨v, rfl, p, ws, rfl, p1, p2⟩ := psqs1 h
    exact ⟨_, _, rfl, .inl ⟨ws, p1, (DpAll.len p2).symm⟩, q _ _ _ (.refl s) (own_d (.int _))⟩
  · cases e
    obtain ⟨v, rfl, w⟩ := psqs1 h
    obtain ⟨p, ws, rfl, p1, p2⟩ := dp_tup w
    exact ⟨_, _, rfl, .inr ⟨ws, SqT_mono s p1, (DpAll.len p2).symm⟩, q _ _ _ (.refl s) (own_d (.int _))⟩
  · split at e
    · rename_i c
      cases e
      obtain ⟨v, rfl, w⟩ := psqs1 h
      cases dp_str w
      exact ⟨_, _, rfl, ⟨c, rfl⟩, q _ _ _ (.refl s) (own_d (.int _))⟩
    · cases e
  · cases e
def gMax2 : List D → Option Ow
  | [.int i, .int j] => some (.d (.int (if j > i then j else i)))
  | _ => none
def gMin2 : List D → Option Ow
  | [.int i, .int j] => some (.d (.int (if j < i then j else i)))
  | _ => none
@[simp] theorem gMax2_int (i j : Int) : gMax2 [.int i, .int j] = some (.d (.int (if j > i then j else i))) := rfl
@[simp] theorem gMin2_int (i j : Int) : gMin2 [.int i, .int j] = some (.d (.int (if j < i then j else i))) := rfl
def intsD : List D → Option (List Int)
  | [] => some []
  | .int i :: ds => (intsD ds).map fun is => i :: is
  | _ :: _ => none
@[simp] theorem intsD_map : ∀ ns : List Int, intsD (ns.map PyData.int) = some ns
  | [] => rfl
  | n :: ns => by simp [intsD, intsD_map ns]
def gList : List D → Option Ow
  | [.list ds] => some (.l (ds.map Ow.d))
  | [.tuple ds] => some (.l (ds.map Ow.d))
  | _ => none
@[simp] theorem gList_list (ds : List D) : gList [.list ds] = some (.l (ds.map Ow.d)) := rfl
@[simp] theorem gList_tup (ds : List D) : gList [.tuple ds] = some (.l (ds.map Ow.d)) := rfl
theorem caG_list {K : Kw} : CaG K (fun xs H Q => ∃ p ys, xs = [.ref p] ∧ (SqL K H p ys ∨ SqT K H p ys) ∧ ∀ l, H l = none → Q (.ref l) (upd H l (.lst ys))) gList := by
  intro F H vs ds o Q s h e q
  unfold gList at e
  split at e
  · cases e
    obtain ⟨v, rfl, p, ws, rfl, p1, p2⟩ := psqs1 h
    exact ⟨p, ws, rfl, .inl p1, fun l hl => q _ _ _ (Ext.own s hl _) (own_l s hl p2)⟩
  · cases e
    obtain ⟨v, rfl, w⟩ := psqs1 h
    obtain ⟨p, ws, rfl, p1, p2⟩ := dp_tup w
    exact ⟨p, ws, rfl, .inr (SqT_mono s p1), fun l hl => q _ _ _ (Ext.own s hl _) (own_l s hl p2)⟩
  · cases e
def gTuple : List D → Option Ow
  | [.list ds] => some (.d (.tuple ds))
  | [.tuple ds] => some (.d (.tuple ds))
  | _ => none
@[simp] theorem gTuple_list (ds : List D) : gTuple [.list ds] = some (.d (.tuple ds)) := rfl
@[simp] theorem gTuple_tup (ds : List D) : gTuple [.tuple ds] = some (.d (.tuple ds)) := rfl
theorem caG_tuple {K : Kw} : CaG K (fun xs H Q => ∃ p ys, xs = [.ref p] ∧ ((SqL K H p ys ∧ ∀ l, H l = none → Q (.ref l) (upd H l (.tup ys))) ∨ (SqT K H p ys ∧ Q (.ref p) H))) gTuple := by
  intro F H vs ds o Q s h e q
  unfold gTuple at e
  split at e
  · cases e
    obtain ⟨v, rfl, p, ws, rfl, p1, p2⟩ := psqs1 h
    refine ⟨p, ws, rfl, .inl ⟨p1, fun l hl => ?_⟩⟩
    have y := Ext.frz s hl (.tup ws)
    exact q _ _ _ y (own_d (.tup (SqT.of upd_same) (dpaUp p2 y.ff)))
  · cases e
    obtain ⟨v, rfl, w⟩ := psqs1 h
    obtain ⟨p, ws, rfl, p1, p2⟩ := dp_tup w
    exact ⟨p, ws, rfl, .inr ⟨SqT_mono s p1, q _ _ _ (.refl s) (own_d (.tup p1 p2))⟩⟩
  · cases e
def gInt : List D → Option Ow
  | [.int i] => some (.d (.int i))
  | [.bool b] => some (.d (.int (if b then 1 else 0)))
  | [.str z] => if z.length ≤ 640 then (PySem.intText? z).map fun n => .d (.int n) else none
  | _ => none
@[simp] theorem gInt_int (i : Int) : gInt [.int i] = some (.d (.int i)) := rfl
@[simp] theorem gInt_bool (b : Bool) : gInt [.bool b] = some (.d (.int (if b then 1 else 0))) := rfl
theorem caG_int {K : Kw} : CaG K (fun xs H Q => ((∃ i, xs = [.int i] ∧ Q (.int i) H) ∨ ∃ k, xs = [.bl k] ∧ Q (.int (if k then 1 else 0)) H) ∨ ∃ a n, xs = [.str a] ∧ PySem.intText? a = some n ∧ a.length ≤ 640 ∧ Q (.int n) H) gInt := by
  intro F H vs ds o Q s h e q
  unfold gInt at e
  split at e
  · cases e
    obtain ⟨v, rfl, w⟩ := psqs1 h
    cases dp_int w
    exact .inl (.inl ⟨_, rfl, q _ _ _ (.refl s) (own_d (.int _))⟩)
  · cases e
    obtain ⟨v, rfl, w⟩ := psqs1 h
    cases dp_bool w
    exact .inl (.inr ⟨_, rfl, q _ _ _ (.refl s) (own_d (.int _))⟩)
  · split at e
    · obtain ⟨n, e2, rfl⟩ := Option.map_eq_some_iff.mp e
      obtain ⟨v, rfl, w⟩ := psqs1 h
      cases dp_str w
      exact .inr ⟨_, n, rfl, e2, ‹_›, q _ _ _ (.refl s) (own_d (.int _))⟩
    · cases e
  · cases e
theorem de_len {x : Expr} {p : Pos} {f : Ev → R (List D)} (hg : Gl X "len") (hm : X.mg "len" = none) (ha : DAl X W [x] f) (hpl : starEach [x] X.env = (false, eval x X.env) :: starEach [] X.env := by rfl) : DE X W (.Call (.Name "len" p) [x] [] pos) (eCa gLen f) :=
  de_callB call_len caG_len hg hm PySem.boot_len ha (he := hpl)
theorem de_list {x : Expr} {p : Pos} {f : Ev → R (List D)} (hg : Gl X "list") (hm : X.mg "list" = none) (ha : DAl X W [x] f) (he : starEach [x] X.env = (false, eval x X.env) :: starEach [] X.env := by rfl) : DE X W (.Call (.Name "list" p) [x] [] pos) (eCa gList f) :=
  de_callTy call_list_of caG_list hg hm (by decide +kernel) ha (he := he)
theorem de_tuple {x : Expr} {p : Pos} {f : Ev → R (List D)} (hg : Gl X "tuple") (hm : X.mg "tuple" = none) (ha : DAl X W [x] f) (he : starEach [x] X.env = (false, eval x X.env) :: starEach [] X.env := by rfl) : DE X W (.Call (.Name "tuple" p) [x] [] pos) (eCa gTuple f) :=
  de_callTy call_tuple_of caG_tuple hg hm (by decide +kernel) ha (he := he)
theorem de_int {x : Expr} {p : Pos} {f : Ev → R (List D)} (hg : Gl X "int") (hm : X.mg "int" = none) (ha : DAl X W [x] f) (he : starEach [x] X.env = (false, eval x X.env) :: starEach [] X.env := by rfl) : DE X W (.Call (.Name "int" p) [x] [] pos) (eCa gInt f) :=
  de_callTy (CallR.or call_int1 call_int_str) caG_int hg hm (by decide +kernel) ha (he := he)
def dTy : D → String
  | .none => "NoneType"
  | .bool _ => "bool"
  | .int _ => "int"
  | .str _ => "str"
  | .list _ => "list"
  | .tuple _ => "tuple"
  | .dict _ => "dict"
theorem sqL_ty {K : Kw} {H : Hp} {a : Addr} {xs : List V} (h : SqL K H a xs) : TyX K H (.ref a) (.type "list") := by
  rcases h with (h | ⟨o, h⟩) | ⟨o, its, n, hk, hc, _⟩
  · exact .base (.lst h)
  · exact .base (.frz h)
  · exact .kList hk hc
theorem sqT_ty {K : Kw} {H : Hp} {a : Addr} {xs : List V} (h : SqT K H a xs) : TyX K H (.ref a) (.type "tuple") := by
  rcases h with (h | ⟨o, h⟩) | ⟨o, its, n, hk, hc, _⟩
  · exact .base (.tup h)
  · exact .fTuple h
  · exact .kTuple hk hc
def isDct : D → Bool
  | .dict _ => true
  | _ => false
theorem dp_ty {K : Kw} {H : Hp} {v : V} {d : D} (h : Dp K H v d) (nd : isDct d = false) : TyX K H v (.type (dTy d)) := by
  cases h with
  | non => exact .base .non
  | bl b => exact .base (.bl b)
  | int i => exact .base (.int i)
  | str i => exact .base (.str i)
  | lst a b => exact sqL_ty a
  | tup a b => exact sqT_ty a
  | _ => cases nd
def gIsi (T : String) (d : D) : R D := if isDct d = true then .no else match kitB (dTy d) T with
  | some b => .ok (.bool b)
  | none => .no
theorem df_isi {T : String} {y : Str} {p p2 : Pos} (ha : DV X W a f) (hg : Gl X "isinstance") (hm : X.mg "isinstance" = none) (gT : Gl X y) (mT : X.mg y = none) (bT : bootBuiltins y = some (.type T))
    (he : starEach [a, .Name y p2] X.env = (false, eval a X.env) :: starEach [.Name y p2] X.env := by rfl) (he2 : starEach [.Name y p2] X.env = (false, eval (.Name y p2) X.env) :: starEach [] X.env := by rfl) (hpl : (backTo pos (starEach [.Name y p2] X.env)).any (·.1) = false := by rfl)
    (hn : y ≠ "__name__" := by decide) (hd : (y == ("__debug__" : Str)) = false := by decide) : DF X W (.Call (.Name "isinstance" p) [a, .Name y p2] [] pos) (eB f (gIsi T)) := by
  obtain ⟨t, pa, s⟩ := ha
  refine ⟨_, pe_callB call_isi hg hm (by decide +kernel) (pa_cons pa (pa_cons (pe_bltn (v := .ty T) gT mT bT rfl hn hd) pa_nil he2) he) (he := he) (hpl := hpl), fun F H σ env fp Q sat hp => ?_⟩
  refine s.go sat hp fun d v F1 H1 sat1 q _ h1 => ?_
  unfold gIsi at h1
  cases nd : isDct d with
  | true => rw [nd] at h1; exact h1.elim
  | false =>
  rw [nd] at h1
  simp only [Bool.false_eq_true, if_false] at h1
  split at h1
  · rename_i b hb
    exact ⟨v, .ty T, _, _, b, rfl, .ty T, dp_ty q nd, hb, h1 _ F1 H1 (.refl sat1.fh) (.bl _)⟩
  · exact h1.elim
end
end Mir
end
set_option Elab.async false
set_option linter.all false
set_option maxRecDepth 100000
set_option maxHeartbeats 4000000
noncomputable section
namespace Mir
open PySem PySem.Spec L2

def ItP (t : Bool) (h : Heap) (it a : Addr) (i : Nat) : Prop := match t with
  | true => h.IsTupleIter it a i
  | false => h.IsListIter it a i
def CoP (t : Bool) (h : Heap) (a : Addr) (its : Array Value) : Prop := match t with
  | true => h.IsTuple a its
  | false => h.IsList a its
def Sqq (t : Bool) (K : PySem.W.Frag) (H : Hp) (a : Addr) (vs : List V) : Prop := match t with
  | true => SqT K H a vs
  | false => SqL K H a vs
theorem Sqq.mono {t : Bool} {K : PySem.W.Frag} {H H' : Hp} {a : Addr} {vs : List V} (s : Same H H') (h : Sqq t K H a vs) : Sqq t K H' a vs := by
  cases t with
  | true => exact SqT_mono s h
  | false => exact s.seq h
section
variable {X : Cx} {pins : List (Addr × Obj)} {σ : L2.St} {H : Hp} {s : Shared} {a : Addr} {xs ys : List V} {t : Bool}
theorem Sqq.at (I : Inv X pins σ H s) (h : Sqq t X.K H a xs) : ∃ its : List Value, Vals xs its ∧ CoP t s.heap a its.toArray := by
  cases t with
  | true =>
    obtain ⟨its, r, p, _⟩ := I.tuple h
    exact ⟨its, r, p⟩
  | false =>
    obtain ⟨its, r, p, _⟩ := I.list h
    exact ⟨its, r, p.isList⟩
theorem Sqq.inj (I : Inv X pins σ H s) (h : Sqq t X.K H a xs) (h' : Sqq t X.K H a ys) : xs = ys := by
  cases t with
  | true => exact I.tuple_inj h h'
  | false => exact I.list_inj h h'
end
theorem co_ne {t t' : Bool} {h : Heap} {a it b : Addr} {its : Array Value} {i : Nat} (c : CoP t h a its) (p : ItP t' h it b i) : a ≠ it := by
  rintro rfl
  have e1 : ∃ o, h.get? a = some o ∧ (o.cls = .type "tuple" ∨ o.cls = .type "list") := by
    cases t with
    | true => obtain ⟨o, e, c, _⟩ := c; exact ⟨o, e, .inl c⟩
    | false => obtain ⟨o, e, c, _⟩ := c; exact ⟨o, e, .inr c⟩
  have e2 : ∃ o, h.get? a = some o ∧ (o.cls = .type "tuple_iterator" ∨ o.cls = .type "list_iterator") := by
    cases t' with
    | true => obtain ⟨o, e, c, _⟩ := p; exact ⟨o, e, .inl c⟩
    | false => obtain ⟨o, e, c, _⟩ := p; exact ⟨o, e, .inr c⟩
  obtain ⟨o, g1, c1⟩ := e1
  obtain ⟨o', g2, c2⟩ := e2
  rw [g1] at g2
  cases g2
  rcases c1 with c1 | c1 <;> rcases c2 with c2 | c2 <;> · rw [c1] at c2; revert c2; decide +kernel
theorem co_cls {t : Bool} {h : Heap} {a : Addr} {its : Array Value} (c : CoP t h a its) : ∃ o, h.get? a = some o ∧ (o.cls = .type "tuple" ∨ o.cls = .type "list") := by
  cases t with
  | true => obtain ⟨o, e, c, _⟩ := c; exact ⟨o, e, .inl c⟩
  | false => obtain ⟨o, e, c, _⟩ := c; exact ⟨o, e, .inr c⟩
theorem it_obj {t : Bool} {h : Heap} {it a : Addr} {i : Nat} (p : ItP t h it a i) : ∃ o, h.get? it = some o ∧ ∀ v, o.data ≠ .cell v := by
  cases t with
  | true => obtain ⟨o, e, _, d⟩ := p; exact ⟨o, e, fun v z => by rw [d] at z; cases z⟩
  | false => obtain ⟨o, e, _, d⟩ := p; exact ⟨o, e, fun v z => by rw [d] at z; cases z⟩
theorem ItP.at {t : Bool} {h h' : Heap} {it a : Addr} {i : Nat} (p : ItP t h it a i) (k : ∀ o, h.get? it = some o → h'.get? it = some o) : ItP t h' it a i := by
  cases t with
  | true => obtain ⟨o, e, q⟩ := p; exact ⟨o, k o e, q⟩
  | false => obtain ⟨o, e, q⟩ := p; exact ⟨o, k o e, q⟩
theorem drawsP {P : Program} {w : World} {A : Around} (hh : A.handled = none) (t : Bool) {it a : Addr} (hne : a ≠ it) (its : Array Value) :
    Draws P w A it [it, a] its.size (fun i v => its[i]? = some v) (fun i h => ItP t h it a i ∧ CoP t h a its) := by
  cases t with
  | true => exact Draws.tuple hh it a hne its
  | false => exact Draws.list hh it a hne its
def objP (t : Bool) (a : Addr) : Obj := match t with
  | true => { cls := .type "tuple_iterator", data := .fields #[.ref a, .int 0 0] }
  | false => { cls := .type "list_iterator", data := .fields #[.ref a, .int 0 0] }
theorem beginsP (t : Bool) (a : Addr) (its : Array Value) : Begins (.ref a) (objP t a) (fun h => CoP t h a its) := by
  cases t with
  | true => exact begins_tuple a its
  | false => exact begins_list a its
theorem itP_new {t : Bool} {h : Heap} {it a : Addr} (e : h.get? it = some (objP t a)) : ItP t h it a 0 := by
  cases t with
  | true => exact ⟨_, e, rfl, rfl⟩
  | false => exact ⟨_, e, rfl, rfl⟩

def Jen (t : Bool) (K : PySem.W.Frag) (a : Addr) : It :=
  ⟨fun i H => ∃ xs x, Sqq t K H a xs ∧ xs[i]? = some x, fun i H v H' => ∃ T x, v = .ref T ∧ H T = none ∧ H' = upd H T (.tup [.int (i : Nat), x]) ∧ ∀ xs, Sqq t K H a xs → xs[i]? = some x,
    fun i H => ∃ xs, Sqq t K H a xs ∧ xs.length = i⟩
theorem turn_en {P : Program} {w : World} {K : PySem.W.Frag} {elts : List Expr} {kk : Nat} {tpos : Pos} (t : Bool) (a e it : Addr) (hei : e ≠ it) :
    Turn P w K (.Tuple elts kk tpos) (Jen t K a) [e, it] e (fun i h => (∃ old, IsEnum h e it (0 + (i : Int)) old) ∧ ItP t h it a i) where
  mem := by simp
  obj := fun i h st b hb => by
    obtain ⟨⟨old, he⟩, hi⟩ := st
    rcases List.mem_cons.mp hb with z | z
    · rw [z]; exact ⟨_, he, fun v q => nomatch q⟩
    · rw [List.mem_singleton.mp z]; exact it_obj hi
  keep := fun i h h' st k => let ⟨⟨old, he⟩, hi⟩ := st; ⟨⟨old, k e (by simp) _ he⟩, hi.at fun o q => k it (by simp) o q⟩
  item := by
    intro X hP hw hK hc i pins s σ H E I hf st hg
    subst hP hw hK
    obtain ⟨hen, hit⟩ := st
    obtain ⟨xs, x, hq, hx⟩ := hg
    obtain ⟨its, rv, hco⟩ := hq.at I
    obtain ⟨u, hu, ru⟩ := rv.get hx
    have hne := co_ne hco hit
    have hea : e ≠ a := by
      rintro rfl
      obtain ⟨old, he⟩ := hen
      obtain ⟨o, g, c⟩ := co_cls hco
      have g' : s.heap.get? e = some _ := he
      rw [g] at g'
      cases g'
      rcases c with c | c
      · exact absurd (show Value.type "enumerate" = .type "tuple" from c) (by decide +kernel)
      · exact absurd (show Value.type "enumerate" = .type "list" from c) (by decide +kernel)
    have hlt : i < its.toArray.size := by rw [List.size_toArray]; exact (List.getElem?_eq_some_iff.mp hu).1
    refine (GoesN.enumFrom (prog := X.prog) (w := X.w) (elts := elts) (x1 := kk) (pos := tpos) 0 (drawsP (A := X.A.in1) (I.ok.hd hc) t hne its.toArray) e hei (by simp [hei, hea]) (by simp)).goes i s _ _ hlt ⟨hen, hit, hco⟩ fun v h' tk ⟨T, tk', y, ev, hT, hy, hTup⟩ st' hk _ => ?_
    subst ev
    have hyu : y = u := by
      have hy' : its[i]? = some y := by simpa using hy
      rw [hu] at hy'
      exact (Option.some.inj hy').symm
    subst hyu
    have new : ObjOk X.prog X.w (upd H T (.tup [.int (i : Nat), x])) h' T (.tup [.int (i : Nat), x]) :=
      ⟨by show 2 ≤ sizeLine; decide, [.int (0 + (i : Int)) tk', y], .cons ⟨tk', by rw [Int.zero_add]⟩ (.cons ru .nil), hTup⟩
    have hb' : ∀ b ∈ [e, it], b < s.heap.objs.size := fun b hb => by
      obtain ⟨o, g, _⟩ := (show ∃ o, s.heap.get? b = some o ∧ True from by
        rcases List.mem_cons.mp hb with z | z
        · rw [z]; obtain ⟨old, he⟩ := hen; exact ⟨_, he, trivial⟩
        · rw [List.mem_singleton.mp z]; obtain ⟨o, g, _⟩ := it_obj hit; exact ⟨o, g, trivial⟩)
      exact Heap.lt_size g
    refine ⟨.ref T, _, I.turnedNew (ch := [e, it]) hk hf hT new, rfl, ⟨T, x, rfl, I.hok.fresh hT, rfl, fun ys hys => by rw [hys.inj I hq]; exact hx⟩, ⟨st'.1, st'.2.1⟩, fun b hb => ?_⟩
    rw [upd_ne (Nat.ne_of_lt (Nat.lt_of_lt_of_le (hb' b hb) hT))]
    exact (hf b hb).1
  done := by
    intro X hP hw hK hc i pins s σ H E I hf st hg
    subst hP hw hK
    obtain ⟨hen, hit⟩ := st
    obtain ⟨xs, hq, hl⟩ := hg
    obtain ⟨its, rv, hco⟩ := hq.at I
    have hne := co_ne hco hit
    have hea : e ≠ a := by
      rintro rfl
      obtain ⟨old, he⟩ := hen
      obtain ⟨o, g, c⟩ := co_cls hco
      have g' : s.heap.get? e = some _ := he
      rw [g] at g'
      cases g'
      rcases c with c | c
      · exact absurd (show Value.type "enumerate" = .type "tuple" from c) (by decide +kernel)
      · exact absurd (show Value.type "enumerate" = .type "list" from c) (by decide +kernel)
    have hs : i = its.toArray.size := by rw [List.size_toArray, ← rv.length]; exact hl.symm
    subst hs
    exact (GoesN.enumFrom (prog := X.prog) (w := X.w) (elts := elts) (x1 := kk) (pos := tpos) 0 (drawsP (A := X.A.in1) (I.ok.hd hc) t hne its.toArray) e hei (by simp [hei, hea]) (by simp)).stops s _ _ ⟨hen, hit, hco⟩ fun h' tk hk _ => I.turnedL (ch := [e, it]) hk hf
  self := fun A i s Q E st h => let ⟨⟨_, he⟩, _⟩ := st; wpAny_pyIter_enum he h
theorem meets_en {v : Value} {o : Obj} {H : Heap → Prop} (B : Begins v o H) : Meets (Builtin.«enumerate.__new__» ⟨[.type "enumerate", v], []⟩) (fun _ R s => H s.heap ∧
      R (.ok (.ret (.ref (s.heap.push o).objs.size))) { s with heap := (s.heap.push o).push { cls := .type "enumerate", data := .fields #[.none, .bool false, .ref s.heap.objs.size, rawInt 0, .none, .none] } }) :=
  .of_wp fun prog w A R s h => by
    obtain ⟨hp, g, d, tk, os⟩ := s; obtain ⟨h1, h⟩ := h; have hsub := sub_enumerate
    have q1 : ∀ {A' : Around} {E Q : Value → Shared → Prop}, Q (.ref hp.objs.size) ⟨hp.push o, g, d, tk, os⟩ → wpAny (model prog w) A' (pyIter v) Q E ⟨hp, g, d, tk, os⟩ := fun q => B.iter prog w _ _ ⟨hp, g, d, tk, os⟩ _ h1 q
    wp_walk using q1
    refine wpAny_stack_any (fun st => wpAny_pure ?_); split
    · rename_i c _ _ _ _ _; cases (c == Value.type "enumerate") <;> (wp_walk using q1; exact ⟨_, rfl, h⟩)
    · wp_walk using q1; exact ⟨_, rfl, h⟩
theorem call_en {prog : Program} {w : World} {A : Around} {E : Value → Shared → Prop} {s : Shared} {v : Value} {o : Obj} {H : Heap → Prop} {Q : Value → Shared → Prop} (B : Begins v o H) (h1 : H s.heap)
    (h : ∀ h', IsEnum h' (s.heap.objs.size + 1) s.heap.objs.size 0 .none → h'.get? s.heap.objs.size = some o → (∀ b o, s.heap.get? b = some o → h'.get? b = some o) → Q (.ref (s.heap.objs.size + 1)) { s with heap := h' }) :
    wpAny (model prog w) A (call (.type "enumerate") [v]) Q E s := by
  refine callType_new F.called_enumerate (by decide) (F.typeCall_enumerate_1 _) (F.newCall_enumerate_1 _) (fun obj => F.args_object_init_2 obj _) F.entry_enumerate_new (meets_en B) ⟨h1, ?_⟩
  have hz : (s.heap.push o).objs.size = s.heap.objs.size + 1 := Heap.size_push ..
  show _ ∧ _; rw [hz]
  have g1 : (s.heap.push o).get? s.heap.objs.size = some o := Heap.get?_push_size _ B.free
  have he : IsEnum ((s.heap.push o).push { cls := .type "enumerate", data := .fields #[.none, .bool false, .ref s.heap.objs.size, rawInt 0, .none, .none] }) (s.heap.objs.size + 1) s.heap.objs.size 0 .none := by
    have := Heap.get?_push_size (s.heap.push o) (o := { cls := .type "enumerate", data := .fields #[.none, .bool false, .ref s.heap.objs.size, rawInt 0, .none, .none] }) rfl
    rw [hz] at this; exact this
  exact ⟨⟨_, he, rfl⟩, h _ he (Heap.get?_push_of_some _ g1) fun b o x => Heap.get?_push_of_some _ (Heap.get?_push_of_some _ x)⟩
def iEn (K : PySem.W.Frag) (ta : TA) : TI := fun σ H R => ta σ H fun vs H1 => ∃ t a xs, vs = [.ref a] ∧ Sqq t K H1 a xs ∧ R (Jen t K a) H1
theorem pi_en {X : Cx} {e : Expr} {ta : TA} {p pos tpos : Pos} {elts : List Expr} {kk : Nat} (hg : Gl X "enumerate") (hm : X.mg "enumerate" = none) (ha : PA X [e] ta) (hs : starEach [e] X.env = [(false, eval e X.env)] := by rfl) :
    PI X (.Tuple elts kk tpos) (.Call (.Name "enumerate" p) [e] [] pos) (iEn X.K ta) := by
  refine ⟨fun pins s σ H R I h => ?_⟩
  refine PyProof.Rows.Call_ (ld_blt I hg hm PyProof.Rows.boot_enumerate (PyProof.Rows.callWith_type1 (thn (ha.run pos pins s σ H _ I h) fun us s1 ⟨vs, H1, I1, r1, t, a, xs, ex, hq, q⟩ => ?_) hs rfl))
  subst ex
  cases r1 with
  | cons r rr =>
    cases rr
    cases r
    obtain ⟨its, rv, hco⟩ := hq.at I1
    refine call_en (beginsP t a its.toArray) hco fun h' he hit hk => wpAny_pyIter_enum he ?_
    have I2 : Inv X pins σ H1 { s1 with heap := h' } := I1.kept (t' := s1.toks) hk
    refine ⟨s1.heap.objs.size + 1, [s1.heap.objs.size + 1, s1.heap.objs.size], _, _, H1, rfl, I2, turn_en t a _ _ (Nat.succ_ne_self _), ⟨⟨.none, he⟩, itP_new hit⟩, fun b hb => ?_, q⟩
    have hle : s1.heap.objs.size ≤ b := by
      rcases List.mem_cons.mp hb with z | z
      · rw [z]; exact Nat.le_add_right _ _
      · rw [List.mem_singleton.mp z]; exact Nat.le_refl _
    exact I1.fpOk hle (I1.hok.fresh hle)
end Mir
end
set_option Elab.async false
set_option linter.all false
set_option maxRecDepth 100000
set_option maxHeartbeats 4000000
noncomputable section
namespace Mir
open PySem PySem.Spec L2

theorem fp_ne {X : Cx} {pins : List (Addr × Obj)} {σ : L2.St} {H : Hp} {s : Shared} {t : Bool} {a b : Addr} {xs : List V} (I : Inv X pins σ H s) (hf : FpOk X pins H b) (hq : Sqq t X.K H a xs) : a ≠ b := by
  rintro rfl
  have kk : ∀ o, X.K.lookup a = some o → False := fun o e => by
    have e1 := I.mod.kin a o e
    obtain ⟨_, _, _, q, _, _⟩ := hf
    rcases q with q | q
    · exact I.ok.noex a o e1 q
    · exact absurd (Nat.lt_of_lt_of_le (Heap.lt_size e1) (Nat.le_trans I.ok.bsz q)) (Nat.lt_irrefl _)
  cases t with
  | true =>
    rcases hq with (h | ⟨o, h⟩) | ⟨o, its, n, h, _⟩
    · rw [hf.1] at h; cases h
    · rw [hf.1] at h; cases h
    · exact kk o h
  | false =>
    rcases hq with (h | ⟨o, h⟩) | ⟨o, its, n, h, _⟩
    · rw [hf.1] at h; cases h
    · rw [hf.1] at h; cases h
    · exact kk o h

def Jzp (t u : Bool) (K : PySem.W.Frag) (a b : Addr) : It :=
  ⟨fun i H => ∃ xs ys x y, Sqq t K H a xs ∧ Sqq u K H b ys ∧ xs[i]? = some x ∧ ys[i]? = some y,
    fun i H v H' => ∃ T x y, v = .ref T ∧ H T = none ∧ H' = upd H T (.tup [x, y]) ∧ (∀ xs, Sqq t K H a xs → xs[i]? = some x) ∧ ∀ ys, Sqq u K H b ys → ys[i]? = some y,
    fun i H => ∃ xs ys, Sqq t K H a xs ∧ Sqq u K H b ys ∧ min xs.length ys.length = i⟩
theorem turn_zp {P : Program} {w : World} {K : PySem.W.Frag} {elts : List Expr} {kk : Nat} {tpos : Pos} (t u : Bool) (a b z TI TO i1 i2 : Addr) (nd : [z, TI, TO, i1, i2].Nodup) :
    Turn P w K (.Tuple elts kk tpos) (Jzp t u K a b) [z, TI, TO, i1, i2] z (fun i h => IsZip h z TI TO .none ∧ IsTupOf2 h TI (.ref i1) (.ref i2) ∧ (∃ a1 a2, IsTupOf2 h TO a1 a2) ∧ ItP t h i1 a i ∧ ItP u h i2 b i) := by
  have sep : a ∉ [z, TI, TO, i1, i2] → b ∉ [z, TI, TO, i1, i2] → ZipSep2 z TI TO i1 i2 [i1, a] [i2, b] := fun ha hb => by
    simp only [List.nodup_cons, List.mem_cons, List.not_mem_nil, or_false, not_or, List.nodup_nil, and_true, not_false_eq_true] at nd ha hb
    obtain ⟨⟨n1, n2, n3, n4⟩, ⟨n5, n6, n7⟩, ⟨n8, n9⟩, n10⟩ := nd
    obtain ⟨a1, a2, a3, a4, a5⟩ := ha
    obtain ⟨b1, b2, b3, b4, b5⟩ := hb
    refine ⟨Ne.symm n1, Ne.symm n2, n5, n6, by simp, ?_, ?_, n7, by simp, ?_, ?_, ?_, ?_⟩ <;> simp only [List.mem_cons, List.not_mem_nil, or_false, not_or]
    · exact ⟨n3, Ne.symm a1⟩
    · exact ⟨n8, Ne.symm a3⟩
    · exact ⟨n4, Ne.symm b1⟩
    · exact ⟨n9, Ne.symm b3⟩
    · exact ⟨n10, Ne.symm b4⟩
    · exact ⟨Ne.symm n10, Ne.symm a5⟩
  have live : ∀ {i : Nat} {h : Heap}, (IsZip h z TI TO .none ∧ IsTupOf2 h TI (.ref i1) (.ref i2) ∧ (∃ a1 a2, IsTupOf2 h TO a1 a2) ∧ ItP t h i1 a i ∧ ItP u h i2 b i) → ∀ c ∈ [z, TI, TO, i1, i2], ∃ o, h.get? c = some o ∧ ∀ v, o.data ≠ .cell v := fun st c hc => by
    obtain ⟨h1, h2, ⟨x1, x2, h3⟩, h4, h5⟩ := st
    simp only [List.mem_cons, List.not_mem_nil, or_false] at hc
    rcases hc with rfl | rfl | rfl | rfl | rfl
    · exact ⟨_, h1, fun v q => nomatch q⟩
    · exact ⟨_, h2, fun v q => nomatch q⟩
    · exact ⟨_, h3, fun v q => nomatch q⟩
    · exact it_obj h4
    · exact it_obj h5
  have wrs : ∀ c ∈ [z, TO, i1, i2], c ∈ [z, TI, TO, i1, i2] := fun c hc => by
    simp only [List.mem_cons, List.not_mem_nil, or_false] at hc ⊢
    rcases hc with rfl | rfl | rfl | rfl <;> simp
  refine ⟨by simp, fun i h st => live st, fun i h h' st k => ?_, ?_, ?_, fun A i s Q E st h => wpAny_pyIter_zip st.1 h⟩
  · obtain ⟨h1, h2, ⟨x1, x2, h3⟩, h4, h5⟩ := st
    exact ⟨k z (by simp) _ h1, k TI (by simp) _ h2, ⟨x1, x2, k TO (by simp) _ h3⟩, h4.at fun o q => k i1 (by simp) o q, h5.at fun o q => k i2 (by simp) o q⟩
  · intro X hP hw hK hc i pins s σ H E I hf st hg
    subst hP hw hK
    have hst := live st
    obtain ⟨h1, h2, h3, h4, h5⟩ := st
    obtain ⟨xs, ys, x, y, hq, hr, hx, hy⟩ := hg
    obtain ⟨its, rv, hco⟩ := hq.at I
    obtain ⟨jts, rw', hco'⟩ := hr.at I
    obtain ⟨u1, hu, ru⟩ := rv.get hx
    obtain ⟨u2, hu', ru'⟩ := rw'.get hy
    have S := sep (fun z => fp_ne I (hf a z) hq rfl) (fun z => fp_ne I (hf b z) hr rfl)
    have n1 : i < its.toArray.size := by rw [List.size_toArray]; exact (List.getElem?_eq_some_iff.mp hu).1
    have n2 : i < jts.toArray.size := by rw [List.size_toArray]; exact (List.getElem?_eq_some_iff.mp hu').1
    refine (GoesN.zip2 (prog := X.prog) (w := X.w) (elts := elts) (x1 := kk) (pos := tpos) S (drawsP (A := X.A.in1) (I.ok.hd hc) t (fp_ne I (hf i1 (by simp)) hq) its.toArray) (drawsP (A := X.A.in1) (I.ok.hd hc) u (fp_ne I (hf i2 (by simp)) hr) jts.toArray)).goes i s _ _ (by omega) ⟨h1, h2, h3, ⟨h4, hco⟩, h5, hco'⟩
      fun v h' tk ⟨T, p, q, ev, hT, hp, hq', hTup⟩ st' hk _ => ?_
    subst ev
    have e1 : p = u1 := by
      have hp' : its[i]? = some p := by simpa using hp
      rw [hu] at hp'
      exact (Option.some.inj hp').symm
    have e2 : q = u2 := by
      have hp' : jts[i]? = some q := by simpa using hq'
      rw [hu'] at hp'
      exact (Option.some.inj hp').symm
    subst e1 e2
    have new : ObjOk X.prog X.w (upd H T (.tup [x, y])) h' T (.tup [x, y]) := ⟨by show 2 ≤ sizeLine; decide, [p, q], .cons ru (.cons ru' .nil), hTup⟩
    refine ⟨.ref T, _, I.turnedNew (ch := [z, TI, TO, i1, i2]) (fun b o hb e => hk b o (fun m => hb (wrs b m)) e) hf hT new, rfl, ⟨T, x, y, rfl, I.hok.fresh hT, rfl, fun zs hz => by rw [hz.inj I hq]; exact hx, fun zs hz => by rw [hz.inj I hr]; exact hy⟩,
      ⟨st'.1, st'.2.1, st'.2.2.1, st'.2.2.2.1.1, st'.2.2.2.2.1⟩, fun c hc => ?_⟩
    obtain ⟨o, g, _⟩ := hst c hc
    rw [upd_ne (Nat.ne_of_lt (Nat.lt_of_lt_of_le (Heap.lt_size g) hT))]
    exact (hf c hc).1
  · intro X hP hw hK hc i pins s σ H E I hf st hg
    subst hP hw hK
    obtain ⟨h1, h2, h3, h4, h5⟩ := st
    obtain ⟨xs, ys, hq, hr, hl⟩ := hg
    obtain ⟨its, rv, hco⟩ := hq.at I
    obtain ⟨jts, rw', hco'⟩ := hr.at I
    have S := sep (fun z => fp_ne I (hf a z) hq rfl) (fun z => fp_ne I (hf b z) hr rfl)
    have hs : i = min its.toArray.size jts.toArray.size := by rw [List.size_toArray, List.size_toArray, ← rv.length, ← rw'.length]; exact hl.symm
    subst hs
    exact (GoesN.zip2 (prog := X.prog) (w := X.w) (elts := elts) (x1 := kk) (pos := tpos) S (drawsP (A := X.A.in1) (I.ok.hd hc) t (fp_ne I (hf i1 (by simp)) hq) its.toArray) (drawsP (A := X.A.in1) (I.ok.hd hc) u (fp_ne I (hf i2 (by simp)) hr) jts.toArray)).stops s _ _ ⟨h1, h2, h3, ⟨h4, hco⟩, h5, hco'⟩
      fun h' tk hk _ => I.turnedL (ch := [z, TI, TO, i1, i2]) (fun b o hb e => hk b o (fun m => hb (wrs b m)) e) hf
def iZp (K : PySem.W.Frag) (ta : TA) : TI := fun σ H R => ta σ H fun vs H1 => ∃ t u a b xs ys, vs = [.ref a, .ref b] ∧ Sqq t K H1 a xs ∧ Sqq u K H1 b ys ∧ R (Jzp t u K a b) H1
theorem pi_zp {X : Cx} {e e2 : Expr} {ta : TA} {p pos tpos : Pos} {elts : List Expr} {kk : Nat} (hg : Gl X "zip") (hm : X.mg "zip" = none) (ha : PA X [e, e2] ta) (hs : starEach [e, e2] X.env = (false, eval e X.env) :: starEach [e2] X.env := by rfl)
    (hpl : (backTo pos (starEach [e2] X.env)).any (·.1) = false := by rfl) : PI X (.Tuple elts kk tpos) (.Call (.Name "zip" p) [e, e2] [] pos) (iZp X.K ta) := by
  refine ⟨fun pins s σ H R I h => ?_⟩
  refine PyProof.Rows.Call_ (ld_blt I hg hm PyProof.Rows.boot_zip (PyProof.Rows.callWith_type1 (thn (ha.run pos pins s σ H _ I h) fun us s1 ⟨vs, H1, I1, r1, t, u, a, b, xs, ys, ex, hq, hr, q⟩ => ?_) hs hpl))
  subst ex
  cases r1 with
  | cons r rr =>
    cases rr with
    | cons r' rr =>
      cases rr
      cases r
      cases r'
      obtain ⟨its, rv, hco⟩ := hq.at I1
      obtain ⟨jts, rw', hco'⟩ := hr.at I1
      refine zip_begins2 (beginsP t a its.toArray) (beginsP u b jts.toArray) hco hco' fun h' hz hTI hTO g1 g2 _ hk => wpAny_pyIter_zip hz ?_
      have I2 : Inv X pins σ H1 { s1 with heap := h' } := I1.kept (t' := s1.toks) hk
      have le5 : ∀ c ∈ [s1.heap.objs.size + 4, s1.heap.objs.size + 2, s1.heap.objs.size + 3, s1.heap.objs.size, s1.heap.objs.size + 1], s1.heap.objs.size ≤ c := fun c hc => by
        simp only [List.mem_cons, List.not_mem_nil, or_false] at hc
        rcases hc with z | z | z | z | z <;> (rw [z]; first | exact Nat.le_refl _ | exact Nat.le_add_right _ _)
      have nd5 : ∀ n : Nat, [n + 4, n + 2, n + 3, n, n + 1].Nodup := fun n => by
        simp only [List.nodup_cons, List.mem_cons, List.not_mem_nil, or_false, not_or, List.nodup_nil, and_true, not_false_eq_true]
        omega
      exact ⟨_, _, _, _, H1, rfl, I2, turn_zp t u a b _ _ _ _ _ (nd5 s1.heap.objs.size), ⟨hz, hTI, ⟨_, _, hTO⟩, itP_new g1, itP_new g2⟩, fun c hc => I1.fpOk (le5 c hc) (I1.hok.fresh (le5 c hc)), q⟩
end Mir
end
set_option Elab.async false
set_option linter.all false
set_option maxRecDepth 100000
set_option maxHeartbeats 4000000
noncomputable section
namespace Mir
open PySem PySem.Spec L2

structure WalkF (K : Kw) (J : It) (F0 : Hp) (items : List D) : Prop where
  go : ∀ i F H, i < items.length → Same F0 F → Same F H → J.go i H
  yld : ∀ i F H x H', i < items.length → Same F0 F → Same F H → J.yld i H x H' → ∃ d F', items[i]? = some d ∧ Ext F H F' H' ∧ Dp K F' x d
  stop : ∀ F H, Same F0 F → Same F H → J.stop items.length H
def PIt (K : Kw) (_ : Hp) (items : List D) (J : It) (F' _ : Hp) : Prop := WalkF K J F' items
instance {K : Kw} : Anti (PIt K) := ⟨fun _ h => h⟩
def DI (X : Cx) (W : WX) (tg e : Expr) (f : Ev → R (List D)) : Prop := ∃ wi, PI X tg e wi ∧ Sm X W (PIt X.KK) wi f
section
variable {K : Kw} {F0 : Hp} {a b : Addr} {vs ws : List V} {ds es : List D}
theorem walkF_l (h1 : SqL K F0 a vs) (h2 : DpAll K F0 vs ds) : WalkF K (Itl K a) F0 ds where
  go := fun i F H hi s1 s2 => by
    rw [← DpAll.len h2] at hi
    exact ⟨vs, vs[i], (s1.trans s2).seq h1, by simp [hi]⟩
  yld := fun i F H x H' hi s1 s2 ⟨e, q⟩ => by
    subst e
    obtain ⟨d, e1, e2⟩ := DpAll.getV h2 (q vs ((s1.trans s2).seq h1))
    exact ⟨d, F, e1, .refl s2, dpUp e2 s1⟩
  stop := fun F H s1 s2 => ⟨vs, (s1.trans s2).seq h1, by rw [DpAll.len h2]; exact Nat.le_refl _⟩
theorem walkF_t (h1 : SqT K F0 a vs) (h2 : DpAll K F0 vs ds) : WalkF K (Itt K a) F0 ds where
  go := fun i F H hi s1 s2 => by
    rw [← DpAll.len h2] at hi
    exact ⟨vs, vs[i], SqT_mono (s1.trans s2) h1, by simp [hi]⟩
  yld := fun i F H x H' hi s1 s2 ⟨e, q⟩ => by
    subst e
    obtain ⟨d, e1, e2⟩ := DpAll.getV h2 (q vs (SqT_mono (s1.trans s2) h1))
    exact ⟨d, F, e1, .refl s2, dpUp e2 s1⟩
  stop := fun F H s1 s2 => ⟨vs, SqT_mono (s1.trans s2) h1, by rw [DpAll.len h2]; exact Nat.le_refl _⟩
def charsD (z : Str) : List D := z.cps.toList.map fun c => .str ⟨#[c]⟩
theorem walkF_s (z : Str) : WalkF K (Its z) F0 (charsD z) where
  go := fun i F H hi s1 s2 => walk_str.goes i H (by simpa [charsD] using hi) trivial
  yld := fun i F H x H' hi s1 s2 h => by
    have hi' : i < z.cps.size := by simpa [charsD] using hi
    obtain ⟨e, c, e1, e2⟩ := walk_str.yields i H x H' hi' trivial h
    subst e e2
    exact ⟨_, F, by simp [charsD, e1], .refl s2, .str _⟩
  stop := fun F H s1 s2 => by
    have := (walk_str (z := z)).stops H trivial
    simpa [charsD] using this
def rangeD (lo : Int) (n : Nat) : List D := (List.range n).map fun i => .int (lo + (i : Nat))
theorem walkF_r (lo : Int) (n : Nat) : WalkF K (Itr lo n) F0 (rangeD lo n) where
  go := fun i F H hi s1 s2 => walk_range.goes i H (by simpa [rangeD] using hi) trivial
  yld := fun i F H x H' hi s1 s2 h => by
    have hi' : i < n := by simpa [rangeD] using hi
    obtain ⟨e, e1⟩ := walk_range.yields i H x H' hi' trivial h
    subst e e1
    exact ⟨_, F, by simp [rangeD, hi'], .refl s2, .int _⟩
  stop := fun F H s1 s2 => by
    have := (walk_range (lo := lo) (n := n)).stops H trivial
    simpa [rangeD] using this
def enumD : Nat → List D → List D
  | _, [] => []
  | n, d :: ds => .tuple [.int n, d] :: enumD (n + 1) ds
theorem enumD_len : ∀ (n : Nat) (ds : List D), (enumD n ds).length = ds.length
  | _, [] => rfl
  | n, d :: ds => by simp [enumD, enumD_len (n + 1) ds]
theorem enumD_get : ∀ (n i : Nat) (ds : List D) (d : D), ds[i]? = some d → (enumD n ds)[i]? = some (.tuple [.int (n + i : Nat), d])
  | n, i, [], d, h => by simp at h
  | n, 0, x :: ds, d, h => by simp at h; subst h; simp [enumD]
  | n, i + 1, x :: ds, d, h => by
    have := enumD_get (n + 1) i ds d (by simpa using h)
    simp only [enumD, List.getElem?_cons_succ, this]
    congr 3; congr 2; omega
def zipD : List D → List D → List D
  | x :: xs, y :: ys => .tuple [x, y] :: zipD xs ys
  | _, _ => []
@[simp] theorem zipD_nil (ys : List D) : zipD [] ys = [] := by cases ys <;> rfl
@[simp] theorem zipD_nil2 (ys : List D) : zipD ys [] = [] := by cases ys <;> rfl
@[simp] theorem zipD_cons (x y : D) (xs ys : List D) : zipD (x :: xs) (y :: ys) = .tuple [x, y] :: zipD xs ys := rfl
theorem zipD_len : ∀ (xs ys : List D), (zipD xs ys).length = min xs.length ys.length
  | [], ys => by simp
  | x :: xs, [] => by simp
  | x :: xs, y :: ys => by simp [zipD_len xs ys]
theorem zipD_get : ∀ (i : Nat) (xs ys : List D) (x y : D), xs[i]? = some x → ys[i]? = some y → (zipD xs ys)[i]? = some (.tuple [x, y])
  | i, [], ys, x, y, h, g => by simp at h
  | i, x :: xs, [], _, y, h, g => by simp at g
  | 0, a :: xs, b :: ys, x, y, h, g => by simp at h g; subst h g; rfl
  | i + 1, a :: xs, b :: ys, x, y, h, g => by
    have := zipD_get i xs ys x y (by simpa using h) (by simpa using g)
    simpa using this
theorem walkF_en {t : Bool} (h1 : Sqq t K F0 a vs) (h2 : DpAll K F0 vs ds) : WalkF K (Jen t K a) F0 (enumD 0 ds) where
  go := fun i F H hi s1 s2 => by
    rw [enumD_len, ← DpAll.len h2] at hi
    exact ⟨vs, vs[i], h1.mono (s1.trans s2), by simp [hi]⟩
  yld := fun i F H x H' hi s1 s2 ⟨T, y, e, hT, eH, q⟩ => by
    subst e eH
    obtain ⟨d, e1, e2⟩ := DpAll.getV h2 (q vs (h1.mono (s1.trans s2)))
    have x := Ext.frz s2 hT (.tup [.int (i : Nat), y])
    refine ⟨_, _, enumD_get 0 i ds d e1, x, ?_⟩
    rw [Nat.zero_add]
    exact .tup (SqT.of upd_same) (.cons (.int _) (.cons (dpUp e2 (s1.trans x.ff)) .nil))
  stop := fun F H s1 s2 => ⟨vs, h1.mono (s1.trans s2), by rw [enumD_len, DpAll.len h2]⟩
theorem walkF_zp {t u : Bool} (h1 : Sqq t K F0 a vs) (h2 : DpAll K F0 vs ds) (g1 : Sqq u K F0 b ws) (g2 : DpAll K F0 ws es) : WalkF K (Jzp t u K a b) F0 (zipD ds es) where
  go := fun i F H hi s1 s2 => by
    rw [zipD_len, ← DpAll.len h2, ← DpAll.len g2] at hi
    exact ⟨vs, ws, vs[i]'(by omega), ws[i]'(by omega), h1.mono (s1.trans s2), g1.mono (s1.trans s2), by simp, by simp⟩
  yld := fun i F H x H' hi s1 s2 ⟨T, y, z, e, hT, eH, q, q'⟩ => by
    subst e eH
    obtain ⟨d, e1, e2⟩ := DpAll.getV h2 (q vs (h1.mono (s1.trans s2)))
    obtain ⟨d', e1', e2'⟩ := DpAll.getV g2 (q' ws (g1.mono (s1.trans s2)))
    have x := Ext.frz s2 hT (.tup [y, z])
    exact ⟨_, _, zipD_get i ds es d d' e1 e1', x, .tup (SqT.of upd_same) (.cons (dpUp e2 (s1.trans x.ff)) (.cons (dpUp e2' (s1.trans x.ff)) .nil))⟩
  stop := fun F H s1 s2 => ⟨vs, ws, h1.mono (s1.trans s2), g1.mono (s1.trans s2), by rw [zipD_len, DpAll.len h2, DpAll.len g2]⟩
end
section
variable {X : Cx} {W : WX} {tg e e2 : Expr} {es : List Expr} {pos p : Pos} {f g : Ev → R D}
theorem PI.or {wi wj : TI} (h : PI X tg e wi) (h' : PI X tg e wj) : PI X tg e (fun σ H R => wi σ H R ∨ wj σ H R) := ⟨fun pins s σ H R I q => by
  rcases q with q | q
  · exact h.run pins s σ H R I q
  · exact h'.run pins s σ H R I q⟩
def itD : D → R (List D)
  | .list ds => .ok ds
  | .tuple ds => .ok ds
  | .str z => .ok (charsD z)
  | _ => .no
@[simp] theorem itD_list (ds : List D) : itD (.list ds) = .ok ds := rfl
@[simp] theorem itD_tup (ds : List D) : itD (.tuple ds) = .ok ds := rfl
@[simp] theorem itD_str (z : Str) : itD (.str z) = .ok (charsD z) := rfl
/-- go on by what the first part is -/
theorem Sm.choose {α β γ δ : Type} {P : Hp → α → β → Hp → Hp → Prop} {P2 : Hp → γ → δ → Hp → Hp → Prop} [Anti P2] {t : L2.St → Hp → (β → Hp → Prop) → Prop} {f : Ev → R α} (s : Sm X W P t f) {g : α → R γ} {F H : Hp} {σ : L2.St} {env : Ev} {fp : List Addr} {Q : δ → Hp → Prop} {G : Prop}
    (sat : Sat X.KK F H σ env fp) (h : Post X W P2 F H σ ((f env).bind g) Q) (no : (∀ T, t σ H T) → G)
    (k : ∀ a, f env = .ok a → (∀ T, (∀ v F1 H1, Sat X.KK F1 H1 σ env fp → P H a v F1 H1 → Ext F H F1 H1 → Post X W P2 F1 H1 σ (g a) Q → T v H1) → t σ H T) → G) : G := by
  cases e : f env with
  | no => rw [e] at h; exact h.elim
  | ok a =>
    refine k a e fun T hT => s F H σ env fp T sat ?_
    rw [e] at h ⊢
    exact fun v F' H' x p => hT v F' H' (sat.ext x) p x (Post.ext (show Post X W P2 F H σ (g a) Q from h) x)
  | ex c =>
    refine no fun T => s F H σ env fp T sat ?_
    rw [e] at h ⊢
    exact h
theorem di_seq (h : DF X W e f) : DI X W tg e (eB f itD) := by
  obtain ⟨t, p, s⟩ := h
  refine ⟨_, PI.or (pi_list p) (PI.or (pi_tup p) (pi_str p)), fun F H σ env fp Q sat hp => ?_⟩
  refine s.choose sat hp (fun z => .inl (z _)) fun d e k => ?_
  cases d with
  | list ds =>
    refine .inl (k _ fun v F1 H1 sat1 q _ h1 => ?_)
    obtain ⟨a, vs, rfl, q1, q2⟩ := dp_lst q
    exact ⟨a, rfl, ⟨vs, sat1.fh.seq q1⟩, h1 _ F1 H1 (.refl sat1.fh) (walkF_l q1 q2)⟩
  | tuple ds =>
    refine .inr (.inl (k _ fun v F1 H1 sat1 q _ h1 => ?_))
    obtain ⟨a, vs, rfl, q1, q2⟩ := dp_tup q
    exact ⟨a, rfl, ⟨vs, SqT_mono sat1.fh q1⟩, h1 _ F1 H1 (.refl sat1.fh) (walkF_t q1 q2)⟩
  | str z =>
    refine .inr (.inr (k _ fun v F1 H1 sat1 q _ h1 => ?_))
    cases dp_str q
    exact ⟨z, rfl, h1 _ F1 H1 (.refl sat1.fh) (walkF_s z)⟩
  | _ =>
    refine .inl (k _ fun v F1 H1 sat1 q _ h1 => h1.elim)
def rg1 : List D → R (List D)
  | [.int j] => guard (-(2 ^ 62) ≤ j ∧ j < 2 ^ 62) (.ok (rangeD 0 j.toNat))
  | _ => .no
theorem daf1 {K : Kw} {F : Hp} {d : D} {vs : List V} (h : DpAll K F vs [d]) : ∃ v, vs = [v] ∧ Dp K F v d := by
  cases h with | cons a b => cases b; exact ⟨_, rfl, a⟩
theorem daf2 {K : Kw} {F : Hp} {d d' : D} {vs : List V} (h : DpAll K F vs [d, d']) : ∃ v w, vs = [v, w] ∧ Dp K F v d ∧ Dp K F w d' := by
  cases h with | cons a b => cases b with | cons a' b' => cases b'; exact ⟨_, _, rfl, a, a'⟩
variable {fa : Ev → R (List D)}
theorem di_range1 (hg : Gl X "range") (hm : X.mg "range" = none) (h : DA X W [e] fa) (hs : starEach [e] X.env = [(false, eval e X.env)] := by rfl) : DI X W tg (.Call (.Name "range" p) [e] [] pos) (eB fa rg1) := by
  obtain ⟨t, pa, s⟩ := h
  refine ⟨_, pi_range1 hg hm pa hs, fun F H σ env fp Q sat hp => ?_⟩
  refine s.go sat hp fun ds vs F1 H1 sat1 q _ h1 => ?_
  unfold rg1 at h1
  split at h1
  · obtain ⟨c, h2⟩ := guard_post h1
    obtain ⟨v, rfl, w⟩ := daf1 q
    cases dp_int w
    exact ⟨_, rfl, c.1, c.2, h2 _ F1 H1 (.refl sat1.fh) (walkF_r _ _)⟩
  · exact h1.elim
def sqqD : D → Option (Bool × List D)
  | .list ds => some (false, ds)
  | .tuple ds => some (true, ds)
  | _ => none
theorem sqq_dp {K : Kw} {F : Hp} {v : V} {d : D} {t : Bool} {ds : List D} (h : Dp K F v d) (e : sqqD d = some (t, ds)) : ∃ a vs, v = .ref a ∧ Sqq t K F a vs ∧ DpAll K F vs ds := by
  cases d with
  | list es => cases e; exact dp_lst h
  | tuple es => cases e; exact dp_tup h
  | _ => cases e
def enArg : List D → R (List D)
  | [d] => match sqqD d with
    | some (_, ds) => .ok (enumD 0 ds)
    | none => .no
  | _ => .no
@[simp] theorem enArg_list (ds : List D) : enArg [.list ds] = .ok (enumD 0 ds) := rfl
@[simp] theorem enArg_tup (ds : List D) : enArg [.tuple ds] = .ok (enumD 0 ds) := rfl
def zpArg : List D → R (List D)
  | [d, e] => match sqqD d, sqqD e with
    | some (_, ds), some (_, es) => .ok (zipD ds es)
    | _, _ => .no
  | _ => .no
theorem di_enum {elts : List Expr} {kk : Nat} {tpos : Pos} (hg : Gl X "enumerate") (hm : X.mg "enumerate" = none) (h : DA X W [e] fa) (hs : starEach [e] X.env = [(false, eval e X.env)] := by rfl) : DI X W (.Tuple elts kk tpos) (.Call (.Name "enumerate" p) [e] [] pos) (eB fa enArg) := by
  obtain ⟨t, pa, s⟩ := h
  refine ⟨_, pi_en hg hm pa hs, fun F H σ env fp Q sat hp => ?_⟩
  refine s.go sat hp fun ds vs F1 H1 sat1 q _ h1 => ?_
  unfold enArg at h1
  split at h1
  · split at h1
    · rename_i t es e2
      obtain ⟨v, rfl, w⟩ := daf1 q
      obtain ⟨a, us, rfl, q1, q2⟩ := sqq_dp w e2
      exact ⟨t, a, us, rfl, q1.mono sat1.fh, h1 _ F1 H1 (.refl sat1.fh) (walkF_en q1 q2)⟩
    · exact h1.elim
  · exact h1.elim
theorem di_zip {elts : List Expr} {kk : Nat} {tpos : Pos} (hg : Gl X "zip") (hm : X.mg "zip" = none) (h : DA X W [e, e2] fa) (hs : starEach [e, e2] X.env = (false, eval e X.env) :: starEach [e2] X.env := by rfl)
    (hpl : (backTo pos (starEach [e2] X.env)).any (·.1) = false := by rfl) : DI X W (.Tuple elts kk tpos) (.Call (.Name "zip" p) [e, e2] [] pos) (eB fa zpArg) := by
  obtain ⟨t, pa, s⟩ := h
  refine ⟨_, pi_zp hg hm pa hs hpl, fun F H σ env fp Q sat hp => ?_⟩
  refine s.go sat hp fun ds vs F1 H1 sat1 q _ h1 => ?_
  unfold zpArg at h1
  split at h1
  · split at h1
    · rename_i t es u gs e2 e3
      obtain ⟨v, w, rfl, w1, w2⟩ := daf2 q
      obtain ⟨a, us, rfl, q1, q2⟩ := sqq_dp w1 e2
      obtain ⟨b, us', rfl, q3, q4⟩ := sqq_dp w2 e3
      exact ⟨t, u, a, b, us, us', rfl, q1.mono sat1.fh, q3.mono sat1.fh, h1 _ F1 H1 (.refl sat1.fh) (walkF_zp q1 q2 q3 q4)⟩
    · exact h1.elim
  · exact h1.elim
end
end Mir
end
set_option Elab.async false
set_option linter.all false
set_option maxRecDepth 100000
set_option maxHeartbeats 4000000
noncomputable section
namespace Mir
open PySem PySem.Spec L2

section
variable {K : Kw} {F H : Hp} {σ : L2.St} {env : Ev} {fp : List Addr}
/-- store an own value; fx: the value's new footprint -/
theorem Sat.put (s : Sat K F H σ env fp) {i : Nat} (hi : i < env.length) {v : V} {o : Ow} {fx : List Addr} (h : OwnAt K F H v o fx) (nd : fx.Nodup) (dj : ∀ b ∈ fx, b ∉ fp) :
    ∃ fp', Sat K F H (σ.set i (some v)) (env.set i (some o)) fp' ∧ ∀ b ∈ fp', b ∈ fx ∨ b ∈ fp := by
  obtain ⟨fr, fo, a1, a2, a3, a4, a5, a6, a7⟩ := s.en.put hi s.nd
  obtain ⟨fp', b1, b2, b3⟩ := (a7 F H [] [] (StepS.of_ext (.refl s.fh) []) fun _ _ => by simp).2 v o fx h nd fun b hb z => dj b hb (a1 b z)
  exact ⟨fp', ⟨s.fh, b3, b1⟩, fun b hb => (b2 b hb).imp id (a1 b)⟩
end

def Off (ix : List Nat) (σ σ' : L2.St) : Prop := σ'.length = σ.length ∧ ∀ j, j ∉ ix → σ'[j]? = σ[j]?
theorem Off.refl (σ : L2.St) (ix : List Nat) : Off ix σ σ := ⟨rfl, fun _ _ => rfl⟩
theorem Off.trans {ix jx : List Nat} {σ σ1 σ2 : L2.St} (a : Off ix σ σ1) (b : Off jx σ1 σ2) : Off (ix ++ jx) σ σ2 :=
  ⟨b.1.trans a.1, fun j h => (b.2 j fun z => h (List.mem_append_right _ z)).trans (a.2 j fun z => h (List.mem_append_left _ z))⟩
/-- the reading of a target, by its mirror -/
def tgOf (K : Kw) (ix : List Nat) (g : D → Ev → Option Ev) : TG := fun v σ H Q => ∃ F env fp d env', Sat K F H σ env fp ∧ Dp K F v d ∧ g d env = some env' ∧ ∀ σ' fp', Sat K F H σ' env' fp' → (∀ b ∈ fp', b ∈ fp) → Off ix σ σ' → Q σ' H
def tgsOf (K : Kw) (ix : List Nat) (g : List D → Ev → Option Ev) : TGs := fun v σ H Q => ∃ F env fp d env', Sat K F H σ env fp ∧ DpAll K F v d ∧ g d env = some env' ∧ ∀ σ' fp', Sat K F H σ' env' fp' → (∀ b ∈ fp', b ∈ fp) → Off ix σ σ' → Q σ' H
def DG (X : Cx) (tg : Expr) (ix : List Nat) (g : D → Ev → Option Ev) : Prop := PG X tg (tgOf X.KK ix g)
def DGs (X : Cx) (tg : List Expr) (ix : List Nat) (g : List D → Ev → Option Ev) : Prop := PGs X tg (tgsOf X.KK ix g)
theorem PG.imp {X : Cx} {tg : Expr} {t t' : TG} (h : PG X tg t) (k : ∀ v σ H Q, t' v σ H Q → t v σ H Q) : PG X tg t' := ⟨fun pins s σ H v u Q I r q => h.run pins s σ H v u Q I r (k v σ H Q q)⟩
theorem PGs.imp {X : Cx} {tg : List Expr} {t t' : TGs} (h : PGs X tg t) (k : ∀ v σ H Q, t' v σ H Q → t v σ H Q) : PGs X tg t' := ⟨fun pins s σ H v u Q I r q => h.run pins s σ H v u Q I r (k v σ H Q q)⟩
def gtName (i : Nat) (d : D) (env : Ev) : Option Ev := if i < env.length then some (env.set i (some (.d d))) else none
def gtNil : List D → Ev → Option Ev
  | [], env => some env
  | _, _ => none
def gtCons (g : D → Ev → Option Ev) (h : List D → Ev → Option Ev) : List D → Ev → Option Ev
  | d :: ds, env => (g d env).bind (h ds)
  | _, _ => none
def gtTup (n : Nat) (h : List D → Ev → Option Ev) : D → Ev → Option Ev
  | .tuple ds, env => if ds.length = n then h ds env else none
  | _, _ => none
section
variable {X : Cx} {e : Expr} {es : List Expr} {pos : Pos}
theorem dg_name (i : Nat) {x : Str} (hN : X.N.Nodup) (hi : X.N[i]? = some x := by rfl) (hx : Loc X.env.scope x := by first | exact Or.inl rfl | exact Or.inr rfl) (hf : X.fn x = true ∨ X.env.scope.names.lookup x = some .local := by first | exact .inl rfl | exact .inr rfl | assumption) : DG X (.Name x pos) [i] (gtName i) := by
  refine PG.imp (pg_name hN hi hx hf) ?_
  rintro v σ H Q ⟨F, env, fp, d, env', sat, hd, he, q⟩
  unfold gtName at he
  split at he
  · cases he
    obtain ⟨fp', s', h'⟩ := sat.put ‹_› (OwnAt.d hd) List.nodup_nil (fun _ z => nomatch z)
    exact q _ fp' s' (fun b hb => (h' b hb).elim (fun z => nomatch z) id) ⟨by simp, fun j hj => List.getElem?_set_ne (fun z => hj (by simp [z]))⟩
  · cases he
theorem dgs_nil : DGs X [] [] gtNil := by
  refine PGs.imp pgs_nil ?_
  rintro v σ H Q ⟨F, env, fp, d, env', sat, hd, he, q⟩
  cases d with
  | nil => cases hd; cases he; exact ⟨rfl, q σ fp sat (fun _ z => z) (.refl _ _)⟩
  | cons d ds => cases he
theorem dgs_cons {ix jx : List Nat} {g : D → Ev → Option Ev} {h : List D → Ev → Option Ev} (h1 : DG X e ix g) (h2 : DGs X es jx h) (hs : (assignEach (e :: es) X.env).map (·.2) = assign e X.env :: (assignEach es X.env).map (·.2) := by rfl) : DGs X (e :: es) (ix ++ jx) (gtCons g h) := by
  refine PGs.imp (pgs_cons h1 h2 hs) ?_
  rintro v σ H Q ⟨F, env, fp, d, env', sat, hd, he, q⟩
  cases d with
  | nil => cases he
  | cons d ds =>
    cases hd with
    | cons d1 d2 =>
      cases e1 : g d env with
      | none => unfold gtCons at he; simp only at he; rw [e1] at he; cases he
      | some env1 =>
        unfold gtCons at he; simp only at he; rw [e1] at he
        refine ⟨_, _, rfl, F, env, fp, d, env1, sat, d1, e1, fun σ1 fp1 sat1 sub1 o1 => ?_⟩
        exact ⟨F, env1, fp1, ds, env', sat1, d2, he, fun σ2 fp2 sat2 sub2 o2 => q σ2 fp2 sat2 (fun b hb => sub1 b (sub2 b hb)) (o1.trans o2)⟩
theorem dg_tup {k n : Nat} {ix : List Nat} {h : List D → Ev → Option Ev} (hc : X.calm = true) (hs : DGs X es ix h) (hn : (assignEach es X.env).length = n := by rfl) (hst : (assignEach es X.env).findIdx? (·.1) = none := by rfl) : DG X (.Tuple es k pos) ix (gtTup n h) := by
  refine PG.imp (pg_tup hc hs hn hst) ?_
  rintro v σ H Q ⟨F, env, fp, d, env', sat, hd, he, q⟩
  unfold gtTup at he
  split at he
  · split at he
    · rename_i ds c
      obtain ⟨a, vs, rfl, h1, h2⟩ := dp_tup hd
      exact ⟨a, vs, rfl, SqT_mono sat.fh h1, (DpAll.len h2).trans c, F, env, fp, ds, env', sat, h2, he, q⟩
    · cases he
  · cases he
end

inductive SR where
  | no
  | nx (env : Ev)
  | rt (r : Ow) (env : Ev)
  | bk (env : Ev)
  | ct (env : Ev)
  | ex (c : Str) (env : Ev)
def SR.andThen : SR → (Ev → SR) → SR
  | .nx env, f => f env
  | r, _ => r
@[simp] theorem SR.andThen_nx (env : Ev) (f : Ev → SR) : (SR.nx env).andThen f = f env := rfl
@[simp] theorem SR.andThen_rt (r : Ow) (env : Ev) (f : Ev → SR) : (SR.rt r env).andThen f = .rt r env := rfl
@[simp] theorem SR.andThen_ex (c : Str) (env : Ev) (f : Ev → SR) : (SR.ex c env).andThen f = .ex c env := rfl
@[simp] theorem SR.andThen_bk (env : Ev) (f : Ev → SR) : (SR.bk env).andThen f = .bk env := rfl
@[simp] theorem SR.andThen_ct (env : Ev) (f : Ev → SR) : (SR.ct env).andThen f = .ct env := rfl
@[simp] theorem SR.andThen_no (f : Ev → SR) : SR.no.andThen f = .no := rfl
/-- a pure part, then a statement's outcome -/
def R.st {α : Type} (env : Ev) : R α → (α → SR) → SR
  | .no, _ => .no
  | .ok a, f => f a
  | .ex c, _ => .ex c env
@[simp] theorem R.st_ok {α : Type} (env : Ev) (a : α) (f : α → SR) : (R.ok a).st env f = f a := rfl
@[simp] theorem R.st_ex {α : Type} (env : Ev) (c : Str) (f : α → SR) : (R.ex c : R α).st env f = .ex c env := rfl
/-- S: the slots that may be stored -/
def OffS (S : Nat → Bool) (σ σ' : L2.St) : Prop := ∀ j, S j = false → σ'[j]? = σ[j]?
theorem OffS.refl (S : Nat → Bool) (σ : L2.St) : OffS S σ σ := fun _ _ => rfl
theorem OffS.trans {S : Nat → Bool} {σ σ1 σ2 : L2.St} (a : OffS S σ σ1) (b : OffS S σ1 σ2) : OffS S σ σ2 := fun j h => (b j h).trans (a j h)
theorem OffS.set {S : Nat → Bool} {σ : L2.St} {i : Nat} (h : S i = true) (x : Option V) : OffS S σ (σ.set i x) := fun j hj => List.getElem?_set_ne fun z => by rw [z, hj] at h; cases h
theorem OffS.of {S : Nat → Bool} {σ σ' : L2.St} {ix : List Nat} (h : Off ix σ σ') (k : ix.all S = true) : OffS S σ σ' := fun j hj => h.2 j fun z => by
  rw [List.all_eq_true] at k
  rw [k j z] at hj; cases hj
def PostS (X : Cx) (W : WX) (S : Nat → Bool) (σ0 : L2.St) (F H : Hp) (fp : List Addr) (D : Ends) : SR → Prop
  | .no => False
  | .nx env => ∀ σ F' H' fp', OffS S σ0 σ → StepS F H fp F' H' fp' → Sat X.KK F' H' σ env fp' → D.nx σ H'
  | .bk env => ∀ σ F' H' fp', OffS S σ0 σ → StepS F H fp F' H' fp' → Sat X.KK F' H' σ env fp' → D.bk σ H'
  | .ct env => ∀ σ F' H' fp', OffS S σ0 σ → StepS F H fp F' H' fp' → Sat X.KK F' H' σ env fp' → D.ct σ H'
  | .rt r env => ∀ v σ F' H' fx fp', OffS S σ0 σ → StepS F H fp F' H' (fx ++ fp') → Sat X.KK F' H' σ env fp' → OwnAt X.KK F' H' v r fx → (fx ++ fp').Nodup → D.rt v H'
  | .ex c env => ∀ C σ F' H' fp', X.mg c = some (.ref C) → OffS S σ0 σ → StepS F H fp F' H' fp' → Sat X.KK F' H' σ env fp' → W (.ref C) none σ H'
def SmS (X : Cx) (W : WX) (S : Nat → Bool) (t : TS) (f : Ev → SR) : Prop := ∀ F H σ env fp D, Sat X.KK F H σ env fp → PostS X W S σ F H fp D (f env) → t D σ H
def DS (X : Cx) (W : WX) (S : Nat → Bool) (st : Stmt) (f : Ev → SR) : Prop := ∃ t, PS X st t ∧ SmS X W S t f
def DSs (X : Cx) (W : WX) (S : Nat → Bool) (st : List Stmt) (f : Ev → SR) : Prop := ∃ t, PSs X st t ∧ SmS X W S t f
section
variable {X : Cx} {W : WX} {S : Nat → Bool} {σ0 σ1 : L2.St} {F H F1 H1 : Hp} {fp fp1 : List Addr} {D : Ends}
theorem PostS.step {r : SR} (h : PostS X W S σ0 F H fp D r) (o : OffS S σ0 σ1) (s : StepS F H fp F1 H1 fp1) : PostS X W S σ1 F1 H1 fp1 D r := by
  cases r with
  | no => exact h
  | nx env => exact fun σ F' H' fp' o' s' => h σ F' H' fp' (o.trans o') (s.trans s')
  | bk env => exact fun σ F' H' fp' o' s' => h σ F' H' fp' (o.trans o') (s.trans s')
  | ct env => exact fun σ F' H' fp' o' s' => h σ F' H' fp' (o.trans o') (s.trans s')
  | rt r env => exact fun v σ F' H' fx fp' o' s' => h v σ F' H' fx fp' (o.trans o') (s.trans s')
  | ex c env => exact fun C σ F' H' fp' m o' s' => h C σ F' H' fp' m (o.trans o') (s.trans s')
theorem PostS.ext {r : SR} (h : PostS X W S σ0 F H fp D r) (e : Ext F H F1 H1) : PostS X W S σ0 F1 H1 fp D r := h.step (.refl _ _) (StepS.of_ext e fp)
theorem PostS.sub {S' : Nat → Bool} {r : SR} (h : PostS X W S σ0 F H fp D r) (k : ∀ j, S j = false → S' j = false) : PostS X W S' σ0 F H fp D r := by
  have o : ∀ {σ : L2.St}, OffS S' σ0 σ → OffS S σ0 σ := fun o j hj => o j (k j hj)
  cases r with
  | no => exact h
  | nx env => exact fun σ F' H' fp' o' s' => h σ F' H' fp' (o o') s'
  | bk env => exact fun σ F' H' fp' o' s' => h σ F' H' fp' (o o') s'
  | ct env => exact fun σ F' H' fp' o' s' => h σ F' H' fp' (o o') s'
  | rt r env => exact fun v σ F' H' fx fp' o' s' => h v σ F' H' fx fp' (o o') s'
  | ex c env => exact fun C σ F' H' fp' m o' s' => h C σ F' H' fp' m (o o') s'
/-- a pure part within a statement -/
theorem Sm.st {α β : Type} {P : Hp → α → β → Hp → Hp → Prop} {t : L2.St → Hp → (β → Hp → Prop) → Prop} {f : Ev → R α} (s : Sm X W P t f) {g : α → SR} {σ : L2.St} {env : Ev} {T : β → Hp → Prop} (sat : Sat X.KK F H σ env fp)
    (h : PostS X W S σ F H fp D ((f env).st env g)) (k : ∀ a v F1 H1, Sat X.KK F1 H1 σ env fp → P H a v F1 H1 → Ext F H F1 H1 → PostS X W S σ F1 H1 fp D (g a) → T v H1) : t σ H T := by
  refine s F H σ env fp T sat ?_
  cases e : f env with
  | no => rw [e] at h; exact h
  | ok a =>
    rw [e] at h
    exact fun v F' H' x p => k a v F' H' (sat.ext x) p x (PostS.ext (show PostS X W S σ F H fp D (g a) from h) x)
  | ex c =>
    rw [e] at h
    exact fun C F' H' m x => h C σ F' H' fp m (.refl _ _) (StepS.of_ext x fp) (sat.ext x)
end
section
variable {X : Cx} {W : WX} {S : Nat → Bool} {st : Stmt} {sts : List Stmt} {e : Expr} {pos : Pos} {fs gs : Ev → SR}
def sSkip (env : Ev) : SR := .nx env
def sSeq (f g : Ev → SR) (env : Ev) : SR := (f env).andThen g
theorem dss_nil : DSs X W S [] sSkip := ⟨_, pss_nil, fun F H σ env fp D sat h => h σ F H fp (.refl _ _) (StepS.of_ext (.refl sat.fh) fp) sat⟩
theorem dss_one (h : DS X W S st fs) : DSs X W S [st] fs := by
  obtain ⟨t, p, s⟩ := h
  exact ⟨_, pss_one p, s⟩
theorem seq_sm {t u : TS} (s : SmS X W S t fs) (s' : SmS X W S u gs) : SmS X W S (tSeq t u) (sSeq fs gs) := by
  intro F H σ env fp D sat h
  refine s F H σ env fp _ sat ?_
  unfold sSeq at h
  cases e : fs env with
  | no => rw [e] at h; exact h
  | nx env1 =>
    rw [e] at h
    exact fun σ1 F1 H1 fp1 o1 st1 sat1 => s' F1 H1 σ1 env1 fp1 D sat1 (PostS.step (show PostS X W S σ F H fp D (gs env1) from h) o1 st1)
  | bk env1 => rw [e] at h; exact h
  | ct env1 => rw [e] at h; exact h
  | rt r env1 => rw [e] at h; exact h
  | ex c env1 => rw [e] at h; exact h
theorem dss_cons (h : DS X W S st fs) (h2 : DSs X W S sts gs) : DSs X W S (st :: sts) (sSeq fs gs) := by
  obtain ⟨t, p, s⟩ := h
  obtain ⟨t', p', s'⟩ := h2
  exact ⟨_, pss_cons p p', seq_sm s s'⟩
/-- name = e -/
def sSet (i : Nat) (f : Ev → R Ow) (env : Ev) : SR := (f env).st env fun r => if i < env.length then .nx (env.set i (some r)) else .no
theorem fresh_dj {K : Kw} {H F' H' : Hp} {F : Hp} {σ : L2.St} {env : Ev} {fp fx : List Addr} (sat : Sat K F H σ env fp) (n : ∀ b ∈ fx, H b = none) : ∀ b ∈ fx, b ∉ fp := fun b hb z => by
  obtain ⟨_, vs, e⟩ := sat.en.there b z
  rw [n b hb] at e
  cases e
theorem put_step {K : Kw} {F H F1 H1 : Hp} {σ : L2.St} {env : Ev} {fp fx : List Addr} {i : Nat} {v : V} {r : Ow} (sat : Sat K F H σ env fp) (x : Ext F H F1 H1) (h : OwnAt K F1 H1 v r fx) (nd : fx.Nodup) (n : ∀ b ∈ fx, H b = none) (hi : i < env.length) :
    ∃ fp', StepS F H fp F1 H1 fp' ∧ Sat K F1 H1 (σ.set i (some v)) (env.set i (some r)) fp' := by
  obtain ⟨fp', s', h'⟩ := (sat.ext x).put hi h nd (fresh_dj (F' := F) (H' := H) sat n)
  exact ⟨fp', ⟨x.ff, fun b o e _ => x.hh b o e, fun b o e => (x.fn b o e).imp id .inr, fun b hb => (h' b hb).elim (fun z => .inr (n b z)) .inl⟩, s'⟩
theorem ds_set {f : Ev → R Ow} {x : Str} {pos' : Pos} (i : Nat) (hN : X.N.Nodup) (he : DE X W e f) (hi : X.N[i]? = some x := by rfl) (hx : Loc X.env.scope x := by first | exact Or.inl rfl | exact Or.inr rfl)
    (hs : swapsWith e (some (.Name x pos')) pos.line X.env = pure false := by rfl) (hf : X.fn x = true ∨ X.env.scope.names.lookup x = some .local := by first | exact .inl rfl | exact .inr rfl | assumption) (hS : S i = true := by rfl) : DS X W S (.Assign [.Name x pos'] e pos) (sSet i f) := by
  obtain ⟨t, p, s⟩ := he
  refine ⟨_, ps_set hN hi hx p hs hf, fun F H σ env fp D sat h => ?_⟩
  refine s F H σ env fp _ sat ?_
  unfold sSet at h
  cases e : f env with
  | no => rw [e] at h; exact h
  | ex c => rw [e] at h; exact fun C F' H' m x => h C σ F' H' fp m (.refl _ _) (StepS.of_ext x fp) (sat.ext x)
  | ok r =>
    rw [e] at h
    intro v F' H' x ⟨fx, q, nd, n⟩
    have h' : PostS X W S σ F H fp D (if i < env.length then .nx (env.set i (some r)) else .no) := h
    split at h'
    · obtain ⟨fp', s1, s2⟩ := put_step sat x q nd n ‹_›
      exact h' _ F' H' fp' (.set hS _) s1 s2
    · exact h'.elim
/-- targets = e, e frozen -/
def sAsg (g : D → Ev → Option Ev) (f : Ev → R D) (env : Ev) : SR := (f env).st env fun d => match g d env with
  | some env' => .nx env'
  | none => .no
theorem ds_asg {f : Ev → R D} {g : D → Ev → Option Ev} {tg : Expr} {ix : List Nat} (he : DF X W e f) (hg : DG X tg ix g) (hs : swapsWithSole [tg] e pos.line X.env = pure false := by rfl) (hw : swappedStores [tg] e X.env = pure none := by rfl)
    (h1 : (assignEach [tg] X.env).map (·.2) = [assign tg X.env] := by rfl) (hS : ix.all S = true := by rfl) : DS X W S (.Assign [tg] e pos) (sAsg g f) := by
  obtain ⟨t, p, s⟩ := he
  refine ⟨_, ps_asg p hg hs hw h1, fun F H σ env fp D sat h => ?_⟩
  refine s.st sat h fun d v F1 H1 sat1 q _ h1 => ?_
  split at h1
  · rename_i env' e
    exact ⟨F1, env, fp, d, env', sat1, q, e, fun σ' fp' sat' sub off => h1 σ' F1 H1 fp' (.of off hS) ((StepS.of_ext (.refl sat1.fh) fp).subset sub) sat'⟩
  · exact h1.elim
/-- an expression whose value is dropped -/
def sDrop (f : Ev → R D) (env : Ev) : SR := (f env).st env fun _ => .nx env
def sRet (f : Ev → R Ow) (env : Ev) : SR := (f env).st env fun r => .rt r env
theorem ds_ret {f : Ev → R Ow} (he : DE X W e f) : DS X W S (.Return (some e) pos) (sRet f) := by
  obtain ⟨t, p, s⟩ := he
  refine ⟨_, ps_ret p, fun F H σ env fp D sat h => ?_⟩
  refine s F H σ env fp _ sat ?_
  unfold sRet at h
  cases e : f env with
  | no => rw [e] at h; exact h
  | ex c => rw [e] at h; exact fun C F' H' m x => h C σ F' H' fp m (.refl _ _) (StepS.of_ext x fp) (sat.ext x)
  | ok r =>
    rw [e] at h
    intro v F' H' x ⟨fx, q, nd, n⟩
    have dj := fresh_dj (F' := F) (H' := H) sat n
    refine h v σ F' H' fx fp (.refl _ _) ⟨x.ff, fun b o e _ => x.hh b o e, fun b o e => (x.fn b o e).imp id .inr, fun b hb => ?_⟩ (sat.ext x) q ?_
    · rcases List.mem_append.mp hb with z | z
      · exact .inr (n b z)
      · exact .inl z
    · rw [List.nodup_append]; exact ⟨nd, sat.nd, fun a ha b hb e => dj a ha (e ▸ hb)⟩
def sRetN (env : Ev) : SR := .rt (.d .none) env
/-- return x, x given away -/
def sRetV (i : Nat) (env : Ev) : SR := match env[i]? with
  | some (some o) => .rt o (env.set i none)
  | _ => .no
theorem ds_retV (i : Nat) {x : Str} {pos' : Pos} (hN : X.N[i]? = some x := by rfl) (hv : Vis X.env.scope x := by first | exact Or.inl rfl | exact Or.inr (Or.inl rfl) | exact Or.inr (Or.inr rfl)) (hd : (x == ("__debug__" : Str)) = false := by decide)
    (hcd : (x == ("__classdict__" : Str)) = false := by decide) : DS X W S (.Return (some (.Name x pos')) pos) (sRetV i) := by
  refine ⟨_, ps_ret (pe_var hN hv hd hcd), fun F H σ env fp D sat h => ?_⟩
  unfold sRetV at h
  split at h
  · rename_i o he
    have hi : i < env.length := (List.getElem?_eq_some_iff.mp he).1
    obtain ⟨fr, fo, a1, a2, a3, a3', a4, a5, a6⟩ := sat.en.put hi sat.nd
    obtain ⟨v, e1, e2⟩ := a5 o he
    have e3 := (a6 F H [] [] (StepS.of_ext (.refl sat.fh) []) fun _ _ => by simp).1 (some v)
    have es : σ.set i (some v) = σ := by
      refine List.ext_getElem? fun j => ?_
      by_cases hj : i = j
      · subst hj
        rw [List.getElem?_set_self (List.getElem?_eq_some_iff.mp e1).1]
        exact e1.symm
      · rw [List.getElem?_set_ne hj]
    rw [es] at e3
    refine ⟨v, e1, h v _ F H fo fr (.refl _ _) ((StepS.of_ext (.refl sat.fh) fp).subset fun b hb => ?_) ⟨sat.fh, e3, a3⟩ e2 ?_⟩
    · exact (List.mem_append.mp hb).elim (a2 b) (a1 b)
    · rw [List.nodup_append]; exact ⟨a3', a3, fun a ha b hb e => a4 a ha (e ▸ hb)⟩
  · exact h.elim
/-- a def's own list made data, ahead of a statement -/
def frzV (i : Nat) (env : Ev) : Ev := match env[i]? with
  | some (some o) => env.set i (some (.d (viewD o)))
  | _ => env
theorem frz_sat {K : Kw} {F H : Hp} {σ : L2.St} {env : Ev} {fp : List Addr} (i : Nat) (sat : Sat K F H σ env fp) : ∃ F' fp', StepS F H fp F' H fp' ∧ Sat K F' H σ (frzV i env) fp' := by
  unfold frzV
  split
  · rename_i o he
    have hi : i < env.length := (List.getElem?_eq_some_iff.mp he).1
    obtain ⟨fr, fo, a1, a2, a3, a3', a4, a5, a6⟩ := sat.en.put hi sat.nd
    obtain ⟨v, e1, e2⟩ := a5 o he
    have nx : ∀ b ∈ fo, F b = none := fun b hb => (OwnAt.there _ _ _ e2 b hb).1
    have st : StepS F H fo (frzAt F H fo) H [] := ⟨frzAt_same nx, fun b o e _ => e, fun b o e => (frzAt_of e).imp id .inl, fun b z => nomatch z⟩
    obtain ⟨fp', b1, b2, b3⟩ := (a6 (frzAt F H fo) H fo [] st fun b hb z => a4 b z hb).2 v _ [] (.d (OwnAt.frz nx _ _ _ e2 fun _ z => z)) List.nodup_nil (fun _ z => nomatch z)
    have es : σ.set i (some v) = σ := by
      refine List.ext_getElem? fun j => ?_
      by_cases hj : i = j
      · subst hj
        rw [List.getElem?_set_self (by rw [sat.en.len]; exact hi)]
        exact e1.symm
      · rw [List.getElem?_set_ne hj]
    rw [es] at b3
    exact ⟨_, fp', ⟨frzAt_same nx, fun b o e _ => e, fun b o e => (frzAt_of e).imp id fun z => .inl (a2 b z), fun b hb => .inl ((b2 b hb).elim (fun z => nomatch z) (a1 b))⟩, ⟨frzAt_in sat.fh, b3, b1⟩⟩
  · exact ⟨F, fp, StepS.of_ext (.refl sat.fh) fp, sat⟩
def sFrz (i : Nat) (f : Ev → SR) (env : Ev) : SR := f (frzV i env)
theorem frz_sm {t : TS} (i : Nat) (s : SmS X W S t fs) : SmS X W S t (sFrz i fs) := by
  intro F H σ env fp D sat h
  obtain ⟨F', fp', s1, s2⟩ := frz_sat i sat
  exact s F' H σ _ fp' D s2 (PostS.step h (.refl _ _) s1)
theorem ds_frz (i : Nat) (h : DS X W S st fs) : DS X W S st (sFrz i fs) := by
  obtain ⟨t, p, s⟩ := h
  exact ⟨t, p, frz_sm i s⟩
def sIf (c : Ev → R Bool) (f g : Ev → SR) (env : Ev) : SR := (c env).st env fun b => if b = true then f env else g env
theorem ds_if {c : Expr} {a b : List Stmt} {fc : Ev → R Bool} (hc : DT X W c fc) (ha : DSs X W S a fs) (hb : DSs X W S b gs) : DS X W S (.If c a b pos) (sIf fc fs gs) := by
  obtain ⟨t, p, s⟩ := hc
  obtain ⟨ta, pa, sa⟩ := ha
  obtain ⟨tb, pb, sb⟩ := hb
  refine ⟨_, ps_if p pa pb, fun F H σ env fp D sat h => ?_⟩
  refine s.st sat h fun k v F1 H1 sat1 q _ h1 => ?_
  obtain rfl : v = k := q
  cases v with
  | true => exact sa F1 H1 σ env fp D sat1 h1
  | false => exact sb F1 H1 σ env fp D sat1 h1
/-- for target in ..: body -/
def forL (g : D → Ev → Option Ev) (f : Ev → SR) : List D → Ev → SR
  | [], env => .nx env
  | d :: ds, env => match g d env with
    | none => .no
    | some env1 => match f env1 with
      | .nx env2 => forL g f ds env2
      | .ct env2 => forL g f ds env2
      | .bk env2 => .nx env2
      | .rt r env2 => .rt r env2
      | .ex c env2 => .ex c env2
      | .no => .no
def sFor (it : Ev → R (List D)) (g : D → Ev → Option Ev) (f : Ev → SR) (env : Ev) : SR := (it env).st env fun ds => forL g f ds env
theorem ds_for {tg iter : Expr} {body : List Stmt} {fi : Ev → R (List D)} {g : D → Ev → Option Ev} (hp : PassesOwn (model X.prog X.w) X.A X.env X.xe) (hc : X.calm = true) {ix : List Nat} (hi : DI X W tg iter fi) (hg : DG X tg ix g) (hb : DSs X W S body fs)
    (hs : ∀ x, foldedSetIterable iter X.env x = pure x := by intro _; rfl) (hS : ix.all S = true := by rfl) : DS X W S (.For tg iter body [] pos) (sFor fi g fs) := by
  obtain ⟨wi, pi, si⟩ := hi
  obtain ⟨tb, pb, sb⟩ := hb
  refine ⟨_, ps_for hp hc pi hg pb hs, fun F H σ env fp D sat h => ?_⟩
  refine si.st sat h fun items J F1 H1 sat1 wk _ h1 => ?_
  have wk : WalkF X.KK J F1 items := wk
  refine ⟨fun i m σ' H' => m = items.length - i ∧ i ≤ items.length ∧ ∃ F' env' fp', Same F1 F' ∧ Sat X.KK F' H' σ' env' fp' ∧ PostS X W S σ' F' H' fp' D (forL g fs (items.drop i) env'),
    ⟨items.length, by simp, Nat.zero_le _, F1, env, fp, Same.refl _, sat1, h1⟩, ?_⟩
  rintro i m σ' H' ⟨rfl, hi, F', env', fp', st, sat', h2⟩
  by_cases hlt : i < items.length
  · refine .inr ⟨wk.go i F' H' hlt st sat'.fh, fun σ2 H2 => ∃ F2 env2 fp2, Same F1 F2 ∧ Sat X.KK F2 H2 σ2 env2 fp2 ∧ PostS X W S σ2 F2 H2 fp2 D (forL g fs (items.drop (i + 1)) env2), ?_, ?_⟩
    · rintro σ2 H2 ⟨F2, env2, fp2, a, b, c⟩
      exact ⟨items.length - (i + 1), by omega, rfl, hlt, F2, env2, fp2, a, b, c⟩
    · intro x H3 y
      obtain ⟨d, F3, e1, x3, dp⟩ := wk.yld i F' H' x H3 hlt st sat'.fh y
      have ed : items.drop i = d :: items.drop (i + 1) := by
        rw [List.drop_eq_getElem_cons hlt]
        have : items[i] = d := by rw [List.getElem?_eq_getElem hlt] at e1; exact Option.some.inj e1
        rw [this]
      rw [ed] at h2
      unfold forL at h2
      cases eg : g d env' with
      | none => rw [eg] at h2; exact h2.elim
      | some env1 =>
        rw [eg] at h2
        simp only at h2
        refine ⟨F3, env', fp', d, env1, sat'.ext x3, dp, eg, fun σ4 fp4 sat4 sub4 off4 => ?_⟩
        have st4 : StepS F' H' fp' F3 H3 fp4 := (StepS.of_ext x3 fp').subset sub4
        have h4 := PostS.step h2 (.of off4 hS) st4
        refine sb F3 H3 σ4 env1 fp4 _ sat4 ?_
        cases ef : fs env1 with
        | no => rw [ef] at h4; exact h4
        | nx env2 => rw [ef] at h4; exact fun σ5 F5 H5 fp5 o5 s5 sat5 => ⟨F5, env2, fp5, st.trans (x3.ff.trans s5.ff), sat5, PostS.step h4 o5 s5⟩
        | ct env2 => rw [ef] at h4; exact fun σ5 F5 H5 fp5 o5 s5 sat5 => ⟨F5, env2, fp5, st.trans (x3.ff.trans s5.ff), sat5, PostS.step h4 o5 s5⟩
        | bk env2 => rw [ef] at h4; exact h4
        | rt r env2 => rw [ef] at h4; exact h4
        | ex c env2 => rw [ef] at h4; exact h4
  · have e : i = items.length := by omega
    subst e
    rw [List.drop_length] at h2
    exact .inl ⟨wk.stop F' H' st sat'.fh, h2 σ' F' H' fp' (.refl _ _) (StepS.of_ext (.refl sat'.fh) fp') sat'⟩
/-- while c: body, at most n turns -/
def whileN (c : Ev → R Bool) (f : Ev → SR) : Nat → Ev → SR
  | 0, _ => .no
  | n + 1, env => (c env).st env fun b => if b = true then (match f env with
      | .nx env2 => whileN c f n env2
      | .ct env2 => whileN c f n env2
      | .bk env2 => .nx env2
      | .rt r env2 => .rt r env2
      | .ex c env2 => .ex c env2
      | .no => .no) else .nx env
theorem ds_while {c : Expr} {body : List Stmt} {fc : Ev → R Bool} (n : Nat) (hp : PassesOwn (model X.prog X.w) X.A X.env X.xe) (hc : DT X W c fc) (hb : DSs X W S body fs) : DS X W S (.While c body [] pos) (whileN fc fs n) := by
  obtain ⟨tc, pc, sc⟩ := hc
  obtain ⟨tb, pb, sb⟩ := hb
  refine ⟨_, ps_while hp pc pb, fun F H σ env fp D sat h => ?_⟩
  refine ⟨fun m σ' H' => ∃ F' env' fp', Sat X.KK F' H' σ' env' fp' ∧ PostS X W S σ' F' H' fp' D (whileN fc fs m env'), ⟨n, F, env, fp, sat, h⟩, ?_⟩
  rintro m σ' H' ⟨F', env', fp', sat', h2⟩
  cases m with
  | zero => exact h2.elim
  | succ m =>
    unfold whileN at h2
    refine sc.st sat' h2 fun k v F1 H1 sat1 q x1 h3 => ?_
    obtain rfl : v = k := q
    cases v with
    | false => exact h3 σ' F1 H1 fp' (.refl _ _) (StepS.of_ext (.refl sat1.fh) fp') sat1
    | true =>
      rw [if_pos rfl] at h3 ⊢
      refine ⟨fun σ5 H5 => ∃ F5 env2 fp5, Sat X.KK F5 H5 σ5 env2 fp5 ∧ PostS X W S σ5 F5 H5 fp5 D (whileN fc fs m env2), fun σ5 H5 z => ⟨m, Nat.lt_succ_self m, z⟩, ?_⟩
      refine sb F1 H1 σ' env' fp' _ sat1 ?_
      cases ef : fs env' with
      | no => rw [ef] at h3; exact h3
      | nx env2 => rw [ef] at h3; exact fun σ5 F5 H5 fp5 o5 s5 sat5 => ⟨F5, env2, fp5, sat5, PostS.step h3 o5 s5⟩
      | ct env2 => rw [ef] at h3; exact fun σ5 F5 H5 fp5 o5 s5 sat5 => ⟨F5, env2, fp5, sat5, PostS.step h3 o5 s5⟩
      | bk env2 => rw [ef] at h3; exact h3
      | rt r env2 => rw [ef] at h3; exact h3
      | ex c env2 => rw [ef] at h3; exact h3
end
end Mir
end
set_option Elab.async false
set_option linter.all false
set_option maxRecDepth 100000
set_option maxHeartbeats 4000000
noncomputable section
namespace Mir
open PySem PySem.Spec L2

def PostF (K : Kw) (mg : Str → Option Value) (F H : Hp) : R Ow → VK → XK → Prop
  | .no, _, _ => False
  | .ok r, Q, _ => ∀ v F' H', Ext F H F' H' → POw K H r v F' H' → Q v H'
  | .ex c, _, E => ∀ C F' H', mg c = some (.ref C) → Ext F H F' H' → E (.ref C) none H'
def spM (K : Kw) (mg : Str → Option Value) (n : Nat) (m : List D → R Ow) : Sp := fun vs H Q E => ∃ F ds, Same F H ∧ DpAll K F vs ds ∧ ds.length = n ∧ PostF K mg F H (m ds) Q E
theorem spM_len {K : Kw} {mg : Str → Option Value} {n : Nat} {m : List D → R Ow} {vs : List V} {H : Hp} {Q : VK} {E : XK} (h : spM K mg n m vs H Q E) : vs.length = n := by
  obtain ⟨F, ds, _, h1, h2, _⟩ := h
  rw [DpAll.len h1, h2]
def envOf (k : Nat) (ds : List D) : Ev := ds.map (fun d => some (Ow.d d)) ++ List.replicate k none
def runB (k : Nat) (f : Ev → SR) (ds : List D) : R Ow := match f (envOf k ds) with
  | .nx _ => .ok (.d .none)
  | .rt r _ => .ok r
  | .ex c _ => .ex c
  | _ => .no
theorem env_start {K : Kw} {F H : Hp} (k : Nat) : ∀ {vs : List V} {ds : List D}, DpAll K F vs ds → EnvAt K F H (vs.map some ++ List.replicate k none) (envOf k ds) []
  | vs, [], h => by
    cases h
    show EnvAt K F H (List.replicate k none) (List.replicate k none) []
    induction k with
    | zero => exact .nil
    | succ k ih => exact .non ih
  | vs, d :: ds, h => by
    cases h with
    | cons h1 h2 => exact .som (fp := []) (.d h1) (env_start k h2)
section
variable {P : Program} {w : World} {K : PySem.W.Frag} {mg : Str → Option Value} {base : Heap}
theorem mk_fn {x qual : Str} {st : Stmt} {f : Addr} {fd : FuncData} {N ps : List Str} {k l : Nat} {fb : Ev → SR} {m : List D → R Ow} (F : Fun K x qual st f fd) (S : FnScope N ps (defScope st)) (hl : N.length = ps.length + l) (hm : ∀ ds, m ds = runB l fb ds)
    (hb : ∀ (cdv : Value) (A : Around) (outer : List Env) (s : Shared) (H : Hp) (E : XK), Room k (A.deeper (PyProof.Rows.envOfC qual (defScope st) s.heap.objs.size f cdv)) →
      DSs (cxOf (L2.CX P w) P w K mg base N qual (defScope st) f cdv A outer s H E) (fun cls d _ H => E cls d H) (fun _ => true) (defBody st) fb) : FnOk P w K mg base (L2.CX P w) (k + 1) f fd ps (spM ⟨K, w⟩ mg ps.length m) := by
  refine F.okX S (fun vs H Q E h => spM_len h) (fun cdv A outer s H vs Q E hr h => ?_)
  obtain ⟨t, p, sm⟩ := hb cdv A outer s H E hr
  refine ⟨t, p, ?_⟩
  have hlen := spM_len h
  obtain ⟨F0, ds, s1, s2, s3, s4⟩ := h
  have e0 : start N vs = vs.map some ++ List.replicate l none := by
    show vs.map some ++ List.replicate (N.length - vs.length) none = _
    rw [hl, hlen, Nat.add_sub_cancel_left]
  rw [e0]
  have sat : Sat ⟨K, w⟩ F0 H (vs.map some ++ List.replicate l none) (envOf l ds) [] := ⟨s1, env_start l s2, List.nodup_nil⟩
  rw [hm] at s4
  unfold runB at s4
  have ext : ∀ {F' H' : Hp} {fp' : List Addr}, StepS F0 H [] F' H' fp' → Same F' H' → Ext F0 H F' H' := fun st sf => ⟨st.ff, fun b o e => st.fr b o e (by simp), fun b o e => (st.fn b o e).imp id fun z => z.elim (fun z => nomatch z) id, sf⟩
  refine sm F0 H _ _ [] _ sat ?_
  cases e : fb (envOf l ds) with
  | no => rw [e] at s4; exact s4
  | bk env => rw [e] at s4; exact s4.elim
  | ct env => rw [e] at s4; exact s4.elim
  | nx env => rw [e] at s4; exact fun σ' F' H' fp' _ st sat' => s4 .non F' H' (ext st sat'.fh) (own_d .non)
  | rt r env =>
    rw [e] at s4
    intro v σ' F' H' fx fp' _ st sat' ow nd
    refine s4 v F' H' (ext st sat'.fh) ⟨fx, ow, (List.nodup_append.mp nd).1, fun b hb => ?_⟩
    exact (st.sub b (List.mem_append_left _ hb)).elim (fun z => nomatch z) id
  | ex c env => rw [e] at s4; exact fun C σ' F' H' fp' m _ st sat' => s4 C F' H' m (ext st sat'.fh)
end
section
variable {X : Cx} {W : WX} {e : Expr} {es : List Expr} {pos p : Pos}
theorem de_call {k n : Nat} {f : Addr} {fd : FuncData} {ps : List Str} {x : Str} {m : List D → R Ow} {fa : Ev → R (List D)} (F : FnOk X.prog X.w X.K X.mg X.base (L2.CX X.prog X.w) k f fd ps (spM X.KK X.mg n m)) (tk : Takes X W) (hr : Room k X.A) (hg : Gl X x) (hm : X.mg x = some (.ref f))
    (hk : PySem.W.keepIn X.K (.ref f) = true) (hb : Binds X.K fd ps []) (ha : DA X W (e :: es) fa) (hn : ∀ ds env, fa env = .ok ds → ds.length = n)
    (hdb : (x == ("__debug__" : Str)) = false := by decide) (he : starEach (e :: es) X.env = (false, eval e X.env) :: starEach es X.env := by rfl) (hpl : (backTo pos (starEach es X.env)).any (·.1) = false := by rfl) :
    DE X W (.Call (.Name x p) (e :: es) [] pos) (eB fa m) := by
  obtain ⟨t, pa, s⟩ := ha
  refine ⟨_, pe_callS F hr hg hm hk hb (fun σ => passAt tk σ) pa hdb he hpl, fun F0 H σ env fp Q sat hp => ?_⟩
  refine s.choose sat hp (fun z => z _) fun ds ed k => k _ fun vs F1 H1 sat1 q _ h1 => ?_
  refine ⟨F1, ds, sat1.fh, q, hn ds env ed, ?_⟩
  cases em : m ds with
  | no => rw [em] at h1; exact h1
  | ok r => rw [em] at h1; exact h1
  | ex c => rw [em] at h1; exact h1
theorem aNil_len {ds : List D} {env : Ev} (h : aNil env = .ok ds) : ds.length = 0 := by cases h; rfl
theorem aCons_len {n : Nat} {f : Ev → R D} {g : Ev → R (List D)} (ih : ∀ ds env, g env = .ok ds → ds.length = n) : ∀ ds env, aCons f g env = .ok ds → ds.length = n + 1 := fun ds env h => by
  unfold aCons at h
  cases e1 : f env with
  | no => rw [e1] at h; cases h
  | ex c => rw [e1] at h; cases h
  | ok d =>
    rw [e1] at h
    have h' : (g env).map (fun ds => d :: ds) = .ok ds := h
    cases e2 : g env with
    | no => rw [e2] at h'; cases h'
    | ex c => rw [e2] at h'; cases h'
    | ok es =>
      rw [e2] at h'
      cases h'
      simp [ih es env e2]

/-- the reading that a mirror is -/
def tOf (K : Kw) (Pst : Hp → Hp → L2.St → R α → (β → Hp → Prop) → Prop) (f : Ev → R α) : L2.St → Hp → (β → Hp → Prop) → Prop := fun σ H Q => ∃ F env fp, Sat K F H σ env fp ∧ Pst F H σ (f env) Q
def W0 : WX := fun _ _ _ _ => False
theorem PE.imp {X : Cx} {e : Expr} {t t' : TE} (h : PE X e t) (k : ∀ σ H Q, t' σ H Q → t σ H Q) : PE X e t' := ⟨fun pins s σ H Q I q => h.run pins s σ H Q I (k σ H Q q)⟩
theorem PTs.imp {X : Cx} {e : List Expr} {t t' : TT} (h : PTs X e t) (k : ∀ σ H Q, t' σ H Q → t σ H Q) : PTs X e t' := ⟨fun pins s σ H Q I q => h.run pins s σ H Q I (k σ H Q q)⟩
theorem DE.can {X : Cx} {W : WX} {e : Expr} {f : Ev → R Ow} (h : DE X W e f) : PE X e (tOf X.KK (Post X W (POw X.KK)) f) := by
  obtain ⟨t, p, s⟩ := h
  refine PE.imp p ?_
  rintro σ H Q ⟨F, env, fp, sat, h⟩
  exact s F H σ env fp Q sat h
/-- a clause's tests -/
def DTs (X : Cx) (W : WX) (ifs : List Expr) (f : Ev → R Bool) : Prop := ∃ t, PTs X ifs t ∧ Sm X W PTb t f
def cYes (_ : Ev) : R Bool := .ok true
theorem dts_nil : DTs X W [] cYes := ⟨_, pts_nil, fun F H σ env fp Q sat h => h true F H (.refl sat.fh) rfl⟩
theorem dts_one {f : Ev → R Bool} (h : DT X W e f) : DTs X W [e] f := by
  obtain ⟨t, p, s⟩ := h
  exact ⟨_, pts_one p, s⟩
theorem DTs.can {X : Cx} {W : WX} {e : List Expr} {f : Ev → R Bool} (h : DTs X W e f) : L2.PTs X e (tOf X.KK (Post X W PTb) f) := by
  obtain ⟨t, p, s⟩ := h
  refine PTs.imp p ?_
  rintro σ H Q ⟨F, env, fp, sat, h⟩
  exact s F H σ env fp Q sat h
def wipeE (env : Ev) : List Nat → Ev
  | [] => env
  | v :: vs => (wipeE env vs).set v none
theorem set_none_len {α : Type} {l : List (Option α)} {i : Nat} (h : ¬ i < l.length) (x : Option α) : l.set i x = l := List.set_eq_of_length_le (by omega)
theorem wipe_sat {K : Kw} {F H : Hp} {σ : L2.St} {env : Ev} {fp : List Addr} (sat : Sat K F H σ env fp) : ∀ vs : List Nat, ∃ fp', Sat K F H (wipe σ vs) (wipeE env vs) fp' ∧ ∀ b ∈ fp', b ∈ fp
  | [] => ⟨fp, sat, fun _ z => z⟩
  | v :: vs => by
    obtain ⟨fp1, s1, h1⟩ := wipe_sat sat vs
    by_cases hi : v < (wipeE env vs).length
    · obtain ⟨fr, fo, a1, a2, a3, a3', a4, a5, a6⟩ := s1.en.put hi s1.nd
      have e3 := (a6 F H [] [] (StepS.of_ext (.refl sat.fh) []) fun _ _ => by simp).1 none
      exact ⟨fr, ⟨sat.fh, e3, a3⟩, fun b hb => h1 b (a1 b hb)⟩
    · refine ⟨fp1, ?_, h1⟩
      show Sat K F H ((wipe σ vs).set v none) ((wipeE env vs).set v none) fp1
      rw [set_none_len hi, set_none_len (by rw [s1.en.len]; exact hi)]
      exact s1
theorem wipe_get : ∀ (σ : L2.St) (vs : List Nat) (j : Nat), (wipe σ vs)[j]? = if j ∈ vs then (σ[j]?).map (fun _ => none) else σ[j]?
  | σ, [], j => by simp [wipe]
  | σ, v :: vs, j => by
    show ((wipe σ vs).set v none)[j]? = _
    by_cases hj : v = j
    · subst hj
      by_cases hl : v < (wipe σ vs).length
      · rw [List.getElem?_set_self hl]
        rw [wipe_length] at hl
        simp [List.getElem?_eq_getElem hl]
      · rw [set_none_len hl, wipe_get σ vs v]
        rw [wipe_length] at hl
        have e : σ[v]? = none := List.getElem?_eq_none (by omega)
        simp [e]
    · rw [List.getElem?_set_ne hj, wipe_get σ vs j]
      simp [Ne.symm hj]
theorem wipe_off {σ σ' : L2.St} {ix vs : List Nat} (h : Off ix (wipe σ vs) σ') (hs : ∀ i ∈ ix, i ∈ vs) : wipe σ' vs = wipe σ vs := by
  refine List.ext_getElem? fun j => ?_
  rw [wipe_get σ', wipe_get σ]
  by_cases hj : j ∈ vs
  · rw [if_pos hj, if_pos hj]
    have hl := h.1
    rw [wipe_length] at hl
    by_cases hb : j < σ.length
    · rw [List.getElem?_eq_getElem hb, List.getElem?_eq_getElem (by omega : j < σ'.length)]; rfl
    · rw [List.getElem?_eq_none (by omega), List.getElem?_eq_none (by omega)]
  · rw [if_neg hj, if_neg hj, h.2 j fun z => hj (hs j z), wipe_get σ, if_neg hj]
def noEx {α : Type} : R α → R α
  | .ex _ => .no
  | r => r
@[simp] theorem noEx_ok {α : Type} (a : α) : noEx (.ok a) = .ok a := rfl
def lcR (g : D → Ev → Option Ev) (c : Ev → R Bool) (e : Ev → R Ow) (env : Ev) : List D → R (List Ow)
  | [] => .ok []
  | d :: ds => match g d env with
    | none => .no
    | some env1 => (noEx (c env1)).bind fun b => if b = true then (noEx (e env1)).bind fun r => (lcR g c e env ds).map fun rs => r :: rs else lcR g c e env ds
def eLc (it : Ev → R (List D)) (g : D → Ev → Option Ev) (c : Ev → R Bool) (e : Ev → R Ow) (vs : List Nat) (env : Ev) : R Ow := (it env).bind fun ds => guard (ds.length ≤ sizeLine) ((noEx (lcR g c e (wipeE env vs) ds)).map Ow.l)
theorem OwnAll.snoc {K : Kw} {F H : Hp} {v : V} {r : Ow} {fr : List Addr} : ∀ {os : List Ow} {vs : List V} {fp : List Addr}, OwnAll K F H vs os fp → OwnAt K F H v r fr → fp.Nodup → fr.Nodup → (∀ b ∈ fr, b ∉ fp) → ∃ fp', OwnAll K F H (vs ++ [v]) (os ++ [r]) fp' ∧ fp'.Nodup ∧ ∀ b ∈ fp', b ∈ fp ∨ b ∈ fr
  | [], _, _, h, g, n1, n2, dj => by
    cases h
    exact ⟨fr ++ [], .cons g .nil, by simpa using n2, fun b hb => .inr (by simpa using hb)⟩
  | o :: os, _, _, h, g, n1, n2, dj => by
    cases h with
    | @cons _ _ _ _ f1 fs h1 h2 =>
      rw [List.nodup_append] at n1
      obtain ⟨m1, m2, m3⟩ := n1
      obtain ⟨fp', a, b, c⟩ := OwnAll.snoc h2 g m2 n2 fun b hb z => dj b hb (List.mem_append_right _ z)
      refine ⟨f1 ++ fp', .cons h1 a, ?_, fun x hx => ?_⟩
      · rw [List.nodup_append]
        refine ⟨m1, b, fun x hx y hy e => ?_⟩
        subst e
        rcases c x hy with z | z
        · exact m3 x hx x z rfl
        · exact dj x z (List.mem_append_left _ hx)
      · rcases List.mem_append.mp hx with z | z
        · exact .inl (List.mem_append_left _ z)
        · exact (c x z).imp (List.mem_append_right _) id
theorem de_lc_core {wi : TI} {g : D → Ev → Option Ev} {fi : Ev → R (List D)} {fc : Ev → R Bool} {fe : Ev → R Ow} {ix vs : List Nat} (si : Sm X W (PIt X.KK) wi fi) (hix : ∀ i ∈ ix, i ∈ vs) :
    Sm X W (POw X.KK) (tLc wi (tgOf X.KK ix g) (tOf X.KK (Post X W0 PTb) fc) (tOf X.KK (Post X W0 (POw X.KK)) fe) vs) (eLc fi g fc fe vs) := by
  intro F H σ env fp Q sat hp
  refine si.go sat hp fun items J F1 H1 sat1 wk _ h1 => ?_
  have wk : WalkF X.KK J F1 items := wk
  obtain ⟨hz, h2⟩ := guard_post h1
  intro Dd hD
  have hD1 : F1 Dd = none := free_of sat1.fh hD
  cases el : lcR g fc fe (wipeE env vs) items with
  | no => rw [el] at h2; exact h2.elim
  | ex c => rw [el] at h2; exact h2.elim
  | ok all =>
  rw [el] at h2
  have h2 : ∀ v F' H', Ext F1 H1 F' H' → POw X.KK H1 (.l all) v F' H' → Q v H' := h2
  let Iv : Nat → Hp → Prop := fun i H' => ∃ F' acc accO fa rest, Ext F1 H1 F' H' ∧ F' Dd = none ∧ H' Dd = some (.lst acc) ∧ OwnAll X.KK F' H' acc accO fa ∧ fa.Nodup ∧ Dd ∉ fa ∧ accO.length ≤ i ∧ (∀ b ∈ fa, H1 b = none) ∧ lcR g fc fe (wipeE env vs) (items.drop i) = .ok rest ∧ all = accO ++ rest
  refine ⟨fun i m H' => m = items.length - i ∧ i ≤ items.length ∧ Iv i H', ⟨items.length, by simp, Nat.zero_le _, F1, [], [], [], all, Ext.own sat1.fh hD _, hD1, upd_same, .nil, List.nodup_nil, by simp, Nat.le_refl _, (fun b z => nomatch z), el, rfl⟩, ?_⟩
  rintro i m H' ⟨rfl, hi, F', acc, accO, fa, rest, x, fD, hDd, ow, nd, nD, hl, fr, er, ea⟩
  by_cases hlt : i < items.length
  · refine .inr ⟨wk.go i F' H' hlt x.ff x.fh, Iv (i + 1), fun H2 z => ⟨items.length - (i + 1), by omega, rfl, hlt, z⟩, fun v H3 y => ?_⟩
    obtain ⟨d, F3, e1, x3, dp⟩ := wk.yld i F' H' v H3 hlt x.ff x.fh y
    have ed : items.drop i = d :: items.drop (i + 1) := by
      rw [List.drop_eq_getElem_cons hlt]
      have : items[i] = d := by rw [List.getElem?_eq_getElem hlt] at e1; exact Option.some.inj e1
      rw [this]
    rw [ed] at er
    unfold lcR at er
    cases eg : g d (wipeE env vs) with
    | none => rw [eg] at er; cases er
    | some env1 =>
    rw [eg] at er
    simp only at er
    obtain ⟨fpw, satw, subw⟩ := wipe_sat (sat1.ext (x.trans x3)) vs
    refine ⟨F3, _, fpw, d, env1, satw, dp, eg, fun σ2 fp2 sat2 sub2 off2 => ⟨wipe_off off2 hix, F3, env1, fp2, sat2, ?_⟩⟩
    cases ec : fc env1 with
    | no => rw [ec] at er; cases er
    | ex c => rw [ec] at er; cases er
    | ok b =>
    rw [ec] at er
    simp only [noEx_ok, R.bind_ok] at er
    intro v4 F4 H4 x4 ev4
    obtain rfl : v4 = b := ev4
    have xx4 := x3.trans x4
    cases v4 with
    | false =>
      rw [if_neg Bool.false_ne_true] at er ⊢
      have g1 := x.trans xx4
      refine ⟨F4, acc, accO, fa, rest, g1, ?_, xx4.hh _ _ hDd, ow.ext xx4, nd, nD, Nat.le_succ_of_le hl, fr, er, ea⟩
      cases q : F4 Dd with
      | none => rfl
      | some u =>
        rcases xx4.fn Dd u q with z | z
        · rw [fD] at z; cases z
        · rw [hDd] at z; cases z
    | true =>
      rw [if_pos rfl] at er ⊢
      refine ⟨F4, env1, fp2, sat2.ext x4, ?_⟩
      cases ee : fe env1 with
      | no => rw [ee] at er; cases er
      | ex c => rw [ee] at er; cases er
      | ok r =>
      rw [ee] at er
      simp only [noEx_ok, R.bind_ok] at er
      intro y5 F5 H5 x5 ⟨fr5, ow5, nd5, fresh5⟩
      have xx := xx4.trans x5
      have hD5 : H5 Dd = some (.lst acc) := xx.hh _ _ hDd
      have fD5 : F5 Dd = none := by
        cases q : F5 Dd with
        | none => rfl
        | some u =>
          rcases xx.fn Dd u q with z | z
          · rw [fD] at z; cases z
          · rw [hDd] at z; cases z
      have nD5 : Dd ∉ fr5 := fun z => by
        have := fresh5 Dd z
        rw [xx4.hh _ _ hDd] at this; cases this
      cases er2 : lcR g fc fe (wipeE env vs) (items.drop (i + 1)) with
      | no => rw [er2] at er; cases er
      | ex c => rw [er2] at er; cases er
      | ok rest2 =>
      rw [er2] at er
      cases er
      have la := OwnAll.len ow
      have stp : StepS F5 H5 [Dd] F5 (upd H5 Dd (.lst (acc ++ [y5]))) [] := ⟨Same.refl _, fun b o e n => by rw [upd_ne (fun z => n (by simp [z]))]; exact e, fun b o e => .inl e, fun b z => nomatch z⟩
      obtain ⟨fa', ow', nd', sub'⟩ := OwnAll.snoc (OwnAll.keep stp _ _ _ (ow.ext xx) fun b hb => by simp; exact fun z => nD (z ▸ hb)) (OwnAt.keep stp _ _ _ ow5 fun b hb => by simp; exact fun z => nD5 (z ▸ hb)) nd nd5 fun b hb z => by
        obtain ⟨_, vs', e⟩ := OwnAll.there _ _ _ ow b z
        have := xx4.hh.free (fresh5 b hb)
        rw [e] at this; cases this
      refine ⟨acc, hD5, by omega, F5, acc ++ [y5], accO ++ [r], fa', rest2, ⟨(x.trans xx).ff, fun b o e => ?_, (x.trans xx).fn, fun b o e => ?_⟩, fD5, upd_same, ow', nd', ?_, by simp; omega, fun b hb => ?_, er2, by simp [ea]⟩
      · rw [upd_ne (ne_of_none e hD)]; exact (x.trans xx).hh b o e
      · rw [upd_ne (ne_of_none e fD5)]; exact xx.fh b o e
      · intro z
        rcases sub' _ z with q | q
        · exact nD q
        · exact nD5 q
      · rcases sub' b hb with q | q
        · exact fr b q
        · exact x.hh.free (xx4.hh.free (fresh5 b q))
  · have e : i = items.length := by omega
    subst e
    rw [List.drop_length] at er
    cases er
    refine .inl ⟨wk.stop F' H' x.ff x.fh, h2 _ F' H' x ⟨Dd :: fa, ?_, List.nodup_cons.mpr ⟨nD, nd⟩, fun b hb => ?_⟩⟩
    · rw [ea, List.append_nil]; exact .l fD hDd ow
    · rcases List.mem_cons.mp hb with z | z
      · rw [z]; exact hD
      · exact fr b z
theorem de_lc {elt tg iter : Expr} {ifs : List Expr} {scope : Scope} {own : List (Str × Nat)} {g : D → Ev → Option Ev} {fi : Ev → R (List D)} {fc : Ev → R Bool} {fe : Ev → R Ow} {ix : List Nat} (hc : X.calm = true) (hN : X.N.Nodup) (hi : DI X W tg iter fi) (ok : BlkOk X.N X.env.scope scope own)
    (hg : ∀ (s : Shared) (H : Hp) (C : Addr) (cl : List (Str × Addr)) (fp : List Addr), DG (X.blk s H scope (compEnvC scope cl C X.env) fp) tg ix g) (ht : ∀ (s : Shared) (H : Hp) (C : Addr) (cl : List (Str × Addr)) (fp : List Addr), DTs (X.blk s H scope (compEnvC scope cl C X.env) fp) W0 ifs fc)
    (he : ∀ (s : Shared) (H : Hp) (C : Addr) (cl : List (Str × Addr)) (fp : List Addr), DE (X.blk s H scope (compEnvC scope cl C X.env) fp) W0 elt fe) (hix : ∀ i ∈ ix, i ∈ own.map (·.2) := by decide) (hs : ∀ x, foldedSetIterable iter X.env x = pure x := by intro _; rfl) :
    DE X W (.ListComp elt [⟨tg, iter, ifs, 0⟩] scope pos) (eLc fi g fc fe (own.map (·.2))) := by
  obtain ⟨wi, pi, si⟩ := hi
  exact ⟨_, pe_lc (g := tgOf X.KK ix g) hc hN pi ok (fun s H C cl fp => hg s H C cl fp) (fun s H C cl fp => (ht s H C cl fp).can) (fun s H C cl fp => (he s H C cl fp).can) hs, de_lc_core si hix⟩
end
end Mir
end
set_option Elab.async false
set_option linter.all false
set_option maxRecDepth 100000
set_option maxHeartbeats 4000000
noncomputable section
namespace Mir
open PySem PySem.Spec L2

section
variable {K : Kw} {F H : Hp} {σ : L2.St} {env : Ev} {fp : List Addr}
theorem set_self {σ : L2.St} {i : Nat} {v : V} (h : σ[i]? = some (some v)) : σ.set i (some v) = σ := by
  refine List.ext_getElem? fun j => ?_
  by_cases hj : i = j
  · subst hj
    rw [List.getElem?_set_self (List.getElem?_eq_some_iff.mp h).1]
    exact h.symm
  · rw [List.getElem?_set_ne hj]
theorem mut_step {F H F1 H1 : Hp} {a : Addr} {vs vs' : List V} (x : Ext F H F1 H1) (h : H a = some (.lst vs)) : StepS F H [a] F1 (upd H1 a (.lst vs')) [] :=
  ⟨x.ff, fun b o e n => by rw [upd_ne (fun z => n (by simp [z]))]; exact x.hh b o e, fun b o e => (x.fn b o e).imp id .inr, fun b z => nomatch z⟩
theorem mut_free {F H F1 H1 : Hp} {a : Addr} {vs : List V} (x : Ext F H F1 H1) (hf : F a = none) (h : H a = some (.lst vs)) : F1 a = none := by
  cases q : F1 a with
  | none => rfl
  | some u =>
    rcases x.fn a u q with z | z
    · rw [hf] at z; cases z
    · rw [h] at z; cases z
theorem mut_same {F1 H1 : Hp} {a : Addr} {o : HO} (s : Same F1 H1) (hf : F1 a = none) : Same F1 (upd H1 a o) := fun b u e => by
  rw [upd_ne (ne_of_none e hf)]; exact s b u e
/-- the list in slot i, and what is left when it is changed -/
theorem Sat.mut (sat : Sat K F H σ env fp) {i : Nat} {os : List Ow} (hi : env[i]? = some (some (.l os))) : ∃ a vs fo, σ[i]? = some (some (.ref a)) ∧ F a = none ∧ H a = some (.lst vs) ∧ OwnAll K F H vs os fo ∧ fo.Nodup ∧ a ∉ fo ∧ (∀ b ∈ a :: fo, b ∈ fp) ∧
    ∀ F1 H1 vs' os' fo', Ext F H F1 H1 → OwnAll K F1 (upd H1 a (.lst vs')) vs' os' fo' → fo'.Nodup → (∀ b ∈ fo', b ∈ fo ∨ H b = none) → ∃ fp', StepS F H fp F1 (upd H1 a (.lst vs')) fp' ∧ Sat K F1 (upd H1 a (.lst vs')) σ (env.set i (some (.l os'))) fp' := by
  have hl : i < env.length := (List.getElem?_eq_some_iff.mp hi).1
  obtain ⟨fr, fo0, a1, a2, a3, a3', a4, a5, a6⟩ := sat.en.put hl sat.nd
  obtain ⟨v, e1, e2⟩ := a5 _ hi
  cases e2 with
  | @l a vs _ fo h1 h2 h3 =>
    obtain ⟨nd1, nd2⟩ := List.nodup_cons.mp a3'
    refine ⟨a, vs, fo, e1, h1, h2, h3, nd2, nd1, a2, fun F1 H1 vs' os' fo' x ow nd sub => ?_⟩
    have hf1 := mut_free x h1 h2
    have na' : a ∉ fo' := fun z => by
      rcases sub a z with q | q
      · exact nd1 q
      · rw [h2] at q; cases q
    have fresh : ∀ b, H b = none → b ∉ fr := fun b q z => by
      obtain ⟨_, w, e⟩ := sat.en.there b (a1 b z)
      rw [q] at e; cases e
    obtain ⟨fp', b1, b2, b3⟩ := (a6 F1 (upd H1 a (.lst vs')) [a] [] (mut_step x h2) fun b hb z => a4 b (by rw [List.mem_singleton.mp z]; exact List.mem_cons_self) hb).2 (.ref a) (.l os') (a :: fo') (.l hf1 upd_same ow) (List.nodup_cons.mpr ⟨na', nd⟩) fun b hb z => by
      rcases List.mem_cons.mp hb with q | q
      · subst q; exact a4 b List.mem_cons_self z
      · rcases sub b q with q | q
        · exact a4 b (List.mem_cons_of_mem _ q) z
        · exact fresh b q z
    rw [set_self e1] at b3
    refine ⟨fp', (mut_step x h2).mono (fun b hb => by rw [List.mem_singleton.mp hb]; exact a2 a List.mem_cons_self) |> fun s => ⟨s.ff, s.fr, s.fn, fun b hb => ?_⟩, mut_same x.fh hf1, b3, b1⟩
    rcases b2 b hb with q | q
    · rcases List.mem_cons.mp q with q | q
      · rw [q]; exact .inl (a2 a List.mem_cons_self)
      · rcases sub b q with q | q
        · exact .inl (a2 b (List.mem_cons_of_mem _ q))
        · exact .inr q
    · exact .inl (a1 b q)
/-- the items of an own list, behind a change at the list itself -/
theorem own_mut {F1 H1 : Hp} {a : Addr} {vs vs' : List V} {os : List Ow} {fo : List Addr} (x : Ext F H F1 H1) (h : H a = some (.lst vs)) (ow : OwnAll K F H vs os fo) (na : a ∉ fo) : OwnAll K F1 (upd H1 a (.lst vs')) vs os fo :=
  OwnAll.keep (mut_step x h) _ _ _ ow fun b hb z => na (by rw [← List.mem_singleton.mp z]; exact hb)
theorem own_mut1 {F1 H1 : Hp} {a : Addr} {vs vs' : List V} {v : V} {r : Ow} {fx : List Addr} (s : Same F1 H1) (hf : F1 a = none) (h : H1 a = some (.lst vs)) (ow : OwnAt K F1 H1 v r fx) (na : a ∉ fx) : OwnAt K F1 (upd H1 a (.lst vs')) v r fx :=
  OwnAt.keep (mut_step (.refl s) h) _ _ _ ow fun b hb z => na (by rw [← List.mem_singleton.mp z]; exact hb)
theorem OwnAll.get {F H : Hp} : ∀ {os : List Ow} {vs : List V} {fp : List Addr} {k : Nat} {o : Ow}, OwnAll K F H vs os fp → fp.Nodup → os[k]? = some o → ∃ (v : V) (fo fr : List Addr), vs[k]? = some v ∧ OwnAt K F H v o fo ∧ fo.Nodup ∧ fr.Nodup ∧ (∀ b ∈ fo, b ∈ fp) ∧ (∀ b ∈ fr, b ∈ fp) ∧ (∀ b ∈ fo, b ∉ fr) ∧
    ∀ F' H' fx fy v' o' fn, StepS F H fx F' H' fy → (∀ b ∈ fr, b ∉ fx) → OwnAt K F' H' v' o' fn → fn.Nodup → (∀ b ∈ fn, b ∉ fr) → ∃ fp', OwnAll K F' H' (vs.set k v') (os.set k o') fp' ∧ fp'.Nodup ∧ ∀ b ∈ fp', b ∈ fn ∨ b ∈ fr
  | [], _, _, k, o, h, nd, e => by simp at e
  | x :: os, _, _, 0, o, h, nd, e => by
    cases h with
    | @cons v vs _ _ f1 fs h1 h2 =>
      simp at e; subst e
      obtain ⟨n1, n2, n3⟩ := List.nodup_append.mp nd
      refine ⟨v, f1, fs, rfl, h1, n1, n2, fun b z => List.mem_append_left _ z, fun b z => List.mem_append_right _ z, fun b z q => n3 b z b q rfl, fun F' H' fx fy v' o' fn st dj ow nf df => ?_⟩
      refine ⟨fn ++ fs, .cons ow (OwnAll.keep st _ _ _ h2 dj), ?_, fun b hb => List.mem_append.mp hb⟩
      rw [List.nodup_append]
      exact ⟨nf, n2, fun a ha b hb e => df a ha (e ▸ hb)⟩
  | x :: os, _, _, k + 1, o, h, nd, e => by
    cases h with
    | @cons v vs _ _ f1 fs h1 h2 =>
      obtain ⟨n1, n2, n3⟩ := List.nodup_append.mp nd
      obtain ⟨v0, fo, fr, g1, g2, g3, g4, g5, g6, g7, g8⟩ := OwnAll.get (k := k) h2 n2 (by simpa using e)
      refine ⟨v0, fo, f1 ++ fr, by simpa using g1, g2, g3, ?_, fun b z => List.mem_append_right _ (g5 b z), fun b z => ?_, fun b z q => ?_, fun F' H' fx fy v' o' fn st dj ow nf df => ?_⟩
      · rw [List.nodup_append]; exact ⟨n1, g4, fun a ha b hb e => n3 a ha b (g6 b hb) e⟩
      · exact (List.mem_append.mp z).elim (List.mem_append_left _) fun z => List.mem_append_right _ (g6 b z)
      · rcases List.mem_append.mp q with q | q
        · exact n3 b q b (g5 b z) rfl
        · exact g7 b z q
      · obtain ⟨fp', c1, c2, c3⟩ := g8 F' H' fx fy v' o' fn st (fun b hb => dj b (List.mem_append_right _ hb)) ow nf fun b hb z => df b hb (List.mem_append_right _ z)
        refine ⟨f1 ++ fp', .cons (OwnAt.keep st _ _ _ h1 fun b hb => dj b (List.mem_append_left _ hb)) c1, ?_, fun b hb => ?_⟩
        · rw [List.nodup_append]
          refine ⟨n1, c2, fun a ha b hb e => ?_⟩
          subst e
          rcases c3 a hb with z | z
          · exact df a z (List.mem_append_left _ ha)
          · exact n3 a ha a (g6 a z) rfl
        · rcases List.mem_append.mp hb with z | z
          · exact .inr (List.mem_append_left _ z)
          · exact (c3 b z).imp id (List.mem_append_right _)
end
section
variable {X : Cx} {W : WX} {S : Nat → Bool} {e e1 e2 : Expr} {pos cpos apos npos : Pos} {x : Str}
def ownL (i : Nat) (env : Ev) (k : List Ow → SR) : SR := match env[i]? with
  | some (some (.l os)) => k os
  | _ => .no
theorem ownL_post {σ : L2.St} {F H : Hp} {fp : List Addr} {D : Ends} {i : Nat} {env : Ev} {k : List Ow → SR} (h : PostS X W S σ F H fp D (ownL i env k)) : ∃ os, env[i]? = some (some (.l os)) ∧ PostS X W S σ F H fp D (k os) := by
  unfold ownL at h
  split at h
  · exact ⟨_, ‹_›, h⟩
  · exact h.elim
/-- x.append(e) -/
def sApp (i : Nat) (f : Ev → R Ow) (env : Ev) : SR := ownL i env fun os => (f env).st env fun r => if os.length < sizeLine then .nx (env.set i (some (.l (os ++ [r])))) else .no
theorem ds_app {f : Ev → R Ow} (i : Nat) (he : DE X W e f) (hN : X.N[i]? = some x := by rfl) (hv : Vis X.env.scope x := by first | exact Or.inl rfl | exact Or.inr (Or.inl rfl) | exact Or.inr (Or.inr rfl)) (hd : (x == ("__debug__" : Str)) = false := by decide) (hcd : (x == ("__classdict__" : Str)) = false := by decide)
    (hbase : attributeBase (.Name x npos) "append" X.env (eval (.Name x npos) X.env) = eval (.Name x npos) X.env := by rfl)
    (hfew : ((backTo cpos (starEach [e] X.env)).all (fun x => !x.1) && (backToKw cpos (keywordEach [] X.env)).all (fun x => x.1.isSome) && decide ([e].length + ([] : List Keyword).length + (if ([] : List Keyword).isEmpty then 0 else 1) < 30)) = true := by rfl)
    (hline : (apos.endLine == cpos.line) = true := by rfl) (hs : starEach [e] X.env = (false, eval e X.env) :: starEach [] X.env := by rfl) (hplain : (backTo cpos (starEach [] X.env)).any (·.1) = false := by rfl)
    (hsw : swapsWith (.Call (.Attribute (.Name x npos) "append" apos) [e] [] cpos) none pos.line X.env = pure false := by rfl) : DS X W S (.Expr (.Call (.Attribute (.Name x npos) "append" apos) [e] [] cpos) pos) (sApp i f) := by
  obtain ⟨t, p, s⟩ := he
  refine ⟨_, ps_expr (pe_bm PySem.F.plainAttrs_list PySem.F.slot_list_append PySem.F.type_list_append mt_append (pe_var hN hv hd hcd) (pa_cons p pa_nil hs) hbase hfew hline hs hplain) hsw, fun F H σ env fp D sat h => ?_⟩
  obtain ⟨os, eo, h⟩ := ownL_post h
  obtain ⟨a, vs, fo, c1, c0, c2, c3, c4, c5, c6, c7⟩ := sat.mut eo
  refine ⟨.ref a, c1, .inl ⟨rfl, vs, SqL.of c2⟩, ?_⟩
  refine s F H σ env fp _ sat ?_
  cases ef : f env with
  | no => rw [ef] at h; exact h
  | ex c => rw [ef] at h; exact fun C F' H' m x => h C σ F' H' fp m (.refl _ _) (StepS.of_ext x fp) (sat.ext x)
  | ok r =>
    rw [ef] at h
    intro v F1 H1 x1 ⟨fx, ow, nx, fr⟩
    have h2 : PostS X W S σ F H fp D (if os.length < sizeLine then .nx (env.set i (some (.l (os ++ [r])))) else .no) := h
    split at h2
    · have la := OwnAll.len c3
      have hb := x1.hh _ _ c2
      obtain ⟨fo', g1, g2, g3⟩ := OwnAll.snoc (own_mut (vs' := vs ++ [v]) x1 c2 c3 c5) (own_mut1 x1.fh (mut_free x1 c0 c2) hb ow fun z => by rw [fr a z] at c2; cases c2) c4 nx fun b hb z => by
        obtain ⟨_, w, e⟩ := OwnAll.there _ _ _ c3 b z
        rw [fr b hb] at e; cases e
      obtain ⟨fp', st, sat'⟩ := c7 F1 H1 (vs ++ [v]) (os ++ [r]) fo' x1 g1 g2 fun b hb => (g3 b hb).imp id (fr b)
      exact ⟨a, vs, v, rfl, rfl, hb, by omega, h2 σ F1 _ fp' (.refl _ _) st sat'⟩
    · exact h2.elim
/-- x.extend(e) -/
theorem list_extW (l b : Addr) (its jts : Array Value) (n n2 : Nat) (dd2 : Option Addr) (sl2 : Array (Option Value)) (h0 : ¬(!its.isEmpty && Builtin.List.listTooLong (its.size + jts.size)) = true) (h1 : its.size ≤ sizeLine) (h2 : its.size + jts.size ≤ sizeLine + 1) :
    Meets (Builtin.«list.extend» ⟨[.ref l, .ref b], []⟩) (fun _ R s => s.heap.get? l = some { cls := .type "list", data := .seq its n } ∧ s.heap.get? b = some { cls := .type "list", dict := dd2, data := .seq jts n2, slots := sl2 } ∧ R (.ok (.ret Value.none)) { s with heap := s.heap.update l (Obj.mapSeq fun x => x ++ jts), toks := s.toks }) :=
  .of_wp fun prog w A R s h => by
    obtain ⟨hp, g, d, tk, os⟩ := s; obtain ⟨hl, hb, h⟩ := h; have f1 := AutoSeq1.idx_int; have f2 := AutoSeq1.sub_tuple_tuple; have f3 := AutoSeq1.sub_list_list; have f4 := AutoSeq1.sub_tuple_list; have f5 := AutoSeq1.sub_list_tuple; have hz' : (its ++ jts).size ≤ sizeLine + 1 := by rw [Array.size_append]; exact h2
    wp_walk using (wpAny_updateSeq hl rfl (hz := h1) (_hz' := hz')), wpAny_loadPart' hl, wpAny_loadPart' hb; exact ⟨_, rfl, h⟩
def rExtA (K : Kw) : V → List V → Hp → VK → Prop := fun x vs H Q => ∃ l b xs zs, x = .ref l ∧ vs = [.ref b] ∧ H l = some (.lst xs) ∧ SqL K H b zs ∧ xs.length + zs.length ≤ sizeLine ∧ Q .non (upd H l (.lst (xs ++ zs)))
theorem mt_extA : MtR X "list.extend" (rExtA X.KK) := by
  intro pins s σ H x vs v us Q I rx rv h
  obtain ⟨l, b, xs, zs, rfl, rfl, hH, hB, hz, q⟩ := h
  cases rx
  obtain ⟨u, rfl, ru⟩ := rv.one
  cases ru
  obtain ⟨z, its, n, r, hl, e⟩ := I.lstM hH
  obtain ⟨jts, r2, pl2, hl2⟩ := I.list hB
  obtain ⟨⟨c2, d2, t2, s2⟩, g2, k2, n2, m2⟩ := pl2.isList
  simp only at k2 m2
  subst k2 m2
  have lz := r2.length
  have hsz : its.toArray.size + jts.toArray.size ≤ sizeLine := by rw [List.size_toArray, List.size_toArray]; omega
  have hlong : ¬ (!its.toArray.isEmpty && Builtin.List.listTooLong (its.toArray.size + jts.toArray.size)) = true := by rw [notLongL hsz, Bool.and_false]; exact Bool.false_ne_true
  refine call_meets F.slot_list_extend ⟨_, e, rfl⟩ F.entry_list_extend (F.args_list_extend_2 _ _) (list_extW l b its.toArray jts.toArray n n2 d2 s2 hlong (by rw [List.size_toArray]; omega) (by omega)) ⟨e, g2, ?_⟩
  refine ⟨.non, _, I.lset (its' := its ++ jts) hH e (by simp) (r.append r2) ?_, rfl, q⟩
  rw [List.length_append]; omega
def asL : D → R (List D)
  | .list ds => .ok ds
  | _ => .no
@[simp] theorem asL_list (ds : List D) : asL (.list ds) = .ok ds := rfl
theorem OwnAll.app_d {K : Kw} {F H : Hp} {ws : List V} {es : List D} : ∀ {os : List Ow} {vs : List V} {fp : List Addr}, OwnAll K F H vs os fp → DpAll K F ws es → OwnAll K F H (vs ++ ws) (os ++ es.map Ow.d) fp
  | [], _, _, h, g => by cases h; exact OwnAll.of_dp g
  | o :: os, _, _, h, g => by
    cases h with
    | cons h1 h2 => exact .cons h1 (OwnAll.app_d h2 g)
def sExt (i : Nat) (f : Ev → R D) (env : Ev) : SR := ownL i env fun os => (f env).st env fun d => (asL d).st env fun ds => if os.length + ds.length ≤ sizeLine then .nx (env.set i (some (.l (os ++ ds.map Ow.d)))) else .no
theorem ds_ext {f : Ev → R D} (i : Nat) (he : DL X W e f) (hN : X.N[i]? = some x := by rfl) (hv : Vis X.env.scope x := by first | exact Or.inl rfl | exact Or.inr (Or.inl rfl) | exact Or.inr (Or.inr rfl)) (hd : (x == ("__debug__" : Str)) = false := by decide) (hcd : (x == ("__classdict__" : Str)) = false := by decide)
    (hbase : attributeBase (.Name x npos) "extend" X.env (eval (.Name x npos) X.env) = eval (.Name x npos) X.env := by rfl)
    (hfew : ((backTo cpos (starEach [e] X.env)).all (fun x => !x.1) && (backToKw cpos (keywordEach [] X.env)).all (fun x => x.1.isSome) && decide ([e].length + ([] : List Keyword).length + (if ([] : List Keyword).isEmpty then 0 else 1) < 30)) = true := by rfl)
    (hline : (apos.endLine == cpos.line) = true := by rfl) (hs : starEach [e] X.env = (false, eval e X.env) :: starEach [] X.env := by rfl) (hplain : (backTo cpos (starEach [] X.env)).any (·.1) = false := by rfl)
    (hsw : swapsWith (.Call (.Attribute (.Name x npos) "extend" apos) [e] [] cpos) none pos.line X.env = pure false := by rfl) : DS X W S (.Expr (.Call (.Attribute (.Name x npos) "extend" apos) [e] [] cpos) pos) (sExt i f) := by
  obtain ⟨t, p, s⟩ := he
  refine ⟨_, ps_expr (pe_bm PySem.F.plainAttrs_list PySem.F.slot_list_extend PySem.F.type_list_extend mt_extA (pe_var hN hv hd hcd) (pa_cons p pa_nil hs) hbase hfew hline hs hplain) hsw, fun F H σ env fp D sat h => ?_⟩
  obtain ⟨os, eo, h⟩ := ownL_post h
  obtain ⟨a, vs, fo, c1, c0, c2, c3, c4, c5, c6, c7⟩ := sat.mut eo
  refine ⟨.ref a, c1, .inl ⟨rfl, vs, SqL.of c2⟩, ?_⟩
  refine s F H σ env fp _ sat ?_
  cases ef : f env with
  | no => rw [ef] at h; exact h
  | ex c => rw [ef] at h; exact fun C F' H' m x => h C σ F' H' fp m (.refl _ _) (StepS.of_ext x fp) (sat.ext x)
  | ok d =>
    rw [ef] at h
    intro v F1 H1 x1 q
    have h1 : PostS X W S σ F H fp D ((asL d).st env fun ds => if os.length + ds.length ≤ sizeLine then .nx (env.set i (some (.l (os ++ ds.map Ow.d)))) else .no) := h
    cases d with
    | list ds =>
      have h2 : PostS X W S σ F H fp D (if os.length + ds.length ≤ sizeLine then .nx (env.set i (some (.l (os ++ ds.map Ow.d)))) else .no) := h1
      split at h2
      · obtain ⟨b, ws, rfl, q1, q2⟩ := q
        have la := OwnAll.len c3
        have lb := DpAll.len q2
        obtain ⟨fp', st, sat'⟩ := c7 F1 H1 (vs ++ ws) (os ++ ds.map Ow.d) fo x1 (OwnAll.app_d (own_mut (vs' := vs ++ ws) x1 c2 c3 c5) q2) c4 fun b hb => .inl hb
        exact ⟨a, b, vs, ws, rfl, rfl, x1.hh _ _ c2, q1, by omega, h2 σ F1 _ fp' (.refl _ _) st sat'⟩
      · exact h2.elim
    | _ => exact h1.elim
/-- x[k] = e -/
def putAt (i : Nat) (env : Ev) (os : List Ow) (r : Ow) : D → SR
  | .int k => match ixN os.length k with
    | some j => .nx (env.set i (some (.l (os.set j r))))
    | none => .no
  | _ => .no
def sPut (i : Nat) (f : Ev → R Ow) (g : Ev → R D) (env : Ev) : SR := (f env).st env fun r => ownL i env fun os => (g env).st env (putAt i env os r)
theorem OwnAll.set {K : Kw} {F H : Hp} {os : List Ow} {vs : List V} {fp : List Addr} {j : Nat} {v : V} {r : Ow} {fx : List Addr} (s : Same F H) (h : OwnAll K F H vs os fp) (nd : fp.Nodup) (hj : j < os.length) (ow : OwnAt K F H v r fx) (nx : fx.Nodup) (dj : ∀ b ∈ fx, b ∉ fp) :
    ∃ fp', OwnAll K F H (vs.set j v) (os.set j r) fp' ∧ fp'.Nodup ∧ ∀ b ∈ fp', b ∈ fp ∨ b ∈ fx := by
  obtain ⟨v0, fo, fr, g1, g2, g3, g4, g5, g6, g7, g8⟩ := OwnAll.get (k := j) h nd (List.getElem?_eq_getElem hj)
  obtain ⟨fp', a, b, c⟩ := g8 F H [] [] v r fx (StepS.of_ext (.refl s) []) (fun _ _ => by simp) ow nx fun b hb z => dj b hb (g6 b z)
  exact ⟨fp', a, b, fun b hb => (c b hb).elim .inr fun z => .inl (g6 b z)⟩
theorem pg_subV {i : Nat} {ti : TE} {k : Expr} {tpos : Pos} (hk : PE X k ti) (hN : X.N[i]? = some x) (hv : Vis X.env.scope x) (hd : (x == ("__debug__" : Str)) = false) (hcd : (x == ("__classdict__" : Str)) = false)
    (ha : ∀ v, assign (.Subscript (.Name x npos) k tpos) X.env v = (do
      let ov ← holding [v] (eval (.Name x npos) X.env)
      let iv ← holding [v, ov] (eval k X.env)
      standAt tpos
      holding [v, ov, iv] (setItem ov iv v)
      release [v, ov, iv] [])) : PG X (.Subscript (.Name x npos) k tpos) (L2.gSub (tVar i) ti rSetL) := pg_sub (pe_var hN hv hd hcd) hk set_list ha
theorem ds_put {f : Ev → R Ow} {g : Ev → R D} {k : Expr} {tpos : Pos} (i : Nat) (he : DE X W e f) (hk : DF X W k g) (hN : X.N[i]? = some x := by rfl) (hv : Vis X.env.scope x := by first | exact Or.inl rfl | exact Or.inr (Or.inl rfl) | exact Or.inr (Or.inr rfl)) (hd : (x == ("__debug__" : Str)) = false := by decide) (hcd : (x == ("__classdict__" : Str)) = false := by decide)
    (ha : ∀ v, assign (.Subscript (.Name x npos) k tpos) X.env v = (do
      let ov ← holding [v] (eval (.Name x npos) X.env)
      let iv ← holding [v, ov] (eval k X.env)
      standAt tpos
      holding [v, ov, iv] (setItem ov iv v)
      release [v, ov, iv] []) := by intro _; rfl)
    (hs : swapsWithSole [.Subscript (.Name x npos) k tpos] e pos.line X.env = pure false := by rfl) (hw : swappedStores [.Subscript (.Name x npos) k tpos] e X.env = pure none := by rfl)
    (h1 : (assignEach [.Subscript (.Name x npos) k tpos] X.env).map (·.2) = [assign (.Subscript (.Name x npos) k tpos) X.env] := by rfl) : DS X W S (.Assign [.Subscript (.Name x npos) k tpos] e pos) (sPut i f g) := by
  obtain ⟨t, p, s⟩ := he
  obtain ⟨t', p', s'⟩ := hk
  refine ⟨_, ps_asg p (pg_subV p' hN hv hd hcd ha) hs hw h1, fun F H σ env fp D sat h => ?_⟩
  refine s F H σ env fp _ sat ?_
  unfold sPut at h
  cases ef : f env with
  | no => rw [ef] at h; exact h
  | ex c => rw [ef] at h; exact fun C F' H' m x => h C σ F' H' fp m (.refl _ _) (StepS.of_ext x fp) (sat.ext x)
  | ok r =>
    rw [ef] at h
    intro v F1 H1 x1 ⟨fx, ow, nx, fr⟩
    have h1 : PostS X W S σ F H fp D (ownL i env fun os => (g env).st env (putAt i env os r)) := h
    obtain ⟨os, eo, h2⟩ := ownL_post h1
    obtain ⟨a, vs, fo, c1, c0, c2, c3, c4, c5, c6, c7⟩ := sat.mut eo
    refine ⟨.ref a, c1, ?_⟩
    refine s' F1 H1 σ env fp _ (sat.ext x1) ?_
    cases eg : g env with
    | no => rw [eg] at h2; exact h2.elim
    | ex c => rw [eg] at h2; exact fun C F' H' m x => h2 C σ F' H' fp m (.refl _ _) (StepS.of_ext (x1.trans x) fp) (sat.ext (x1.trans x))
    | ok d =>
      rw [eg] at h2
      have h2 : PostS X W S σ F H fp D (putAt i env os r d) := h2
      intro w F2 H2 x2 q
      have x := x1.trans x2
      cases d with
      | int k =>
        cases hj : ixN os.length k with
        | none => unfold putAt at h2; simp only at h2; rw [hj] at h2; exact h2.elim
        | some j =>
          unfold putAt at h2; simp only at h2; rw [hj] at h2
          cases dp_int q
          have la := OwnAll.len c3
          have hb := x.hh _ _ c2
          have hjl : j < os.length := (ixN_seq hj).2.1
          have f2 := mut_free x c0 c2
          have na : a ∉ fx := fun z => by rw [fr a z] at c2; cases c2
          obtain ⟨fo', g1, g2, g3⟩ := OwnAll.set (j := j) (mut_same x.fh f2) (own_mut (vs' := vs.set j v) x c2 c3 c5) c4 hjl (own_mut1 (vs' := vs.set j v) x.fh f2 hb (ow.ext x2) na) nx fun b hb z => by
            obtain ⟨_, w, e⟩ := OwnAll.there _ _ _ c3 b z
            rw [fr b hb] at e; cases e
          obtain ⟨fp', st, sat'⟩ := c7 F2 H2 (vs.set j v) (os.set j r) fo' x g1 g2 fun b hb => (g3 b hb).imp id (fr b)
          exact ⟨a, vs, k, j, rfl, rfl, hb, by rw [la]; exact hj, h2 σ F2 _ fp' (.refl _ _) st sat'⟩
      | _ => exact h2.elim
end
end Mir
end
set_option Elab.async false
set_option linter.all false
set_option maxRecDepth 100000
set_option maxHeartbeats 4000000
noncomputable section
namespace Mir
open PySem PySem.Spec L2

def PAs (K : Kw) (_ : Hp) (r : Ow) (v : V) (F' H' : Hp) : Prop := ∃ fp, OwnAt K F' H' v r fp
instance {K : Kw} : Anti (PAs K) := ⟨fun _ h => h⟩
def DP (X : Cx) (W : WX) (e : Expr) (f : Ev → R Ow) : Prop := ∃ t, PE X e t ∧ Sm X W (PAs X.KK) t f
section
variable {X : Cx} {W : WX} {S : Nat → Bool} {e a b : Expr} {pos cpos apos npos : Pos} {x : Str}
theorem dp_var (i : Nat) {x : Str} (hN : X.N[i]? = some x := by rfl) (hv : Vis X.env.scope x := by first | exact Or.inl rfl | exact Or.inr (Or.inl rfl) | exact Or.inr (Or.inr rfl)) (hd : (x == ("__debug__" : Str)) = false := by decide)
    (hcd : (x == ("__classdict__" : Str)) = false := by decide) : DP X W (.Name x pos) (eVarO i) := by
  refine ⟨_, pe_var hN hv hd hcd, fun F H σ env fp Q sat h => ?_⟩
  have h' : Post X W (PAs X.KK) F H σ ((eVarO i env).bind fun o => .ok o) Q := by
    cases e : eVarO i env <;> rw [e] at h <;> exact h
  obtain ⟨o, he, _, h2⟩ := eVarO_ok h'
  obtain ⟨v, fo, h1, h3, _⟩ := sat.en.get he
  exact ⟨v, h1, h2 v F H (.refl sat.fh) ⟨fo, h3⟩⟩
def ixO : Ow → D → R Ow
  | .l os, .int k => match atI os k with
    | some o => .ok o
    | none => .no
  | _, _ => .no
def eIxO (f : Ev → R Ow) (g : Ev → R D) (env : Ev) : R Ow := (f env).bind fun o => (g env).bind fun d => ixO o d
theorem OwnAll.at {K : Kw} {F H : Hp} {os : List Ow} {vs : List V} {fp : List Addr} {k : Int} {o : Ow} (h : OwnAll K F H vs os fp) (e : atI os k = some o) : ∃ v fo, atI vs k = some v ∧ OwnAt K F H v o fo := by
  have hl := OwnAll.len h
  unfold atI at e ⊢
  rw [hl]
  cases hj : ixN os.length k with
  | none => rw [hj] at e; cases e
  | some j =>
    rw [hj] at e
    have e : os[j]? = some o := e
    have : ∀ {os : List Ow} {vs : List V} {fp : List Addr} {j : Nat}, OwnAll K F H vs os fp → os[j]? = some o → ∃ v fo, vs[j]? = some v ∧ OwnAt K F H v o fo := by
      intro os
      induction os with
      | nil => intro vs fp j h e; simp at e
      | cons q os ih =>
        intro vs fp j h e
        cases h with
        | cons h1 h2 =>
          cases j with
          | zero => simp at e; subst e; exact ⟨_, _, rfl, h1⟩
          | succ j =>
            obtain ⟨v, fo, a, b⟩ := ih h2 (by simpa using e)
            exact ⟨v, fo, by simpa using a, b⟩
    exact this h e
theorem dl_dp {f : Ev → R Ow} (h : DP X W e f) : DL X W e (eB f shD) := by
  obtain ⟨t, p, s⟩ := h
  refine ⟨t, p, fun F H σ env fp Q sat h => s F H σ env fp Q sat (Post.thru h fun d _ h' v F' H' x ⟨fp, q⟩ => ?_)⟩
  obtain ⟨r, e2⟩ := shD_ok h'
  rw [e2] at h'
  exact h' v F' H' x (own_seq x.fh q e2)
theorem dv_dp {f : Ev → R Ow} (h : DP X W e f) : DV X W e (eM f viewD) := by
  obtain ⟨t, p, s⟩ := h
  refine ⟨t, p, Sm.map s fun H o v F' H' sm ⟨fp, q⟩ => ⟨viewD o, rfl, OwnAt.view sm o v fp q⟩⟩

def repO : Ow → D → R Ow
  | .l os, .int k => match unDs os with
    | some ds => guard (-(2 ^ 63) ≤ k ∧ k < 2 ^ 63 ∧ os.length * k.toNat ≤ sizeLine) (.ok (.l ((List.replicate k.toNat ds).flatten.map Ow.d)))
    | none => .no
  | _, _ => .no
def eRep (f : Ev → R Ow) (g : Ev → R D) (env : Ev) : R Ow := (f env).bind fun o => (g env).bind fun d => repO o d
def eAug (h : D → D → Option D) (i : Nat) (f : Ev → R D) (env : Ev) : R D := (eVar i env).bind fun x => (f env).bind fun y => R.of (h x y)
def sAug (h : D → D → Option D) (i : Nat) (f : Ev → R D) (env : Ev) : SR := (eAug h i f env).st env fun d => if i < env.length then .nx (env.set i (some (.d d))) else .no
theorem ds_aug {f : Ev → R D} {g : D → D → Option D} {op : Operator} {r : R2} (i : Nat) (ho : OpR X (inplaceOp op) r) (hs : OpS X.KK r g) (hN : X.N.Nodup) (he : DV X W e f) (hi : X.N[i]? = some x := by rfl) (hx : Loc X.env.scope x := by first | exact Or.inl rfl | exact Or.inr rfl)
    (hf : X.fn x = true ∨ X.env.scope.names.lookup x = some .local := by first | exact .inl rfl | exact .inr rfl | assumption) (hS : S i = true := by rfl) : DS X W S (.AugAssign (.Name x npos) op e pos) (sAug g i f) := by
  obtain ⟨t, p, s⟩ := he
  refine ⟨_, ps_aug hN hi hx p ho hf, fun F H σ env fp D sat h => ?_⟩
  unfold sAug eAug at h
  cases e1 : eVar i env with
  | no => rw [e1] at h; exact h.elim
  | ex c => exact absurd e1 (by unfold eVar; split <;> intro z <;> cases z)
  | ok dx =>
    rw [e1] at h
    have e2 : env[i]? = some (some (.d dx)) := by
      unfold eVar at e1
      split at e1
      · rename_i d he; cases e1; exact he
      · cases e1
    obtain ⟨v, fo, h1, h2, _⟩ := sat.en.get e2
    refine ⟨v, h1, ?_⟩
    refine s F H σ env fp _ sat ?_
    cases ef : f env with
    | no => rw [ef] at h; exact h
    | ex c => rw [ef] at h; exact fun C F' H' m x => h C σ F' H' fp m (.refl _ _) (StepS.of_ext x fp) (sat.ext x)
    | ok dy =>
      rw [ef] at h
      have h : PostS X W S σ F H fp D ((R.of (g dx dy)).st env fun d => if i < env.length then .nx (env.set i (some (.d d))) else .no) := h
      intro u F1 H1 x1 q
      cases eg : g dx dy with
      | none => rw [eg] at h; exact h.elim
      | some dz =>
        rw [eg] at h
        have h : PostS X W S σ F H fp D (if i < env.length then .nx (env.set i (some (.d dz))) else .no) := h
        split at h
        · cases h2 with
          | d hd =>
            refine hs H1 v u dx dy dz _ (dpUp (dpUp hd x1.ff) x1.fh) q eg fun z q2 => ?_
            obtain ⟨fp', s1, s2⟩ := put_step sat x1 (.d (q2 F1)) List.nodup_nil (fun _ z => nomatch z) ‹_›
            exact h _ F1 H1 fp' (.set hS _) s1 s2
        · exact h.elim
end
end Mir
end
set_option Elab.async false
set_option linter.all false
set_option maxRecDepth 100000
set_option maxHeartbeats 4000000
noncomputable section
namespace Mir
open PySem PySem.Spec L2

section
variable {K : Kw} {F H : Hp} {σ : L2.St} {env : Ev} {fp : List Addr}
end
section
variable {X : Cx} {W : WX} {S : Nat → Bool} {e k : Expr} {pos cpos apos npos tpos : Pos} {x : Str}
theorem ds_setLc {elt tg iter : Expr} {ifs : List Expr} {scope : Scope} {own : List (Str × Nat)} {g : D → Ev → Option Ev} {fi : Ev → R (List D)} {fc : Ev → R Bool} {fe : Ev → R Ow} {ix : List Nat} {y : Str} {py spos : Pos} (i : Nat) (hc : X.calm = true) (hN : X.N.Nodup) (hi : DI X W tg iter fi) (ok : BlkOk X.N X.env.scope scope own)
    (hg : ∀ (s : Shared) (H : Hp) (C : Addr) (cl : List (Str × Addr)) (fp : List Addr), DG (X.blk s H scope (compEnvC scope cl C X.env) fp) tg ix g) (ht : ∀ (s : Shared) (H : Hp) (C : Addr) (cl : List (Str × Addr)) (fp : List Addr), DTs (X.blk s H scope (compEnvC scope cl C X.env) fp) W0 ifs fc)
    (he : ∀ (s : Shared) (H : Hp) (C : Addr) (cl : List (Str × Addr)) (fp : List Addr), DE (X.blk s H scope (compEnvC scope cl C X.env) fp) W0 elt fe) (hix : ∀ i ∈ ix, i ∈ own.map (·.2) := by decide) (hs : ∀ x, foldedSetIterable iter X.env x = pure x := by intro _; rfl)
    (hy : X.N[i]? = some y := by rfl) (hyl : X.env.scope.names.lookup y = some .local := by rfl) (hsw : swapsWith (.ListComp elt [⟨tg, iter, ifs, 0⟩] scope pos) (some (.Name y py)) spos.line X.env = pure true := by exact sw_true rfl rfl rfl (by decide +kernel)) (hS : S i = true := by rfl) :
    DS X W S (.Assign [.Name y py] (.ListComp elt [⟨tg, iter, ifs, 0⟩] scope pos) spos) (sSet i (eLc fi g fc fe (own.map (·.2)))) := by
  obtain ⟨wi, pi, si⟩ := hi
  refine ⟨_, ps_setLc (g := tgOf X.KK ix g) (tt := tOf X.KK (Post X W0 PTb) fc) (te := tOf X.KK (Post X W0 (POw X.KK)) fe) hc hN hy hyl hsw pi ok (fun s H C cl fp => hg s H C cl fp) (fun s H C cl fp => (ht s H C cl fp).can) (fun s H C cl fp => (he s H C cl fp).can) hs, fun F H σ env fp D sat h => ?_⟩
  refine de_lc_core si hix F H σ env fp _ sat ?_
  unfold sSet at h
  cases e : eLc fi g fc fe (own.map (·.2)) env with
  | no => rw [e] at h; exact h
  | ex c => rw [e] at h; exact fun C F' H' m x => h C σ F' H' fp m (.refl _ _) (StepS.of_ext x fp) (sat.ext x)
  | ok r =>
    rw [e] at h
    intro v F' H' x ⟨fx, q, nd, n⟩
    have h' : PostS X W S σ F H fp D (if i < env.length then .nx (env.set i (some r)) else .no) := h
    split at h'
    · obtain ⟨fp', s1, s2⟩ := put_step sat x q nd n ‹_›
      exact h' _ F' H' fp' (.set hS _) s1 s2
    · exact h'.elim
end
end Mir
end
set_option Elab.async false
set_option linter.all false
set_option maxRecDepth 100000
set_option maxHeartbeats 4000000
noncomputable section
namespace Mir
open PySem PySem.Spec PySem.W PySem.Calls PyProof.Rows PySem.SeqAt

section
variable {prog : Program} {w : World} {A : Around} {E : Value → Shared → Prop} {s : Shared}
theorem call_tuple_lt {Q : Value → Shared → Prop} {l b : Addr} {items items2 : Array Value} {e r : Nat → Bool} (hl : s.heap.IsTuple l items) (hb : s.heap.IsTuple b items2)
    (he : ∀ j (h1 : j < items.size) (h2 : j < items2.size), SeqAt.EqAt A.in1 s items[j] items2[j] (e j)) (hr : ∀ j (h1 : j < items.size) (h2 : j < items2.size), e j = false → RcLt A.in1 s items[j] items2[j] (r j))
    (h : Q (.bool (firstLt e r (decide (items.size < items2.size)) (List.range (min items.size items2.size)))) s) : wpAny (model prog w) A (call (.builtin "tuple.__lt__") [.ref l, .ref b]) Q E s := by
  obtain ⟨⟨cls, dd, data, sl⟩, ho, hc, n, hd⟩ := id hl
  obtain ⟨⟨cls2, dd2, data2, sl2⟩, ho2, hc2, n2, hd2⟩ := id hb
  simp only at hc hd hc2 hd2
  subst hc hd hc2 hd2
  exact call_meets F.slot_tuple_lt ⟨_, ho, rfl⟩ F.entry_tuple_lt (F.args_tuple_lt_2 _ _) (tuple_ltAt l b items items2 n n2 dd dd2 sl sl2 e r)
    ⟨ho, ho2, he, hr, h⟩
theorem oneLt_tuples {xs ys : List PyData} {a b : Value} {as bs : List Addr} {Q : Bool → Shared → Prop} (ra : Reads s.heap a (.tuple xs) as) (rb : Reads s.heap b (.tuple ys) bs) (hal : alikeAll xs ys = true)
    (hu : A.units + min (PyData.tuple xs).depth (PyData.tuple ys).depth < cLine) (hq : Q (dataLt (.tuple xs) (.tuple ys)) s) : wpAny (model prog w) A (oneLt' true a b) Q E s := by
  cases ra with
  | @tuple l o vs n _ as₁ h1 h2 h3 h4 =>
    cases rb with
    | @tuple l' o' vs' n' _ bs₁ k1 k2 k3 k4 =>
      have n1 : vs.size = xs.length := by simpa using SeqAt.ReadsAll.length _ _ _ h4
      have n2 : vs'.size = ys.length := by simpa using SeqAt.ReadsAll.length _ _ _ k4
      rw [dataLt_tuple, ← firstLt_toks xs ys hal, ← n1, ← n2] at hq
      rw [oneLt'_eq]
      simp only [if_true]
      refine wpAny_bind (wpAny_cRoomFor (SeqAt.room_here hu) ?_)
      refine wpAny_bind (wpAny_callSpecialIfBound?_slot (T := "tuple") ⟨_, h1, h2⟩ F.slot_tuple_lt (call_tuple_lt (e := SeqAt.pairEq xs ys) (r := fun j => dataLt (xs.getD j .none) (ys.getD j .none)) ⟨_, h1, h2, _, h3⟩ ⟨_, k1, k2, _, k3⟩ (fun j j1 j2 => ?_) (fun j j1 j2 hj => ?_) ?_))
      · have := eqAt_alikeAll xs ys A.in1 s vs.toList vs'.toList _ _ h4 k4 hal (SeqAt.room_in hu) j (by simpa using j1) (by simpa using j2)
        simpa using this
      · have := rcLt_alikeAll xs ys A.in1 s vs.toList vs'.toList _ _ h4 k4 hal (SeqAt.room_in hu) j (by simpa using j1) (by simpa using j2) hj
        simpa using this
      · exact wpAny_truthy_bool hq
end
section
variable {prog : Program} {w : World} {A : Around} {s : Shared}
def neD : PyData → Bool
  | .tuple [] => false
  | _ => true
theorem firsts_tup {M : Model} : ∀ {vs : List Value} {ds : List PyData}, EachIs (fun v d => ∃ as, Reads s.heap v d as) vs ds → (∀ d, d ∈ ds → ∃ xs, d = .tuple xs) → ∃ fs : List (Option Value), fs.map Option.isSome = ds.map neD ∧ ∀ (A : Around) (E : Value → Shared → Prop) (Q : List (Option Value) → Shared → Prop), Q fs s → wpAny M A (vs.mapM firstOfTuple') Q E s
  | _, _, .nil, _ => ⟨[], rfl, fun A E Q h => by rw [List.mapM_nil]; exact wpAny_pure h⟩
  | _, _, .cons (a := v) (b := d) (as := vs) (bs := ds) ⟨as, r⟩ t, ht => by
    obtain ⟨fs, h1, h2⟩ := firsts_tup (M := M) t fun d hd => ht d (List.mem_cons_of_mem _ hd)
    obtain ⟨xs, rfl⟩ := ht d List.mem_cons_self
    cases r with
    | @tuple a o ys n _ _ ho hc hd hr =>
      refine ⟨ys[0]? :: fs, ?_, fun A E Q h => ?_⟩
      · rw [List.map_cons, List.map_cons, h1]
        congr 1
        cases xs with
        | nil =>
          have e : ys.toList = [] := by cases q : ys.toList with | nil => rfl | cons u us => rw [q] at hr; cases hr
          have e2 : ys[0]? = none := by rw [← Array.getElem?_toList, e]; rfl
          rw [e2]; rfl
        | cons x r =>
          cases q : ys.toList with
          | nil => rw [q] at hr; cases hr
          | cons u us =>
            have e2 : ys[0]? = some u := by rw [← Array.getElem?_toList, q]; rfl
            rw [e2]; rfl
      · rw [List.mapM_cons]
        refine wpAny_bind ?_
        rw [kas_first_eq]
        refine wpAny_bind (Looks.here (show Looks M s.heap (typeOf (.ref a)) o.cls from (Looks.ld ho).andThen .now) ?_)
        rw [hc, if_neg (by first | decide | simp)]
        refine wpAny_bind (listItems_at ho hd (wpAny_pure ?_))
        exact wpAny_bind (h2 A E (fun bs s' => wpAny M A (pure (ys[0]? :: bs)) Q E s') (wpAny_pure h))
/-- tuples that read as alike data can be sorted -/
theorem sortsAt_tuples {vs : List Value} {ds : List PyData} (e : EachIs (fun v d => ∃ as, Reads s.heap v d as) vs ds) (hal : AllAlike ds) (ht : ∀ d, d ∈ ds → ∃ xs, d = .tuple xs) (hu : ∀ d, d ∈ ds → A.units + d.depth < cLine) : SortsAt prog w A s (dataKind s.heap ds) vs := by
  by_cases hne : ∀ d, d ∈ ds → ∃ x r, d = .tuple (x :: r)
  · exact SortsAt.data e hal (.inl hne) hu
  have room : ∀ {d d' : PyData}, d ∈ ds → A.units + min d.depth d'.depth < cLine := fun {d d'} hd => Nat.lt_of_le_of_lt (Nat.add_le_add_left (Nat.min_le_left _ _) _) (hu d hd)
  obtain ⟨fs, h1, h2⟩ := firsts_tup (M := model prog w) e ht
  have hnall : (fs.toArray.all fun x => x.isSome) = false := by
    rw [List.all_toArray, Bool.eq_false_iff]
    intro hall
    refine hne fun d hd => ?_
    obtain ⟨xs, rfl⟩ := ht d hd
    cases xs with
    | cons x r => exact ⟨x, r, rfl⟩
    | nil =>
      have : neD (.tuple []) ∈ ds.map neD := List.mem_map_of_mem hd
      rw [← h1] at this
      obtain ⟨f, f1, f2⟩ := List.mem_map.mp this
      have := List.all_eq_true.mp hall f f1
      rw [f2] at this
      cases this
  have hkeys : ∀ v, v ∈ vs → ∃ a, (dataKind s.heap ds).keyOf v = some a := fun v hv => by
    obtain ⟨d, hd, as, r⟩ := e.left v hv
    exact ⟨_, dataKind_some hal hd r⟩
  have hty : ∀ v ∈ vs, Looks (model prog w) s.heap (typeOf v) (.type "tuple") := fun v hv => by
    obtain ⟨d, hd, as, r⟩ := e.left v hv
    obtain ⟨xs, rfl⟩ := ht d hd
    exact looks_reads r
  by_cases hf : ((fs.toArray)[0]?.bind id).isSome = true
  · refine ⟨hkeys, general', ?_, fun h2' E Q hq => ?_⟩
    · intro E x y a b Q ha hb hq
      obtain ⟨d, as, hd, ra, rfl⟩ := dataKind_inv ha
      obtain ⟨d', as', hd', rb, rfl⟩ := dataKind_inv hb
      obtain ⟨xs, rfl⟩ := ht d hd
      show wpAny (model prog w) A (oneLt' false x y) Q E s
      exact oneLt_alike (fun z => by cases z) ra rb (hal _ hd d' hd') (by intro z; cases z) (room hd) hq
    · rw [kat_kind_eq, List.mapM_toArray, map_eq_pure_bind]
      refine wpAny_bind (wpAny_bind (h2 A E _ (wpAny_pure ?_)))
      rw [if_neg (by rw [hnall]; exact Bool.false_ne_true), if_pos hf]
      exact wpAny_pure hq
  · refine ⟨hkeys, oneType', ?_, fun h2' E Q hq => ?_⟩
    · intro E x y a b Q ha hb hq
      obtain ⟨d, as, hd, ra, rfl⟩ := dataKind_inv ha
      obtain ⟨d', as', hd', rb, rfl⟩ := dataKind_inv hb
      have hdd := hal d hd d' hd'
      have hroom := room (d' := d') hd
      obtain ⟨xs, rfl⟩ := ht d hd
      obtain ⟨ys, rfl⟩ := ht d' hd'
      rw [keyLt'_oneType]
      exact oneLt_tuples ra rb (by simpa [alike] using hdd) hroom hq
    · rw [kat_kind_eq, List.mapM_toArray, map_eq_pure_bind]
      refine wpAny_bind (wpAny_bind (h2 A E _ (wpAny_pure ?_)))
      rw [if_neg (by rw [hnall]; exact Bool.false_ne_true), if_neg hf]
      rw [oneTypeOnly'_eq, List.mapM_toArray, map_eq_pure_bind]
      refine wpAny_bind (wpAny_bind (wpAny_bind (kas_mapM (r := Value.type "tuple") _ (fun v hv Q' hq => (hty v hv).here hq) (wpAny_pure ?_))))
      obtain ⟨v0, vr, rfl⟩ : ∃ v0 vr, vs = v0 :: vr := by
        match vs, h2' with
        | [], h2 => simp at h2
        | v :: r, _ => exact ⟨v, r, rfl⟩
      have hall : ((List.map (fun _ => Value.type "tuple") (v0 :: vr)).toArray.all fun x => x == Value.type "tuple") = true := by
        simp only [List.all_toArray, List.all_map, List.all_eq_true]
        intro _ _
        exact beq_self_eq_true _
      have h0 : (List.map (fun _ => Value.type "tuple") (v0 :: vr)).toArray[0]? = some (Value.type "tuple") := by simp
      rw [h0]
      simp only [hall, if_true]
      exact wpAny_pure (wpAny_pure hq)
end
end Mir
namespace Mir
open PySem PySem.Spec L2
abbrev sortedD (ds : List D) : List D := ds.mergeSort (PySem.W.dataLe false id)
def tupB : D → Bool
  | .tuple _ => true
  | _ => false
def plainB : D → Bool
  | .tuple _ => false
  | .none => false
  | _ => true
def sortOk (ds : List D) : Bool := (ds.all fun d => ds.all fun e => PySem.W.alike d e) && (ds.all tupB || ds.all plainB) && (ds.all fun d => decide (d.depth ≤ 130))
def gSorted : List D → Option Ow
  | [.list ds] => if sortOk ds = true then some (.l ((sortedD ds).map Ow.d)) else none
  | _ => none
def rSortD (K : Kw) : List V → Hp → VK → Prop := fun vs H Q => ∃ (a : Addr) (xs : List V) (ds : List D) (T : V → D → Prop), vs = [V.ref a] ∧ SqL K H a xs ∧ DpAll K H xs ds ∧ sortOk ds = true ∧ PySem.W.EachIs T xs ds ∧
  ∀ (ys : List V) (p : Addr), H p = none → PySem.W.EachIs T ys (sortedD ds) → Q (.ref p) (upd H p (.lst ys))
section
variable {X : Cx} {W : WX}
theorem each_vals {T : V → D → Prop} : ∀ {xs : List V} {vs : List Value} {ds : List D}, Vals xs vs → PySem.W.EachIs T xs ds → PySem.W.EachIs (fun v d => ∃ x, RelV x v ∧ T x d) vs ds
  | _, _, _, .nil, .nil => .nil
  | _, _, _, .cons r t, .cons h g => .cons ⟨_, r, h⟩ (each_vals t g)
theorem vals_each {T : V → D → Prop} : ∀ {vs : List Value} {ds : List D}, PySem.W.EachIs (fun v d => ∃ x, RelV x v ∧ T x d) vs ds → ∃ xs, Vals xs vs ∧ PySem.W.EachIs T xs ds
  | _, _, .nil => ⟨[], .nil, .nil⟩
  | _, _, .cons ⟨x, r, h⟩ g => by
    obtain ⟨xs, a, b⟩ := vals_each g
    exact ⟨x :: xs, .cons r a, .cons h b⟩
mutual
theorem Dp.kit_alike {K : Kw} {H : Hp} : ∀ (d : D) (v : V), Dp K H v d → PySem.W.alike d d = true → L2.Dp K H v d
  | .none, _, h, _ => by cases h; exact .non
  | .bool b, _, h, _ => by cases h; exact .bl b
  | .int b, _, h, _ => by cases h; exact .int b
  | .str b, _, h, _ => by cases h; exact .str b
  | .list ds, _, h, c => by
    cases h with
    | lst hs ha => exact .lst hs (DpAll.kit_alike ds _ ha (by rw [PySem.W.alike] at c; exact c))
  | .tuple ds, _, h, c => by
    cases h with
    | tup hs ha => exact .tup hs (DpAll.kit_alike ds _ ha (by rw [PySem.W.alike] at c; exact c))
  | .dict _, _, _, c => by simp [PySem.W.alike] at c
theorem DpAll.kit_alike {K : Kw} {H : Hp} : ∀ (ds : List D) (vs : List V), DpAll K H vs ds → PySem.W.alikeAll ds ds = true → L2.DpAll K H vs ds
  | [], _, h, _ => by cases h; exact .nil
  | d :: ds, _, h, c => by
    rw [PySem.W.alikeAll, Bool.and_eq_true] at c
    cases h with
    | cons h1 h2 => exact .cons (Dp.kit_alike d _ h1 c.1) (DpAll.kit_alike ds _ h2 c.2)
end
theorem each_reads {pins : List (Addr × Obj)} {s : Shared} {σ : L2.St} {H : Hp} (I : Inv X pins σ H s) : ∀ {xs : List V} {vs : List Value} {ds : List D}, Vals xs vs → DpAll X.KK H xs ds → (∀ d ∈ ds, PySem.W.alike d d = true) → PySem.W.EachIs (fun v d => ∃ as, PySem.Reads s.heap v d as) vs ds
  | _, _, _, .nil, h, _ => by cases h; exact .nil
  | _, _, _, .cons r t, h, c => by
    cases h with
    | cons h1 h2 => exact .cons (L2.Dp.reads I _ _ _ (Dp.kit_alike _ _ h1 (c _ List.mem_cons_self)) r) (each_reads I t h2 fun d hd => c d (List.mem_cons_of_mem _ hd))
theorem sortOk_cases {ds : List D} (h : sortOk ds = true) : PySem.W.AllAlike ds ∧ ((∀ d, d ∈ ds → ∃ xs, d = .tuple xs) ∨ ∀ d, d ∈ ds → d ≠ .none ∧ ∀ xs, d ≠ .tuple xs) ∧ ∀ d, d ∈ ds → d.depth ≤ 130 := by
  unfold sortOk at h
  simp only [Bool.and_eq_true, Bool.or_eq_true, List.all_eq_true, decide_eq_true_eq] at h
  obtain ⟨⟨h1, h2⟩, h3⟩ := h
  refine ⟨h1, h2.imp (fun h d hd => ?_) (fun h d hd => ?_), h3⟩
  · have := h d hd
    cases d <;> first | exact ⟨_, rfl⟩ | cases this
  · have := h d hd
    cases d with
    | none => cases this
    | tuple _ => cases this
    | _ => exact ⟨nofun, nofun⟩
theorem cr_sortD (hu : X.A.units + 140 < cLine) : CallR X (.builtin "sorted") (rSortD X.KK) := by
  intro pins s σ H vs us Q I r h
  obtain ⟨a, xs, ds, T, rfl, hs, hx, ok, hT, q⟩ := h
  obtain ⟨its, rv, hl, hz⟩ := I.list hs
  rw [Vals.ref1 r]
  obtain ⟨hal, hk, hd⟩ := sortOk_cases ok
  have er := each_reads I rv hx fun d hd => hal d hd d hd
  have e := each_vals rv hT
  have hL : its.length ≤ sizeLine := by rw [← rv.length]; exact hz
  have fin : ∀ out, out.length = ds.length → PySem.W.EachIs (fun v d => ∃ x, RelV x v ∧ T x d) out (sortedD ds) → EP X pins σ Q (.ref (s.heap.objs.size + 1)) { s with heap := PyProof.Rows.sortedAll s.heap its out.toArray } := fun out h1 h2 => by
    obtain ⟨ys, h3, h4⟩ := vals_each h2
    have hn : H (s.heap.objs.size + 1) = none := I.hok.fresh (Nat.le_succ _)
    obtain ⟨n, hn2⟩ := PyProof.Rows.sortedAll_at s.heap its out.toArray
    refine ⟨.ref (s.heap.objs.size + 1), upd H (s.heap.objs.size + 1) (.lst ys), I.laid (t' := s.toks) (fun b o e => PyProof.Rows.sortedAll_old e) (Nat.le_succ _) ⟨?_, out, n, h3, hn2⟩, rfl, q ys _ hn h4⟩
    rw [h3.length, h1, ← er.length]
    exact hL
  have er' : PySem.W.EachIs (fun v b => ∃ as, PySem.Reads (PySem.W.sortingHeap (PySem.W.copyHeap s.heap its) (s.heap.objs.size + 1) its) v (id b) as) its ds := er.mono fun _ _ ⟨as, r⟩ => ⟨as, PyProof.Rows.Reads.keeps (fun _ _ => PySem.W.sorting_copy_old) r⟩
  have hb : ∀ d, d ∈ ds → X.A.in1.in1.units + d.depth < cLine := fun d m => by
    have := hd d m
    show X.A.units + 1 + 1 + d.depth < cLine
    omega
  refine PySem.W.sorted_vals (κ := PySem.W.dataKind (PySem.W.sortingHeap (PySem.W.copyHeap s.heap its) (s.heap.objs.size + 1) its) ds) hl.isList ?_ hL (fin _ ?_ ?_)
  · rcases hk with hk | hk
    · exact sortsAt_tuples (s := { s with heap := PySem.W.sortingHeap (PySem.W.copyHeap s.heap its) (s.heap.objs.size + 1) its }) er' hal hk hb
    · exact PySem.W.SortsAt.data (s := { s with heap := PySem.W.sortingHeap (PySem.W.copyHeap s.heap its) (s.heap.objs.size + 1) its }) er' hal (.inr hk) hb
  · rw [PySem.W.sortVals_length false rfl]; exact er.length
  · have z := PySem.W.sortVals_data (enc := (id : D → D)) (bs := ds) false e er' (by simpa using hal)
    simpa using z
theorem each_dpAll {F : Hp} : ∀ {xs : List V} {ds : List D}, DpAll X.KK F xs ds → PySem.W.EachIs (Dp X.KK F) xs ds
  | _, [], h => by cases h; exact .nil
  | _, d :: ds, h => by
    cases h with
    | cons h1 h2 => exact .cons h1 (each_dpAll h2)
theorem dpAll_each {F : Hp} : ∀ {xs : List V} {ds : List D}, PySem.W.EachIs (Dp X.KK F) xs ds → DpAll X.KK F xs ds
  | _, _, .nil => .nil
  | _, _, .cons h g => .cons h (dpAll_each g)
theorem caG_sorted : CaG X.KK (rSortD X.KK) gSorted := by
  intro F H vs ds o Q s h e q
  unfold gSorted at e
  split at e
  · split at e
    · rename_i es c
      cases e
      obtain ⟨v, rfl, p, ws, rfl, p1, p2⟩ := psqs1 h
      refine ⟨p, ws, es, Dp X.KK F, rfl, p1, dpaUp p2 s, c, each_dpAll p2, fun ys a ha hy => ?_⟩
      exact q _ _ _ (Ext.own s ha _) (own_l s ha (dpAll_each hy))
    · cases e
  · cases e
theorem de_sorted {x : Expr} {p pos : Pos} {f : Ev → R (List D)} (hu : X.A.units + 140 < cLine) (hg : Gl X "sorted") (hm : X.mg "sorted" = none) (ha : DAl X W [x] f) (he : starEach [x] X.env = (false, eval x X.env) :: starEach [] X.env := by rfl) : DE X W (.Call (.Name "sorted" p) [x] [] pos) (eCa gSorted f) :=
  de_callB (cr_sortD hu) caG_sorted hg hm (by first | rfl | decide +kernel) ha (he := he)
end
end Mir
end
set_option Elab.async false
set_option linter.all false
set_option maxRecDepth 100000
set_option maxHeartbeats 4000000
noncomputable section
namespace Mir
open PySem PySem.Spec L2

def sameO (i : Nat) (os : List Ow) (env : Ev) : Prop := env[i]? = some (some (.l os))
open Classical in
def forLV (i : Nat) (os : List Ow) (g : D → Ev → Option Ev) (f : Ev → SR) : List D → Ev → SR
  | [], env => .nx env
  | d :: ds, env => match g d env with
    | none => .no
    | some env1 => match f env1 with
      | .nx env2 => if sameO i os env2 then forLV i os g f ds env2 else .no
      | .ct env2 => if sameO i os env2 then forLV i os g f ds env2 else .no
      | .bk env2 => .nx env2
      | .rt r env2 => .rt r env2
      | .ex c env2 => .ex c env2
      | .no => .no
def sForV (i : Nat) (g : D → Ev → Option Ev) (f : Ev → SR) (env : Ev) : SR := ownL i env fun os => match unDs os with
  | some ds => forLV i os g f ds env
  | none => .no
abbrev offI (S : Nat → Bool) (i : Nat) : Nat → Bool := fun j => S j && !(Nat.beq j i)
section
variable {X : Cx} {W : WX} {S : Nat → Bool} {pos npos : Pos} {x : Str} {fs : Ev → SR}
theorem offI_i (S : Nat → Bool) (i : Nat) : offI S i i = false := by simp [offI]
theorem own_lst {K : Kw} {F H : Hp} {σ : L2.St} {env : Ev} {fp : List Addr} (sat : Sat K F H σ env fp) {i : Nat} {ds : List D} {a : Addr} (e : sameO i (ds.map Ow.d) env) (es : σ[i]? = some (some (.ref a))) : ∃ vs, H a = some (.lst vs) ∧ DpAll K F vs ds := by
  obtain ⟨v, fo, e1, e2, _⟩ := sat.en.get e
  rw [es] at e1
  cases e1
  cases e2 with
  | l m1 m2 m3 => exact ⟨_, m2, (OwnAll.dp m3).1⟩
theorem ds_forV {tg : Expr} {body : List Stmt} {g : D → Ev → Option Ev} (i : Nat) (hp : PassesOwn (model X.prog X.w) X.A X.env X.xe) (hc : X.calm = true) {ix : List Nat} (hg : DG X tg ix g) (hb : DSs X W (offI S i) body fs) (hN : X.N[i]? = some x := by rfl) (hv : Vis X.env.scope x := by first | exact Or.inl rfl | exact Or.inr (Or.inl rfl) | exact Or.inr (Or.inr rfl)) (hd : (x == ("__debug__" : Str)) = false := by decide) (hcd : (x == ("__classdict__" : Str)) = false := by decide)
    (hs : ∀ z, foldedSetIterable (.Name x npos) X.env z = pure z := by intro _; rfl) (hS : ix.all (offI S i) = true := by rfl) : DS X W S (.For tg (.Name x npos) body [] pos) (sForV i g fs) := by
  obtain ⟨tb, pb, sb⟩ := hb
  refine ⟨_, ps_for hp hc (pi_list (pe_var hN hv hd hcd)) hg pb hs, fun F H σ env fp D sat h => ?_⟩
  obtain ⟨os, eo, h1⟩ := ownL_post h
  cases eu : unDs os with
  | none => rw [eu] at h1; exact h1.elim
  | some items =>
  rw [eu] at h1
  have h1 : PostS X W S σ F H fp D (forLV i os g fs items env) := h1
  have eos := unDs_eq eu
  subst eos
  obtain ⟨v, fo, e1, e2, _⟩ := sat.en.get eo
  cases e2 with
  | @l a vs0 _ f0 m1 m2 m3 =>
  have sub : ∀ j, S j = false → offI S i j = false := fun j hj => by simp [offI, hj]
  have hS2 : ix.all S = true := by
    rw [List.all_eq_true] at hS ⊢
    intro j hj
    have := hS j hj
    simp [offI] at this
    exact this.1
  refine ⟨_, e1, a, rfl, ⟨vs0, SqL.of m2⟩, ?_⟩
  refine ⟨fun k m σ' H' => m = items.length - k ∧ k ≤ items.length ∧ ∃ F' env' fp', Sat X.KK F' H' σ' env' fp' ∧ sameO i (items.map Ow.d) env' ∧ σ'[i]? = some (some (.ref a)) ∧ PostS X W S σ' F' H' fp' D (forLV i (items.map Ow.d) g fs (items.drop k) env'),
    ⟨items.length, by simp, Nat.zero_le _, F, env, fp, sat, eo, e1, h1⟩, ?_⟩
  rintro k m σ' H' ⟨rfl, hk, F', env', fp', sat', so, es, h2⟩
  obtain ⟨vs, hvs, dvs⟩ := own_lst sat' so es
  have hl := DpAll.len dvs
  by_cases hlt : k < items.length
  · refine .inr ⟨⟨vs, vs[k]'(by omega), SqL.of hvs, by simp⟩, fun σ2 H2 => ∃ F2 env2 fp2, Sat X.KK F2 H2 σ2 env2 fp2 ∧ sameO i (items.map Ow.d) env2 ∧ σ2[i]? = some (some (.ref a)) ∧ PostS X W S σ2 F2 H2 fp2 D (forLV i (items.map Ow.d) g fs (items.drop (k + 1)) env2), ?_, ?_⟩
    · rintro σ2 H2 ⟨F2, env2, fp2, c1, c2, c3, c4⟩
      exact ⟨items.length - (k + 1), by omega, rfl, hlt, F2, env2, fp2, c1, c2, c3, c4⟩
    · rintro x3 H3 ⟨rfl, q⟩
      obtain ⟨d, e3, dp⟩ := DpAll.getV dvs (q vs (SqL.of hvs))
      have ed : items.drop k = d :: items.drop (k + 1) := by
        rw [List.drop_eq_getElem_cons hlt]
        have : items[k] = d := by rw [List.getElem?_eq_getElem hlt] at e3; exact Option.some.inj e3
        rw [this]
      rw [ed] at h2
      unfold forLV at h2
      cases eg : g d env' with
      | none => rw [eg] at h2; exact h2.elim
      | some env1 =>
        rw [eg] at h2
        simp only at h2
        refine ⟨F', env', fp', d, env1, sat', dp, eg, fun σ4 fp4 sat4 sub4 off4 => ?_⟩
        have st4 : StepS F' H3 fp' F' H3 fp4 := (StepS.of_ext (.refl sat'.fh) fp').subset sub4
        have h4 := PostS.step h2 (.of off4 hS2) st4
        have es4 : σ4[i]? = some (some (.ref a)) := (OffS.of off4 hS i (offI_i S i)).trans es
        refine sb F' H3 σ4 env1 fp4 _ sat4 ?_
        have h4 := PostS.sub h4 sub
        cases ef : fs env1 with
        | no => rw [ef] at h4; exact h4
        | nx env2 =>
          rw [ef] at h4
          simp only at h4
          split at h4
          · rename_i so2
            refine fun σ5 F5 H5 fp5 o5 s5 sat5 => ⟨F5, env2, fp5, sat5, so2, (o5 i (offI_i S i)).trans es4, ?_⟩
            have h5 := PostS.step h2 (.of off4 hS2) st4
            rw [ef] at h5
            simp only at h5
            rw [if_pos so2] at h5
            exact PostS.step h5 (fun j hj => o5 j (sub j hj)) s5
          · exact h4.elim
        | ct env2 =>
          rw [ef] at h4
          simp only at h4
          split at h4
          · rename_i so2
            refine fun σ5 F5 H5 fp5 o5 s5 sat5 => ⟨F5, env2, fp5, sat5, so2, (o5 i (offI_i S i)).trans es4, ?_⟩
            have h5 := PostS.step h2 (.of off4 hS2) st4
            rw [ef] at h5
            simp only at h5
            rw [if_pos so2] at h5
            exact PostS.step h5 (fun j hj => o5 j (sub j hj)) s5
          · exact h4.elim
        | bk env2 => rw [ef] at h4; exact h4
        | rt r env2 => rw [ef] at h4; exact h4
        | ex c env2 => rw [ef] at h4; exact h4
  · have e : k = items.length := by omega
    subst e
    rw [List.drop_length] at h2
    exact .inl ⟨⟨vs, SqL.of hvs, by omega⟩, h2 σ' F' H' fp' (.refl _ _) (StepS.of_ext (.refl sat'.fh) fp') sat'⟩
end
end Mir
end
set_option Elab.async false
set_option linter.all false
set_option maxRecDepth 100000
set_option maxHeartbeats 4000000
noncomputable section
namespace Mir
open PySem PySem.Spec L2

def spL (K : Kw) (m : List D → R Ow) : Sp := fun vs H Q _ => ∃ F ds r, Same F H ∧ DpAll K F vs ds ∧ ds.length = 1 ∧ m ds = .ok r ∧ ∀ v F' H', Ext F H F' H' → POw K H r v F' H' → Q v H'
theorem fnOk_spL {P : Program} {w : World} {K : PySem.W.Frag} {mg : Str → Option Value} {base : Heap} {CX : CXT} {k : Nat} {f : Addr} {fd : FuncData} {ps : List Str} {m : List D → R Ow} (h : FnOk P w K mg base CX k f fd ps (spM ⟨K, w⟩ mg 1 m)) : FnOk P w K mg base CX k f fd ps (spL ⟨K, w⟩ m) :=
  h.imp fun vs H Q E ⟨F, ds, r, h1, h2, h3, h4, h5⟩ => ⟨F, ds, h1, h2, h3, by rw [h4]; exact h5⟩
theorem law_end {l : PySem.W.OpenLaw} {q : Program} {loose : List Str} {XP : (Str → Option Value) → Heap → Prop} {YP : World → Heap → Prop} {d : DefRec} {K : Params → PySem.W.Frag} {m : List D → R Ow} (k : Nat) (x : Str) (hn : l.most = some 63) (hdf : d.params.defaults = []) (hr : Room k callerA)
    (hY : ∀ (w : World) (h : Heap), YP w h → (K w.params).In h)
    (hm : ∀ ns : List Int, ns.length ≤ 63 → (∀ z ∈ ns, Builtin.Int.intBits z ≤ 1048576) → m [.list (ns.map .int)] = .ok (.d (.bool true)))
    (F : ∀ (w : World) (mg : Str → Option Value) (fa : Addr) (h : Heap), (K w.params).In h → h.Ns PySem.mainGlobals mg → mg d.name = some (.ref fa) →
      ∃ fd : FuncData, (∀ (s : Shared) (u : Value), BindsTo s fd ⟨[u], []⟩ [(x, u)]) ∧ ∀ base : Heap, (K w.params).In base → base.Ns PySem.mainGlobals mg → FnOk l.prog w (K w.params) mg base (L2.CX l.prog w) k fa fd [x] (spM ⟨K w.params, w⟩ mg 1 m)) :
    PySem.W.WalkO q loose XP YP l.row.toRowW d [] (fun f vs => PySem.call f vs) := by
  refine L2.walk_ofB (n := 63) (k := k) (x := x) (CX := fun w => L2.CX l.prog w) (sp := fun w => spL ⟨K w.params, w⟩ m) hn (by decide) hdf hr hY (fun w mg fa h a b c => ?_) (fun w H a ns hl hb _ hS => ?_) fun w H s e s' z => ?_
  · obtain ⟨fd, h1, h2⟩ := F w mg fa h a b c
    exact ⟨fd, h1, fun base p q => fnOk_spL (h2 base p q)⟩
  · refine ⟨H, [.list (ns.map .int)], _, Same.refl _, .cons (.lst hS (DpAll.of_ints ns)) .nil, rfl, hm ns hl hb, fun v F' H' _ ⟨fp, ow, _⟩ => ?_⟩
    cases ow with
    | d h => cases h; rfl
  · obtain ⟨_, _, _, _, _, _, _, _, _, _, _, _, z⟩ := z
    exact z
theorem room_eq {k : Nat} {A : Around} (r : Room k A) : A.units + 140 < cLine := by have := r.un; omega
end Mir
end
set_option Elab.async false
set_option linter.all false
set_option maxRecDepth 100000
set_option maxHeartbeats 4000000
noncomputable section
namespace Mir
open PySem PySem.Spec L2
section
variable {X : Cx} {W : WX} {S : Nat → Bool}
def gAddA : D → D → Option D
  | .int i, .int j => some (.int (i + j))
  | .str x, .str y => if x.length + y.length ≤ sizeLine then some (.str (x ++ y)) else none
  | _, _ => none
theorem iop_addA : OpR X (inplaceOp .Add) (fun x y H Q => rI0 (fun i j => .int (i + j)) x y H Q ∨ ∃ i j, x = .str i ∧ y = .str j ∧ i.length + j.length ≤ sizeLine ∧ Q (.str (i ++ j)) H) := OpR.or iop_add iop_add_str
theorem opS_addA {K : Kw} : OpS K (fun x y H Q => rI0 (fun i j => .int (i + j)) x y H Q ∨ ∃ i j, x = .str i ∧ y = .str j ∧ i.length + j.length ≤ sizeLine ∧ Q (.str (i ++ j)) H) gAddA := by
  intro H x y dx dy d Q hx hy e q
  unfold gAddA at e
  split at e
  · cases e
    cases dp_int hx
    cases dp_int hy
    exact .inl ⟨_, _, rfl, rfl, q _ fun F => .int _⟩
  · split at e
    · cases e
      cases dp_str hx
      cases dp_str hy
      exact .inr ⟨_, _, rfl, rfl, ‹_›, q _ fun F => .str _⟩
    · cases e
  · cases e
/-- name = [..], the list made data -/
theorem ds_setLcF {elt tg iter : Expr} {ifs : List Expr} {scope : Scope} {own : List (Str × Nat)} {g : D → Ev → Option Ev} {fi : Ev → R (List D)} {fc : Ev → R Bool} {fe : Ev → R Ow} {ix : List Nat} {y : Str} {py spos pos : Pos} (i : Nat) (hc : X.calm = true) (hN : X.N.Nodup) (hi : DI X W tg iter fi) (ok : BlkOk X.N X.env.scope scope own)
    (hg : ∀ (s : Shared) (H : Hp) (C : Addr) (cl : List (Str × Addr)) (fp : List Addr), DG (X.blk s H scope (compEnvC scope cl C X.env) fp) tg ix g) (ht : ∀ (s : Shared) (H : Hp) (C : Addr) (cl : List (Str × Addr)) (fp : List Addr), DTs (X.blk s H scope (compEnvC scope cl C X.env) fp) W0 ifs fc)
    (he : ∀ (s : Shared) (H : Hp) (C : Addr) (cl : List (Str × Addr)) (fp : List Addr), DE (X.blk s H scope (compEnvC scope cl C X.env) fp) W0 elt fe) (hix : ∀ i ∈ ix, i ∈ own.map (·.2) := by decide) (hs : ∀ x, foldedSetIterable iter X.env x = pure x := by intro _; rfl)
    (hy : X.N[i]? = some y := by rfl) (hyl : X.env.scope.names.lookup y = some .local := by rfl) (hsw : swapsWith (.ListComp elt [⟨tg, iter, ifs, 0⟩] scope pos) (some (.Name y py)) spos.line X.env = pure true := by exact sw_true rfl rfl rfl (by decide +kernel)) (hS : S i = true := by rfl) :
    DS X W S (.Assign [.Name y py] (.ListComp elt [⟨tg, iter, ifs, 0⟩] scope pos) spos) (sSet i (eM (eM (eLc fi g fc fe (own.map (·.2))) viewD) Ow.d)) := by
  obtain ⟨wi, pi, si⟩ := hi
  refine ⟨_, ps_setLc (g := tgOf X.KK ix g) (tt := tOf X.KK (Post X W0 PTb) fc) (te := tOf X.KK (Post X W0 (POw X.KK)) fe) hc hN hy hyl hsw pi ok (fun s H C cl fp => hg s H C cl fp) (fun s H C cl fp => (ht s H C cl fp).can) (fun s H C cl fp => (he s H C cl fp).can) hs, fun F H σ env fp D sat h => ?_⟩
  refine de_lc_core si hix F H σ env fp _ sat ?_
  unfold sSet eM at h
  cases e : eLc fi g fc fe (own.map (·.2)) env with
  | no => rw [e] at h; exact h
  | ex c => rw [e] at h; exact fun C F' H' m x => h C σ F' H' fp m (.refl _ _) (StepS.of_ext x fp) (sat.ext x)
  | ok r =>
    rw [e] at h
    intro v F' H' x ⟨fx, q, nd, n⟩
    have h' : PostS X W S σ F H fp D (if i < env.length then .nx (env.set i (some (.d (viewD r)))) else .no) := h
    split at h'
    · obtain ⟨F2, x2, q2⟩ := x.freeze q n
      obtain ⟨fp', s1, s2⟩ := put_step sat x2 (.d q2) List.nodup_nil (fun _ z => nomatch z) ‹_›
      exact h' _ F2 H' fp' (.set hS _) s1 s2
    · exact h'.elim
end
end Mir
end
set_option Elab.async false
set_option linter.all false
set_option maxRecDepth 100000
set_option maxHeartbeats 4000000
noncomputable section
namespace Mir
open PySem PySem.Spec L2

section
variable {α β γ : Type} (env : Ev)
@[simp] theorem eB_eq (f : Ev → R α) (g : α → R β) : eB f g env = (f env).bind g := rfl
@[simp] theorem eM_eq (f : Ev → R α) (g : α → β) : eM f g env = (f env).map g := rfl
@[simp] theorem eC_eq (d : D) : eC d env = .ok d := rfl
@[simp] theorem aNil_eq : aNil env = .ok [] := rfl
@[simp] theorem aCons_eq (f : Ev → R D) (g : Ev → R (List D)) : aCons f g env = (f env).bind fun d => (g env).map fun ds => d :: ds := rfl
@[simp] theorem eTup_eq (f : Ev → R (List D)) : eTup f env = (f env).bind fun ds => guard (ds.length ≤ sizeLine) (.ok (.tuple ds)) := rfl
@[simp] theorem eLst_eq (f : Ev → R (List D)) : eLst f env = (f env).bind fun ds => guard (ds.length ≤ sizeLine) (.ok (.l (ds.map Ow.d))) := rfl
@[simp] theorem eBin_eq (g : D → D → Option D) (f h : Ev → R D) : eBin g f h env = (f env).bind fun x => (h env).bind fun y => R.of (g x y) := rfl
@[simp] theorem eBinO_eq (g : D → D → Option Ow) (f h : Ev → R D) : eBinO g f h env = (f env).bind fun x => (h env).bind fun y => R.of (g x y) := rfl
@[simp] theorem eCa_eq (g : List D → Option Ow) (f : Ev → R (List D)) : eCa g f env = (f env).bind fun ds => R.of (g ds) := rfl
@[simp] theorem eNot_eq (f : Ev → R D) : eNot f env = ((f env).bind asB).bind fun b => .ok (.bool !b) := rfl
@[simp] theorem eAnd_eq (f g : Ev → R D) : eAnd f g env = ((f env).bind asB).bind fun b => if b = true then g env else .ok (.bool false) := rfl
@[simp] theorem eOr_eq (f g : Ev → R D) : eOr f g env = ((f env).bind asB).bind fun b => if b = true then .ok (.bool true) else g env := rfl
@[simp] theorem eIf_eq (c : Ev → R Bool) (f g : Ev → R D) : eIf c f g env = (c env).bind fun b => if b = true then f env else g env := rfl
@[simp] theorem tNotE_eq (f : Ev → R Bool) : tNotE f env = (f env).map (!·) := rfl
@[simp] theorem tAndE_eq (f g : Ev → R Bool) : tAndE f g env = (f env).bind fun b => if b = true then g env else .ok false := rfl
@[simp] theorem tOrE_eq (f g : Ev → R Bool) : tOrE f g env = (f env).bind fun b => if b = true then .ok true else g env := rfl
@[simp] theorem eRep_eq (f : Ev → R Ow) (g : Ev → R D) : eRep f g env = (f env).bind fun o => (g env).bind fun d => repO o d := rfl
@[simp] theorem eIxO_eq (f : Ev → R Ow) (g : Ev → R D) : eIxO f g env = (f env).bind fun o => (g env).bind fun d => ixO o d := rfl
@[simp] theorem eSl_eq (f : Ev → R D) (l h : Ev → R (Option Int)) : eSl f l h env = (f env).bind fun x => (l env).bind fun i => (h env).bind fun j => R.of (gSl x i j) := rfl
@[simp] theorem oNone_eq : oNone env = .ok none := rfl
@[simp] theorem asI_eq (i : Int) : asI (.int i) = .ok (some i) := rfl
@[simp] theorem cYes_eq : cYes env = .ok true := rfl
@[simp] theorem eVar_0 (x : D) : eVar 0 (some (.d x) :: env) = .ok x := rfl
@[simp] theorem eVarO_0 (x : Ow) : eVarO 0 (some x :: env) = .ok x := rfl
@[simp] theorem eVar_s (i : Nat) (x : Option Ow) : eVar (i + 1) (x :: env) = eVar i env := by unfold eVar; rw [List.getElem?_cons_succ]
@[simp] theorem eVarO_s (i : Nat) (x : Option Ow) : eVarO (i + 1) (x :: env) = eVarO i env := by unfold eVarO; rw [List.getElem?_cons_succ]
@[simp] theorem eVar_1 (a : Option Ow) (x : D) : eVar 1 (a :: some (.d x) :: env) = .ok x := rfl
@[simp] theorem eVar_2 (a b : Option Ow) (x : D) : eVar 2 (a :: b :: some (.d x) :: env) = .ok x := rfl
@[simp] theorem eVar_3 (a b c : Option Ow) (x : D) : eVar 3 (a :: b :: c :: some (.d x) :: env) = .ok x := rfl
@[simp] theorem eVar_4 (a b c d : Option Ow) (x : D) : eVar 4 (a :: b :: c :: d :: some (.d x) :: env) = .ok x := rfl
@[simp] theorem eVar_5 (a b c d e : Option Ow) (x : D) : eVar 5 (a :: b :: c :: d :: e :: some (.d x) :: env) = .ok x := rfl
@[simp] theorem eVar_6 (a b c d e f : Option Ow) (x : D) : eVar 6 (a :: b :: c :: d :: e :: f :: some (.d x) :: env) = .ok x := rfl
@[simp] theorem eVar_7 (a b c d e f g : Option Ow) (x : D) : eVar 7 (a :: b :: c :: d :: e :: f :: g :: some (.d x) :: env) = .ok x := rfl
@[simp] theorem eVar_8 (a b c d e f g h : Option Ow) (x : D) : eVar 8 (a :: b :: c :: d :: e :: f :: g :: h :: some (.d x) :: env) = .ok x := rfl
@[simp] theorem eVar_9 (a b c d e f g h i : Option Ow) (x : D) : eVar 9 (a :: b :: c :: d :: e :: f :: g :: h :: i :: some (.d x) :: env) = .ok x := rfl
@[simp] theorem eVarO_1 (a : Option Ow) (x : Ow) : eVarO 1 (a :: some x :: env) = .ok x := rfl
@[simp] theorem eVarO_2 (a b : Option Ow) (x : Ow) : eVarO 2 (a :: b :: some x :: env) = .ok x := rfl
@[simp] theorem eVarO_3 (a b c : Option Ow) (x : Ow) : eVarO 3 (a :: b :: c :: some x :: env) = .ok x := rfl
@[simp] theorem eVarO_4 (a b c d : Option Ow) (x : Ow) : eVarO 4 (a :: b :: c :: d :: some x :: env) = .ok x := rfl
@[simp] theorem eVarO_5 (a b c d e : Option Ow) (x : Ow) : eVarO 5 (a :: b :: c :: d :: e :: some x :: env) = .ok x := rfl
@[simp] theorem eVarO_6 (a b c d e f : Option Ow) (x : Ow) : eVarO 6 (a :: b :: c :: d :: e :: f :: some x :: env) = .ok x := rfl
@[simp] theorem eVarO_7 (a b c d e f g : Option Ow) (x : Ow) : eVarO 7 (a :: b :: c :: d :: e :: f :: g :: some x :: env) = .ok x := rfl
@[simp] theorem sSkip_eq : sSkip env = .nx env := rfl
@[simp] theorem sSeq_eq (f g : Ev → SR) : sSeq f g env = (f env).andThen g := rfl
@[simp] theorem sSet_eq (i : Nat) (f : Ev → R Ow) : sSet i f env = (f env).st env fun r => if i < env.length then .nx (env.set i (some r)) else .no := rfl
@[simp] theorem sRet_eq (f : Ev → R Ow) : sRet f env = (f env).st env fun r => .rt r env := rfl
@[simp] theorem sRetN_eq : sRetN env = .rt (.d .none) env := rfl
theorem sRetV_of {i : Nat} {o : Ow} (h : env[i]? = some (some o)) : sRetV i env = .rt o (env.set i none) := by unfold sRetV; rw [h]
@[simp] theorem sIf_eq (c : Ev → R Bool) (f g : Ev → SR) : sIf c f g env = (c env).st env fun b => if b = true then f env else g env := rfl
@[simp] theorem sFor_eq (it : Ev → R (List D)) (g : D → Ev → Option Ev) (f : Ev → SR) : sFor it g f env = (it env).st env fun ds => forL g f ds env := rfl
@[simp] theorem sDrop_eq (f : Ev → R D) : sDrop f env = (f env).st env fun _ => .nx env := rfl
@[simp] theorem sAug_eq (h : D → D → Option D) (i : Nat) (f : Ev → R D) : sAug h i f env = (((eVar i env).bind fun x => (f env).bind fun y => R.of (h x y)).st env fun d => if i < env.length then .nx (env.set i (some (.d d))) else .no) := rfl
@[simp] theorem sAsg_eq (g : D → Ev → Option Ev) (f : Ev → R D) : sAsg g f env = (f env).st env fun d => match g d env with
  | some env' => .nx env'
  | none => .no := rfl
@[simp] theorem sApp_eq (i : Nat) (f : Ev → R Ow) : sApp i f env = ownL i env fun os => (f env).st env fun r => if os.length < sizeLine then .nx (env.set i (some (.l (os ++ [r])))) else .no := rfl
@[simp] theorem sExt_eq (i : Nat) (f : Ev → R D) : sExt i f env = ownL i env fun os => (f env).st env fun d => (asL d).st env fun ds => if os.length + ds.length ≤ sizeLine then .nx (env.set i (some (.l (os ++ ds.map Ow.d)))) else .no := rfl
@[simp] theorem sPut_eq (i : Nat) (f : Ev → R Ow) (g : Ev → R D) : sPut i f g env = (f env).st env fun r => ownL i env fun os => (g env).st env (putAt i env os r) := rfl
@[simp] theorem ownL_0 (os : List Ow) (k : List Ow → SR) : ownL 0 (some (.l os) :: env) k = k os := rfl
@[simp] theorem ownL_1 (a : Option Ow) (os : List Ow) (k : List Ow → SR) : ownL 1 (a :: some (.l os) :: env) k = k os := rfl
@[simp] theorem ownL_2 (a b : Option Ow) (os : List Ow) (k : List Ow → SR) : ownL 2 (a :: b :: some (.l os) :: env) k = k os := rfl
@[simp] theorem ownL_3 (a b c : Option Ow) (os : List Ow) (k : List Ow → SR) : ownL 3 (a :: b :: c :: some (.l os) :: env) k = k os := rfl
@[simp] theorem ownL_4 (a b c d : Option Ow) (os : List Ow) (k : List Ow → SR) : ownL 4 (a :: b :: c :: d :: some (.l os) :: env) k = k os := rfl
@[simp] theorem ownL_5 (a b c d e : Option Ow) (os : List Ow) (k : List Ow → SR) : ownL 5 (a :: b :: c :: d :: e :: some (.l os) :: env) k = k os := rfl
@[simp] theorem ownL_6 (a b c d e f : Option Ow) (os : List Ow) (k : List Ow → SR) : ownL 6 (a :: b :: c :: d :: e :: f :: some (.l os) :: env) k = k os := rfl
@[simp] theorem gtName_eq (i : Nat) (d : D) : gtName i d env = if i < env.length then some (env.set i (some (.d d))) else none := rfl
@[simp] theorem gtTup_eq (n : Nat) (h : List D → Ev → Option Ev) (ds : List D) : gtTup n h (.tuple ds) env = if ds.length = n then h ds env else none := rfl
@[simp] theorem gtCons_eq (g : D → Ev → Option Ev) (h : List D → Ev → Option Ev) (d : D) (ds : List D) : gtCons g h (d :: ds) env = (g d env).bind (h ds) := rfl
@[simp] theorem gtNil_eq : gtNil [] env = some env := rfl
theorem guard_ok {c : Prop} {r : R α} (h : c) : guard c r = r := guard_pos h
@[simp] theorem guard_true {r : R α} : guard True r = r := guard_pos trivial
@[simp] theorem guard_small {a : Nat} {r : R α} (h : a ≤ sizeLine) : guard (a ≤ sizeLine) r = r := guard_pos h
end
@[simp] theorem gAddA_int (i j : Int) : gAddA (.int i) (.int j) = some (.int (i + j)) := rfl
@[simp] theorem gEq_int (i j : Int) : gEq (.int i) (.int j) = some (.bool (i == j)) := rfl
@[simp] theorem gNe_int (i j : Int) : gNe (.int i) (.int j) = some (.bool (!(i == j))) := rfl
@[simp] theorem gNeg_int (i : Int) : gNeg (.int i) = .ok (.int (-i)) := rfl
@[simp] theorem gIx_lst (ds : List D) (i : Int) : gIx (.list ds) (.int i) = atI ds i := rfl
@[simp] theorem gIsi_int_int (i : Int) : gIsi "int" (.int i) = .ok (.bool true) := by rfl
@[simp] theorem gIsi_bool_int (i : Int) : gIsi "bool" (.int i) = .ok (.bool false) := by first | rfl | decide +kernel | kernel_rfl
@[simp] theorem gIsi_list_list (ds : List D) : gIsi "list" (.list ds) = .ok (.bool true) := by rfl
@[simp] theorem gIsi_tup_tup (ds : List D) : gIsi "tuple" (.tuple ds) = .ok (.bool true) := by rfl
@[simp] theorem ixO_l (os : List Ow) (k : Int) : ixO (.l os) (.int k) = match atI os k with
    | some o => .ok o
    | none => .no := rfl
@[simp] theorem R.st_no {α : Type} (env : Ev) (f : α → SR) : (R.no : R α).st env f = .no := rfl
theorem atI_natD {α : Type} {xs : List α} {k : Nat} {x : α} (h : xs[k]? = some x) : atI xs (k : Int) = some x := by
  unfold atI ixN
  have hl := (List.getElem?_eq_some_iff.mp h).1
  rw [if_pos (by omega), if_pos (by omega)]
  simpa using h
theorem ixN_nat {n k : Nat} (h : k < n) : ixN n (k : Int) = some k := by
  unfold ixN
  rw [if_pos (by omega), if_pos (by omega)]
  simp
@[simp] theorem atI_0 {α : Type} (x : α) (xs : List α) : atI (x :: xs) 0 = some x := atI_natD (k := 0) rfl
@[simp] theorem atI_1 {α : Type} (x y : α) (xs : List α) : atI (x :: y :: xs) 1 = some y := atI_natD (k := 1) rfl
@[simp] theorem atI_2 {α : Type} (x y z : α) (xs : List α) : atI (x :: y :: z :: xs) 2 = some z := atI_natD (k := 2) rfl
@[simp] theorem atI_3 {α : Type} (x y z u : α) (xs : List α) : atI (x :: y :: z :: u :: xs) 3 = some u := atI_natD (k := 3) rfl
@[simp] theorem atI_4 {α : Type} (x y z u v : α) (xs : List α) : atI (x :: y :: z :: u :: v :: xs) 4 = some v := atI_natD (k := 4) rfl
theorem forL_ind {g : D → Ev → Option Ev} {f : Ev → SR} (items : List D) (I : Nat → Ev → Prop) (step : ∀ i d env, items[i]? = some d → I i env → ∃ env1, g d env = some env1 ∧ ∃ env2, (f env1 = .nx env2 ∨ f env1 = .ct env2) ∧ I (i + 1) env2) :
    ∀ env, I 0 env → ∃ env', forL g f items env = .nx env' ∧ I items.length env' := by
  suffices h : ∀ (ds : List D) (k : Nat) (env : Ev), items.drop k = ds → k ≤ items.length → I k env → ∃ env', forL g f ds env = .nx env' ∧ I items.length env' from fun env h0 => h items 0 env rfl (Nat.zero_le _) h0
  intro ds
  induction ds with
  | nil =>
    intro k env hd hk h
    have : k = items.length := by
      have := congrArg List.length hd
      simp at this
      omega
    subst this
    exact ⟨env, rfl, h⟩
  | cons d ds ih =>
    intro k env hd hk h
    have hk' : k < items.length := by
      have := congrArg List.length hd
      simp at this
      omega
    rw [List.drop_eq_getElem_cons hk'] at hd
    obtain ⟨e1, e2⟩ := List.cons.inj hd
    obtain ⟨env1, g1, env2, g2, g3⟩ := step k d env (by rw [List.getElem?_eq_getElem hk', e1]) h
    obtain ⟨env', r1, r2⟩ := ih (k + 1) env2 e2 hk' g3
    refine ⟨env', ?_, r2⟩
    unfold forL
    rw [g1]
    rcases g2 with g2 | g2 <;> (simp only; rw [g2]; exact r1)
theorem eLc_of {fi : Ev → R (List D)} {g : D → Ev → Option Ev} {c : Ev → R Bool} {e : Ev → R Ow} {vs : List Nat} {env : Ev} {ds : List D} {rs : List Ow} (h1 : fi env = .ok ds) (hl : ds.length ≤ sizeLine) (h2 : lcR g c e (wipeE env vs) ds = .ok rs) : eLc fi g c e vs env = .ok (.l rs) := by
  unfold eLc
  rw [h1, R.bind_ok, guard_ok hl, h2]
  rfl
def finR : SR → R Ow
  | .nx _ => .ok (.d .none)
  | .rt r _ => .ok r
  | .ex c _ => .ex c
  | _ => .no
theorem runB_fin (k : Nat) (f : Ev → SR) (ds : List D) : runB k f ds = finR (f (envOf k ds)) := by
  unfold runB
  cases f (envOf k ds) <;> rfl
@[simp] theorem finR_nx (env : Ev) : finR (.nx env) = .ok (.d .none) := rfl
@[simp] theorem finR_rt (r : Ow) (env : Ev) : finR (.rt r env) = .ok r := rfl
@[simp] theorem finR_ex (c : Str) (env : Ev) : finR (.ex c env) = .ex c := rfl
@[simp] theorem finR_no : finR .no = .no := rfl
@[simp] theorem envOf_nil (k : Nat) : envOf k [] = List.replicate k none := rfl
@[simp] theorem envOf_cons (k : Nat) (d : D) (ds : List D) : envOf k (d :: ds) = some (.d d) :: envOf k ds := rfl
end Mir
end
set_option Elab.async false
set_option linter.all false
set_option maxRecDepth 100000
set_option maxHeartbeats 4000000
noncomputable section
namespace Mir
open PySem PySem.Spec L2

section
variable {X : Cx} {W : WX} {S : Nat → Bool}
def sNo (_ : Ev) : SR := .no
def inD (d : D) (ds : List D) : Bool := ds.any fun e => PyData.eqv e d
def inOk (d : D) (ds : List D) : Bool := d.canLay0 && decide (d.depth ≤ 130) && ds.all fun e => e.canLay0
def gInB (neg : Bool) : D → D → Option D
  | .str x, .str z => match x.cps.toList with
    | [c] => some (.bool (xor neg (decide (c ∈ z.cps.toList))))
    | _ => none
  | d, .list ds => if inOk d ds = true then some (.bool (xor neg (inD d ds))) else none
  | d, .tuple ds => if inOk d ds = true then some (.bool (xor neg (inD d ds))) else none
  | _, _ => none
def gIn := gInB false
def rInA (K : Kw) (neg : Bool) : R2 := fun x y H Q => ∃ d ds, Dp K H x d ∧ (Dp K H y (.list ds) ∨ Dp K H y (.tuple ds)) ∧ inOk d ds = true ∧ Q (.bl (xor neg (inD d ds))) H
theorem inOk_cases {d : D} {ds : List D} (h : inOk d ds = true) : d.canLay0 = true ∧ d.depth ≤ 130 ∧ ∀ e ∈ ds, e.canLay0 = true := by
  unfold inOk at h
  simp only [Bool.and_eq_true, decide_eq_true_eq, List.all_eq_true] at h
  exact ⟨h.1.1, h.1.2, h.2⟩
open Classical in
/-- what the items answer, by the values -/
def eqW (s : Shared) (d : D) (ds : List D) (u : Value) : Bool := if ∃ e as, e ∈ ds ∧ PySem.Reads s.heap u e as ∧ PyData.eqv e d = true then true else false
theorem eqW_of {s : Shared} {d e : D} {ds : List D} {u : Value} {as : List Addr} (he : e ∈ ds) (hc : ∀ e ∈ ds, e.canLay0 = true) (r : PySem.Reads s.heap u e as) : eqW s d ds u = PyData.eqv e d := by
  unfold eqW
  cases h : PyData.eqv e d with
  | true => exact if_pos ⟨e, as, he, r, h⟩
  | false =>
    refine if_neg fun ⟨e', as', h1, h2, h3⟩ => ?_
    have := SeqAt.Reads.unique e' e u as' as (hc e' h1) h2 r
    subst this
    rw [h] at h3; cases h3
theorem any_eqW {s : Shared} {d : D} {ds0 : List D} (hc : ∀ e ∈ ds0, e.canLay0 = true) : ∀ {ds : List D} {us : List Value}, (∀ e ∈ ds, e ∈ ds0) → PySem.W.EachIs (fun v d => ∃ as, PySem.Reads s.heap v d as) us ds → us.any (eqW s d ds0) = ds.any fun e => PyData.eqv e d
  | _, _, _, .nil => rfl
  | _, _, hs, .cons ⟨as, r⟩ t => by
    rw [List.any_cons, List.any_cons, eqW_of (hs _ List.mem_cons_self) hc r, any_eqW hc (fun e he => hs e (List.mem_cons_of_mem _ he)) t]
theorem eachIs_mem {α β : Type} {T : α → β → Prop} : ∀ {as : List α} {bs : List β}, PySem.W.EachIs T as bs → ∀ a ∈ as, ∃ b ∈ bs, T a b
  | _, _, .nil, a, h => by cases h
  | _, _, .cons h t, a, hm => by
    rcases List.mem_cons.mp hm with e | e
    · subst e; exact ⟨_, List.mem_cons_self, h⟩
    · obtain ⟨b, b1, b2⟩ := eachIs_mem t a e
      exact ⟨b, List.mem_cons_of_mem _ b1, b2⟩
theorem each_reads0 {X : Cx} {pins : List (Addr × Obj)} {s : Shared} {σ : L2.St} {H : Hp} (I : Inv X pins σ H s) : ∀ {xs : List V} {vs : List Value} {ds : List D}, Vals xs vs → DpAll X.KK H xs ds → (∀ d ∈ ds, d.canLay0 = true) → PySem.W.EachIs (fun v d => ∃ as, PySem.Reads s.heap v d as) vs ds
  | _, _, _, .nil, h, _ => by cases h; exact .nil
  | _, _, _, .cons r t, h, c => by
    cases h with
    | cons h1 h2 => exact .cons (L2.Dp.reads I _ _ _ (Dp.kit _ _ h1 (c _ List.mem_cons_self)) r) (each_reads0 I t h2 fun d hd => c d (List.mem_cons_of_mem _ hd))
theorem op_inA (neg : Bool) (hu : X.A.units + 140 < cLine) : OpR X (compareOp (if neg then .NotIn else .In)) (rInA X.KK neg) := by
  intro pins s σ H x y v u Q I rx ry h
  obtain ⟨d, ds, hx, hy, ok, q⟩ := h
  obtain ⟨c1, c2, c3⟩ := inOk_cases ok
  obtain ⟨bs, rd⟩ := L2.Dp.reads I d x v (Dp.kit _ _ hx c1) rx
  have key : ∀ (its : List Value), PySem.W.EachIs (fun v d => ∃ as, PySem.Reads s.heap v d as) its ds → (∀ y, y ∈ its.toArray → SeqAt.EqAt X.A.in1 s y v (eqW s d ds y)) ∧ its.toArray.any (eqW s d ds) = inD d ds := fun its er => by
    refine ⟨fun w hw => ?_, ?_⟩
    · obtain ⟨e, he, as, re⟩ := eachIs_mem er w (by simpa using hw)
      rw [eqW_of he c3 re]
      refine SeqAt.eqAt_reads e d X.A.in1 s w v as bs re rd (c3 e he) c1 ?_
      have := Nat.min_le_right e.depth d.depth
      show X.A.units + 1 + min e.depth d.depth < cLine
      omega
    · rw [show its.toArray.any (eqW s d ds) = its.any (eqW s d ds) by simp, any_eqW c3 (fun _ h => h) er]
      rfl
  rcases hy with hy | hy
  · obtain ⟨p, xs, rfl, h1, h2⟩ := dp_lst hy
    obtain ⟨its, r, pl, hz⟩ := I.list h1
    cases ry
    obtain ⟨k1, k2⟩ := key its (each_reads0 I r h2 c3)
    cases neg with
    | false => exact SeqAt.in_listAt (eqW s d ds) pl.isList k1 ⟨.bl _, H, I, by rw [k2]; rfl, by simpa using q⟩
    | true => exact SeqAt.notIn_listAt (eqW s d ds) pl.isList k1 ⟨.bl _, H, I, by rw [k2]; rfl, by simpa using q⟩
  · obtain ⟨p, xs, rfl, h1, h2⟩ := dp_tup hy
    obtain ⟨its, r, pl, hz⟩ := I.tuple h1
    cases ry
    obtain ⟨k1, k2⟩ := key its (each_reads0 I r h2 c3)
    cases neg with
    | false => exact SeqAt.in_tupleAt (eqW s d ds) pl k1 ⟨.bl _, H, I, by rw [k2]; rfl, by simpa using q⟩
    | true => exact SeqAt.notIn_tupleAt (eqW s d ds) pl k1 ⟨.bl _, H, I, by rw [k2]; rfl, by simpa using q⟩
theorem str_one {x : Str} {c : Nat} (h : x.cps.toList = [c]) : x = ⟨#[c]⟩ := by
  cases x with
  | mk a =>
    have : a = #[c] := Array.toList_inj.mp h
    rw [this]
theorem opS_in {K : Kw} : OpS K (fun x y H Q => rInS x y H Q ∨ rInA K false x y H Q) gIn := by
  intro H x y dx dy d Q hx hy e q
  unfold gIn gInB at e
  split at e
  · rename_i a z
    split at e
    · rename_i c hc
      cases e
      cases dp_str hx
      cases dp_str hy
      exact .inl ⟨c, z, by rw [str_one hc], rfl, by simpa using q _ fun F => .bl _⟩
    · cases e
  · split at e
    · cases e
      exact .inr ⟨_, _, hx, .inl hy, ‹_›, q _ fun F => .bl _⟩
    · cases e
  · split at e
    · cases e
      exact .inr ⟨_, _, hx, .inr hy, ‹_›, q _ fun F => .bl _⟩
    · cases e
  · cases e
variable {a b : Expr} {pos : Pos} {f g : Ev → R D}
theorem op_inF (hu : X.A.units + 140 < cLine) : OpR X (compareOp .In) (rInA X.KK false) := op_inA false hu
theorem dt_in (hu : X.A.units + 140 < cLine) (ha : DV X W a f) (hb : DV X W b g) (hm : behindInMarks .In b = false := by first | exact nomark _ | rfl) : DT X W (.Compare a [.In] [b] pos) (eB (eBin gIn f g) asB) := dt_cmp (OpR.or op_inS (op_inF hu)) opS_in ha hb hm
end
@[simp] theorem sNo_eq (env : Ev) : sNo env = .no := rfl
end Mir
end
set_option Elab.async false
set_option linter.all false
set_option maxRecDepth 100000
noncomputable section
namespace Mir
open PySem PySem.Spec L2
@[simp] theorem ownL_7 (a0 a1 a2 a3 a4 a5 a6 : Option Ow) (os : List Ow) (env : Ev) (k : List Ow → SR) : ownL 7 (a0 :: a1 :: a2 :: a3 :: a4 :: a5 :: a6 :: some (.l os) :: env) k = k os := rfl
@[simp] theorem eVarO_8 (a0 a1 a2 a3 a4 a5 a6 a7 : Option Ow) (x : Ow) (env : Ev) : eVarO 8 (a0 :: a1 :: a2 :: a3 :: a4 :: a5 :: a6 :: a7 :: some x :: env) = .ok x := rfl
@[simp] theorem ownL_8 (a0 a1 a2 a3 a4 a5 a6 a7 : Option Ow) (os : List Ow) (env : Ev) (k : List Ow → SR) : ownL 8 (a0 :: a1 :: a2 :: a3 :: a4 :: a5 :: a6 :: a7 :: some (.l os) :: env) k = k os := rfl
@[simp] theorem eVarO_9 (a0 a1 a2 a3 a4 a5 a6 a7 a8 : Option Ow) (x : Ow) (env : Ev) : eVarO 9 (a0 :: a1 :: a2 :: a3 :: a4 :: a5 :: a6 :: a7 :: a8 :: some x :: env) = .ok x := rfl
@[simp] theorem ownL_9 (a0 a1 a2 a3 a4 a5 a6 a7 a8 : Option Ow) (os : List Ow) (env : Ev) (k : List Ow → SR) : ownL 9 (a0 :: a1 :: a2 :: a3 :: a4 :: a5 :: a6 :: a7 :: a8 :: some (.l os) :: env) k = k os := rfl
@[simp] theorem eVar_10 (a0 a1 a2 a3 a4 a5 a6 a7 a8 a9 : Option Ow) (x : D) (env : Ev) : eVar 10 (a0 :: a1 :: a2 :: a3 :: a4 :: a5 :: a6 :: a7 :: a8 :: a9 :: some (.d x) :: env) = .ok x := rfl
@[simp] theorem eVarO_10 (a0 a1 a2 a3 a4 a5 a6 a7 a8 a9 : Option Ow) (x : Ow) (env : Ev) : eVarO 10 (a0 :: a1 :: a2 :: a3 :: a4 :: a5 :: a6 :: a7 :: a8 :: a9 :: some x :: env) = .ok x := rfl
@[simp] theorem ownL_10 (a0 a1 a2 a3 a4 a5 a6 a7 a8 a9 : Option Ow) (os : List Ow) (env : Ev) (k : List Ow → SR) : ownL 10 (a0 :: a1 :: a2 :: a3 :: a4 :: a5 :: a6 :: a7 :: a8 :: a9 :: some (.l os) :: env) k = k os := rfl
@[simp] theorem eVar_11 (a0 a1 a2 a3 a4 a5 a6 a7 a8 a9 a10 : Option Ow) (x : D) (env : Ev) : eVar 11 (a0 :: a1 :: a2 :: a3 :: a4 :: a5 :: a6 :: a7 :: a8 :: a9 :: a10 :: some (.d x) :: env) = .ok x := rfl
@[simp] theorem eVarO_11 (a0 a1 a2 a3 a4 a5 a6 a7 a8 a9 a10 : Option Ow) (x : Ow) (env : Ev) : eVarO 11 (a0 :: a1 :: a2 :: a3 :: a4 :: a5 :: a6 :: a7 :: a8 :: a9 :: a10 :: some x :: env) = .ok x := rfl
@[simp] theorem ownL_11 (a0 a1 a2 a3 a4 a5 a6 a7 a8 a9 a10 : Option Ow) (os : List Ow) (env : Ev) (k : List Ow → SR) : ownL 11 (a0 :: a1 :: a2 :: a3 :: a4 :: a5 :: a6 :: a7 :: a8 :: a9 :: a10 :: some (.l os) :: env) k = k os := rfl
@[simp] theorem eVar_12 (a0 a1 a2 a3 a4 a5 a6 a7 a8 a9 a10 a11 : Option Ow) (x : D) (env : Ev) : eVar 12 (a0 :: a1 :: a2 :: a3 :: a4 :: a5 :: a6 :: a7 :: a8 :: a9 :: a10 :: a11 :: some (.d x) :: env) = .ok x := rfl
@[simp] theorem eVarO_12 (a0 a1 a2 a3 a4 a5 a6 a7 a8 a9 a10 a11 : Option Ow) (x : Ow) (env : Ev) : eVarO 12 (a0 :: a1 :: a2 :: a3 :: a4 :: a5 :: a6 :: a7 :: a8 :: a9 :: a10 :: a11 :: some x :: env) = .ok x := rfl
@[simp] theorem ownL_12 (a0 a1 a2 a3 a4 a5 a6 a7 a8 a9 a10 a11 : Option Ow) (os : List Ow) (env : Ev) (k : List Ow → SR) : ownL 12 (a0 :: a1 :: a2 :: a3 :: a4 :: a5 :: a6 :: a7 :: a8 :: a9 :: a10 :: a11 :: some (.l os) :: env) k = k os := rfl
@[simp] theorem eVar_13 (a0 a1 a2 a3 a4 a5 a6 a7 a8 a9 a10 a11 a12 : Option Ow) (x : D) (env : Ev) : eVar 13 (a0 :: a1 :: a2 :: a3 :: a4 :: a5 :: a6 :: a7 :: a8 :: a9 :: a10 :: a11 :: a12 :: some (.d x) :: env) = .ok x := rfl
@[simp] theorem eVarO_13 (a0 a1 a2 a3 a4 a5 a6 a7 a8 a9 a10 a11 a12 : Option Ow) (x : Ow) (env : Ev) : eVarO 13 (a0 :: a1 :: a2 :: a3 :: a4 :: a5 :: a6 :: a7 :: a8 :: a9 :: a10 :: a11 :: a12 :: some x :: env) = .ok x := rfl
@[simp] theorem ownL_13 (a0 a1 a2 a3 a4 a5 a6 a7 a8 a9 a10 a11 a12 : Option Ow) (os : List Ow) (env : Ev) (k : List Ow → SR) : ownL 13 (a0 :: a1 :: a2 :: a3 :: a4 :: a5 :: a6 :: a7 :: a8 :: a9 :: a10 :: a11 :: a12 :: some (.l os) :: env) k = k os := rfl
@[simp] theorem eVar_14 (a0 a1 a2 a3 a4 a5 a6 a7 a8 a9 a10 a11 a12 a13 : Option Ow) (x : D) (env : Ev) : eVar 14 (a0 :: a1 :: a2 :: a3 :: a4 :: a5 :: a6 :: a7 :: a8 :: a9 :: a10 :: a11 :: a12 :: a13 :: some (.d x) :: env) = .ok x := rfl
@[simp] theorem eVarO_14 (a0 a1 a2 a3 a4 a5 a6 a7 a8 a9 a10 a11 a12 a13 : Option Ow) (x : Ow) (env : Ev) : eVarO 14 (a0 :: a1 :: a2 :: a3 :: a4 :: a5 :: a6 :: a7 :: a8 :: a9 :: a10 :: a11 :: a12 :: a13 :: some x :: env) = .ok x := rfl
@[simp] theorem ownL_14 (a0 a1 a2 a3 a4 a5 a6 a7 a8 a9 a10 a11 a12 a13 : Option Ow) (os : List Ow) (env : Ev) (k : List Ow → SR) : ownL 14 (a0 :: a1 :: a2 :: a3 :: a4 :: a5 :: a6 :: a7 :: a8 :: a9 :: a10 :: a11 :: a12 :: a13 :: some (.l os) :: env) k = k os := rfl
@[simp] theorem eVar_15 (a0 a1 a2 a3 a4 a5 a6 a7 a8 a9 a10 a11 a12 a13 a14 : Option Ow) (x : D) (env : Ev) : eVar 15 (a0 :: a1 :: a2 :: a3 :: a4 :: a5 :: a6 :: a7 :: a8 :: a9 :: a10 :: a11 :: a12 :: a13 :: a14 :: some (.d x) :: env) = .ok x := rfl
@[simp] theorem eVarO_15 (a0 a1 a2 a3 a4 a5 a6 a7 a8 a9 a10 a11 a12 a13 a14 : Option Ow) (x : Ow) (env : Ev) : eVarO 15 (a0 :: a1 :: a2 :: a3 :: a4 :: a5 :: a6 :: a7 :: a8 :: a9 :: a10 :: a11 :: a12 :: a13 :: a14 :: some x :: env) = .ok x := rfl
@[simp] theorem ownL_15 (a0 a1 a2 a3 a4 a5 a6 a7 a8 a9 a10 a11 a12 a13 a14 : Option Ow) (os : List Ow) (env : Ev) (k : List Ow → SR) : ownL 15 (a0 :: a1 :: a2 :: a3 :: a4 :: a5 :: a6 :: a7 :: a8 :: a9 :: a10 :: a11 :: a12 :: a13 :: a14 :: some (.l os) :: env) k = k os := rfl
@[simp] theorem eVar_16 (a0 a1 a2 a3 a4 a5 a6 a7 a8 a9 a10 a11 a12 a13 a14 a15 : Option Ow) (x : D) (env : Ev) : eVar 16 (a0 :: a1 :: a2 :: a3 :: a4 :: a5 :: a6 :: a7 :: a8 :: a9 :: a10 :: a11 :: a12 :: a13 :: a14 :: a15 :: some (.d x) :: env) = .ok x := rfl
@[simp] theorem eVarO_16 (a0 a1 a2 a3 a4 a5 a6 a7 a8 a9 a10 a11 a12 a13 a14 a15 : Option Ow) (x : Ow) (env : Ev) : eVarO 16 (a0 :: a1 :: a2 :: a3 :: a4 :: a5 :: a6 :: a7 :: a8 :: a9 :: a10 :: a11 :: a12 :: a13 :: a14 :: a15 :: some x :: env) = .ok x := rfl
@[simp] theorem ownL_16 (a0 a1 a2 a3 a4 a5 a6 a7 a8 a9 a10 a11 a12 a13 a14 a15 : Option Ow) (os : List Ow) (env : Ev) (k : List Ow → SR) : ownL 16 (a0 :: a1 :: a2 :: a3 :: a4 :: a5 :: a6 :: a7 :: a8 :: a9 :: a10 :: a11 :: a12 :: a13 :: a14 :: a15 :: some (.l os) :: env) k = k os := rfl
@[simp] theorem eVar_17 (a0 a1 a2 a3 a4 a5 a6 a7 a8 a9 a10 a11 a12 a13 a14 a15 a16 : Option Ow) (x : D) (env : Ev) : eVar 17 (a0 :: a1 :: a2 :: a3 :: a4 :: a5 :: a6 :: a7 :: a8 :: a9 :: a10 :: a11 :: a12 :: a13 :: a14 :: a15 :: a16 :: some (.d x) :: env) = .ok x := rfl
@[simp] theorem eVarO_17 (a0 a1 a2 a3 a4 a5 a6 a7 a8 a9 a10 a11 a12 a13 a14 a15 a16 : Option Ow) (x : Ow) (env : Ev) : eVarO 17 (a0 :: a1 :: a2 :: a3 :: a4 :: a5 :: a6 :: a7 :: a8 :: a9 :: a10 :: a11 :: a12 :: a13 :: a14 :: a15 :: a16 :: some x :: env) = .ok x := rfl
@[simp] theorem ownL_17 (a0 a1 a2 a3 a4 a5 a6 a7 a8 a9 a10 a11 a12 a13 a14 a15 a16 : Option Ow) (os : List Ow) (env : Ev) (k : List Ow → SR) : ownL 17 (a0 :: a1 :: a2 :: a3 :: a4 :: a5 :: a6 :: a7 :: a8 :: a9 :: a10 :: a11 :: a12 :: a13 :: a14 :: a15 :: a16 :: some (.l os) :: env) k = k os := rfl
@[simp] theorem eVar_18 (a0 a1 a2 a3 a4 a5 a6 a7 a8 a9 a10 a11 a12 a13 a14 a15 a16 a17 : Option Ow) (x : D) (env : Ev) : eVar 18 (a0 :: a1 :: a2 :: a3 :: a4 :: a5 :: a6 :: a7 :: a8 :: a9 :: a10 :: a11 :: a12 :: a13 :: a14 :: a15 :: a16 :: a17 :: some (.d x) :: env) = .ok x := rfl
@[simp] theorem eVarO_18 (a0 a1 a2 a3 a4 a5 a6 a7 a8 a9 a10 a11 a12 a13 a14 a15 a16 a17 : Option Ow) (x : Ow) (env : Ev) : eVarO 18 (a0 :: a1 :: a2 :: a3 :: a4 :: a5 :: a6 :: a7 :: a8 :: a9 :: a10 :: a11 :: a12 :: a13 :: a14 :: a15 :: a16 :: a17 :: some x :: env) = .ok x := rfl
@[simp] theorem ownL_18 (a0 a1 a2 a3 a4 a5 a6 a7 a8 a9 a10 a11 a12 a13 a14 a15 a16 a17 : Option Ow) (os : List Ow) (env : Ev) (k : List Ow → SR) : ownL 18 (a0 :: a1 :: a2 :: a3 :: a4 :: a5 :: a6 :: a7 :: a8 :: a9 :: a10 :: a11 :: a12 :: a13 :: a14 :: a15 :: a16 :: a17 :: some (.l os) :: env) k = k os := rfl
@[simp] theorem eVar_19 (a0 a1 a2 a3 a4 a5 a6 a7 a8 a9 a10 a11 a12 a13 a14 a15 a16 a17 a18 : Option Ow) (x : D) (env : Ev) : eVar 19 (a0 :: a1 :: a2 :: a3 :: a4 :: a5 :: a6 :: a7 :: a8 :: a9 :: a10 :: a11 :: a12 :: a13 :: a14 :: a15 :: a16 :: a17 :: a18 :: some (.d x) :: env) = .ok x := rfl
@[simp] theorem eVarO_19 (a0 a1 a2 a3 a4 a5 a6 a7 a8 a9 a10 a11 a12 a13 a14 a15 a16 a17 a18 : Option Ow) (x : Ow) (env : Ev) : eVarO 19 (a0 :: a1 :: a2 :: a3 :: a4 :: a5 :: a6 :: a7 :: a8 :: a9 :: a10 :: a11 :: a12 :: a13 :: a14 :: a15 :: a16 :: a17 :: a18 :: some x :: env) = .ok x := rfl
@[simp] theorem ownL_19 (a0 a1 a2 a3 a4 a5 a6 a7 a8 a9 a10 a11 a12 a13 a14 a15 a16 a17 a18 : Option Ow) (os : List Ow) (env : Ev) (k : List Ow → SR) : ownL 19 (a0 :: a1 :: a2 :: a3 :: a4 :: a5 :: a6 :: a7 :: a8 :: a9 :: a10 :: a11 :: a12 :: a13 :: a14 :: a15 :: a16 :: a17 :: a18 :: some (.l os) :: env) k = k os := rfl
@[simp] theorem eVar_20 (a0 a1 a2 a3 a4 a5 a6 a7 a8 a9 a10 a11 a12 a13 a14 a15 a16 a17 a18 a19 : Option Ow) (x : D) (env : Ev) : eVar 20 (a0 :: a1 :: a2 :: a3 :: a4 :: a5 :: a6 :: a7 :: a8 :: a9 :: a10 :: a11 :: a12 :: a13 :: a14 :: a15 :: a16 :: a17 :: a18 :: a19 :: some (.d x) :: env) = .ok x := rfl
@[simp] theorem eVarO_20 (a0 a1 a2 a3 a4 a5 a6 a7 a8 a9 a10 a11 a12 a13 a14 a15 a16 a17 a18 a19 : Option Ow) (x : Ow) (env : Ev) : eVarO 20 (a0 :: a1 :: a2 :: a3 :: a4 :: a5 :: a6 :: a7 :: a8 :: a9 :: a10 :: a11 :: a12 :: a13 :: a14 :: a15 :: a16 :: a17 :: a18 :: a19 :: some x :: env) = .ok x := rfl
@[simp] theorem ownL_20 (a0 a1 a2 a3 a4 a5 a6 a7 a8 a9 a10 a11 a12 a13 a14 a15 a16 a17 a18 a19 : Option Ow) (os : List Ow) (env : Ev) (k : List Ow → SR) : ownL 20 (a0 :: a1 :: a2 :: a3 :: a4 :: a5 :: a6 :: a7 :: a8 :: a9 :: a10 :: a11 :: a12 :: a13 :: a14 :: a15 :: a16 :: a17 :: a18 :: a19 :: some (.l os) :: env) k = k os := rfl
@[simp] theorem eVar_21 (a0 a1 a2 a3 a4 a5 a6 a7 a8 a9 a10 a11 a12 a13 a14 a15 a16 a17 a18 a19 a20 : Option Ow) (x : D) (env : Ev) : eVar 21 (a0 :: a1 :: a2 :: a3 :: a4 :: a5 :: a6 :: a7 :: a8 :: a9 :: a10 :: a11 :: a12 :: a13 :: a14 :: a15 :: a16 :: a17 :: a18 :: a19 :: a20 :: some (.d x) :: env) = .ok x := rfl
@[simp] theorem eVarO_21 (a0 a1 a2 a3 a4 a5 a6 a7 a8 a9 a10 a11 a12 a13 a14 a15 a16 a17 a18 a19 a20 : Option Ow) (x : Ow) (env : Ev) : eVarO 21 (a0 :: a1 :: a2 :: a3 :: a4 :: a5 :: a6 :: a7 :: a8 :: a9 :: a10 :: a11 :: a12 :: a13 :: a14 :: a15 :: a16 :: a17 :: a18 :: a19 :: a20 :: some x :: env) = .ok x := rfl
@[simp] theorem ownL_21 (a0 a1 a2 a3 a4 a5 a6 a7 a8 a9 a10 a11 a12 a13 a14 a15 a16 a17 a18 a19 a20 : Option Ow) (os : List Ow) (env : Ev) (k : List Ow → SR) : ownL 21 (a0 :: a1 :: a2 :: a3 :: a4 :: a5 :: a6 :: a7 :: a8 :: a9 :: a10 :: a11 :: a12 :: a13 :: a14 :: a15 :: a16 :: a17 :: a18 :: a19 :: a20 :: some (.l os) :: env) k = k os := rfl
@[simp] theorem eVar_22 (a0 a1 a2 a3 a4 a5 a6 a7 a8 a9 a10 a11 a12 a13 a14 a15 a16 a17 a18 a19 a20 a21 : Option Ow) (x : D) (env : Ev) : eVar 22 (a0 :: a1 :: a2 :: a3 :: a4 :: a5 :: a6 :: a7 :: a8 :: a9 :: a10 :: a11 :: a12 :: a13 :: a14 :: a15 :: a16 :: a17 :: a18 :: a19 :: a20 :: a21 :: some (.d x) :: env) = .ok x := rfl
@[simp] theorem eVarO_22 (a0 a1 a2 a3 a4 a5 a6 a7 a8 a9 a10 a11 a12 a13 a14 a15 a16 a17 a18 a19 a20 a21 : Option Ow) (x : Ow) (env : Ev) : eVarO 22 (a0 :: a1 :: a2 :: a3 :: a4 :: a5 :: a6 :: a7 :: a8 :: a9 :: a10 :: a11 :: a12 :: a13 :: a14 :: a15 :: a16 :: a17 :: a18 :: a19 :: a20 :: a21 :: some x :: env) = .ok x := rfl
@[simp] theorem ownL_22 (a0 a1 a2 a3 a4 a5 a6 a7 a8 a9 a10 a11 a12 a13 a14 a15 a16 a17 a18 a19 a20 a21 : Option Ow) (os : List Ow) (env : Ev) (k : List Ow → SR) : ownL 22 (a0 :: a1 :: a2 :: a3 :: a4 :: a5 :: a6 :: a7 :: a8 :: a9 :: a10 :: a11 :: a12 :: a13 :: a14 :: a15 :: a16 :: a17 :: a18 :: a19 :: a20 :: a21 :: some (.l os) :: env) k = k os := rfl
@[simp] theorem eVar_23 (a0 a1 a2 a3 a4 a5 a6 a7 a8 a9 a10 a11 a12 a13 a14 a15 a16 a17 a18 a19 a20 a21 a22 : Option Ow) (x : D) (env : Ev) : eVar 23 (a0 :: a1 :: a2 :: a3 :: a4 :: a5 :: a6 :: a7 :: a8 :: a9 :: a10 :: a11 :: a12 :: a13 :: a14 :: a15 :: a16 :: a17 :: a18 :: a19 :: a20 :: a21 :: a22 :: some (.d x) :: env) = .ok x := rfl
@[simp] theorem eVarO_23 (a0 a1 a2 a3 a4 a5 a6 a7 a8 a9 a10 a11 a12 a13 a14 a15 a16 a17 a18 a19 a20 a21 a22 : Option Ow) (x : Ow) (env : Ev) : eVarO 23 (a0 :: a1 :: a2 :: a3 :: a4 :: a5 :: a6 :: a7 :: a8 :: a9 :: a10 :: a11 :: a12 :: a13 :: a14 :: a15 :: a16 :: a17 :: a18 :: a19 :: a20 :: a21 :: a22 :: some x :: env) = .ok x := rfl
@[simp] theorem ownL_23 (a0 a1 a2 a3 a4 a5 a6 a7 a8 a9 a10 a11 a12 a13 a14 a15 a16 a17 a18 a19 a20 a21 a22 : Option Ow) (os : List Ow) (env : Ev) (k : List Ow → SR) : ownL 23 (a0 :: a1 :: a2 :: a3 :: a4 :: a5 :: a6 :: a7 :: a8 :: a9 :: a10 :: a11 :: a12 :: a13 :: a14 :: a15 :: a16 :: a17 :: a18 :: a19 :: a20 :: a21 :: a22 :: some (.l os) :: env) k = k os := rfl
@[simp] theorem eVar_24 (a0 a1 a2 a3 a4 a5 a6 a7 a8 a9 a10 a11 a12 a13 a14 a15 a16 a17 a18 a19 a20 a21 a22 a23 : Option Ow) (x : D) (env : Ev) : eVar 24 (a0 :: a1 :: a2 :: a3 :: a4 :: a5 :: a6 :: a7 :: a8 :: a9 :: a10 :: a11 :: a12 :: a13 :: a14 :: a15 :: a16 :: a17 :: a18 :: a19 :: a20 :: a21 :: a22 :: a23 :: some (.d x) :: env) = .ok x := rfl
@[simp] theorem eVarO_24 (a0 a1 a2 a3 a4 a5 a6 a7 a8 a9 a10 a11 a12 a13 a14 a15 a16 a17 a18 a19 a20 a21 a22 a23 : Option Ow) (x : Ow) (env : Ev) : eVarO 24 (a0 :: a1 :: a2 :: a3 :: a4 :: a5 :: a6 :: a7 :: a8 :: a9 :: a10 :: a11 :: a12 :: a13 :: a14 :: a15 :: a16 :: a17 :: a18 :: a19 :: a20 :: a21 :: a22 :: a23 :: some x :: env) = .ok x := rfl
@[simp] theorem ownL_24 (a0 a1 a2 a3 a4 a5 a6 a7 a8 a9 a10 a11 a12 a13 a14 a15 a16 a17 a18 a19 a20 a21 a22 a23 : Option Ow) (os : List Ow) (env : Ev) (k : List Ow → SR) : ownL 24 (a0 :: a1 :: a2 :: a3 :: a4 :: a5 :: a6 :: a7 :: a8 :: a9 :: a10 :: a11 :: a12 :: a13 :: a14 :: a15 :: a16 :: a17 :: a18 :: a19 :: a20 :: a21 :: a22 :: a23 :: some (.l os) :: env) k = k os := rfl
@[simp] theorem eVar_25 (a0 a1 a2 a3 a4 a5 a6 a7 a8 a9 a10 a11 a12 a13 a14 a15 a16 a17 a18 a19 a20 a21 a22 a23 a24 : Option Ow) (x : D) (env : Ev) : eVar 25 (a0 :: a1 :: a2 :: a3 :: a4 :: a5 :: a6 :: a7 :: a8 :: a9 :: a10 :: a11 :: a12 :: a13 :: a14 :: a15 :: a16 :: a17 :: a18 :: a19 :: a20 :: a21 :: a22 :: a23 :: a24 :: some (.d x) :: env) = .ok x := rfl
@[simp] theorem eVarO_25 (a0 a1 a2 a3 a4 a5 a6 a7 a8 a9 a10 a11 a12 a13 a14 a15 a16 a17 a18 a19 a20 a21 a22 a23 a24 : Option Ow) (x : Ow) (env : Ev) : eVarO 25 (a0 :: a1 :: a2 :: a3 :: a4 :: a5 :: a6 :: a7 :: a8 :: a9 :: a10 :: a11 :: a12 :: a13 :: a14 :: a15 :: a16 :: a17 :: a18 :: a19 :: a20 :: a21 :: a22 :: a23 :: a24 :: some x :: env) = .ok x := rfl
@[simp] theorem ownL_25 (a0 a1 a2 a3 a4 a5 a6 a7 a8 a9 a10 a11 a12 a13 a14 a15 a16 a17 a18 a19 a20 a21 a22 a23 a24 : Option Ow) (os : List Ow) (env : Ev) (k : List Ow → SR) : ownL 25 (a0 :: a1 :: a2 :: a3 :: a4 :: a5 :: a6 :: a7 :: a8 :: a9 :: a10 :: a11 :: a12 :: a13 :: a14 :: a15 :: a16 :: a17 :: a18 :: a19 :: a20 :: a21 :: a22 :: a23 :: a24 :: some (.l os) :: env) k = k os := rfl
theorem fin_step {f g : Ev → SR} {env env1 : Ev} {o : R Ow} (h1 : f env = .nx env1) (h2 : finR (g env1) = o) : finR (sSeq f g env) = o := by
  rw [sSeq_eq, h1]
  exact h2
end Mir
end
set_option Elab.async false
set_option linter.all false
set_option maxRecDepth 100000
set_option maxHeartbeats 4000000
noncomputable section
namespace Mir
open PySem PySem.Spec L2

def PostX (K : Kw) {α β : Type} (P : Hp → α → β → Prop) (F H : Hp) (fp : List Addr) (σ : L2.St) : R (α × Ev) → (β → Hp → Prop) → Prop
  | .ok (a, env), Q => ∀ v F' H' fp', StepS F H fp F' H' fp' → Sat K F' H' σ env fp' → P F' a v → Q v H'
  | _, _ => False
def SmX (K : Kw) {α β : Type} (P : Hp → α → β → Prop) (t : L2.St → Hp → (β → Hp → Prop) → Prop) (f : Ev → R (α × Ev)) : Prop :=
  ∀ F H σ env fp Q, Sat K F H σ env fp → PostX K P F H fp σ (f env) Q → t σ H Q
def XD (K : Kw) (F : Hp) (d : D) (v : V) : Prop := Dp K F v d
section
variable {K : Kw} {α β γ δ : Type} {P : Hp → α → β → Prop} {P2 : Hp → γ → δ → Prop} {F H F1 H1 : Hp} {fp fp1 : List Addr} {σ : L2.St}
theorem PostX.step {r : R (α × Ev)} {Q : β → Hp → Prop} (h : PostX K P F H fp σ r Q) (s : StepS F H fp F1 H1 fp1) : PostX K P F1 H1 fp1 σ r Q := by
  cases r with
  | no => exact h
  | ex c => exact h
  | ok p => exact fun v F' H' fp' s' => h v F' H' fp' (s.trans s')
theorem SmX.go {t : L2.St → Hp → (β → Hp → Prop) → Prop} {f : Ev → R (α × Ev)} (s : SmX K P t f) {g : α × Ev → R (γ × Ev)} {env : Ev} {Q : δ → Hp → Prop} {T : β → Hp → Prop} (sat : Sat K F H σ env fp) (h : PostX K P2 F H fp σ ((f env).bind g) Q)
    (k : ∀ a env1 v F1 H1 fp1, StepS F H fp F1 H1 fp1 → Sat K F1 H1 σ env1 fp1 → P F1 a v → PostX K P2 F1 H1 fp1 σ (g (a, env1)) Q → T v H1) : t σ H T := by
  refine s F H σ env fp T sat ?_
  cases e : f env with
  | no => rw [e] at h; exact h
  | ex c => rw [e] at h; exact h
  | ok p =>
    obtain ⟨a, env1⟩ := p
    rw [e] at h
    exact fun v F' H' fp' st sat' q => k a env1 v F' H' fp' st sat' q (PostX.step (show PostX K P2 F H fp σ (g (a, env1)) Q from h) st)
end
section
variable (X : Cx)
def DXF (e : Expr) (f : Ev → R (D × Ev)) : Prop := ∃ t, PE X e t ∧ SmX X.KK (XD X.KK) t f
end
section
variable {X : Cx} {W : WX} {e a b : Expr} {es : List Expr} {pos p : Pos} {x : Str}
/-- a plain expression -/
def xP (f : Ev → R D) (env : Ev) : R (D × Ev) := match f env with
  | .ok d => .ok (d, env)
  | _ => .no
def xBin (g : D → D → Option D) (f h : Ev → R (D × Ev)) (env : Ev) : R (D × Ev) := (f env).bind fun p => (h p.2).bind fun q => (R.of (g p.1 q.1)).bind fun d => .ok (d, q.2)
def xNil (env : Ev) : R (List D × Ev) := .ok ([], env)
def xCons (f : Ev → R (D × Ev)) (g : Ev → R (List D × Ev)) (env : Ev) : R (List D × Ev) := (f env).bind fun p => (g p.2).bind fun q => .ok (p.1 :: q.1, q.2)
/-- a def that changes nothing, called -/
def xCall (m : List D → R Ow) (fa : Ev → R (List D × Ev)) (env : Ev) : R (D × Ev) := (fa env).bind fun p => match m p.1 with
  | .ok r => .ok (viewD r, p.2)
  | _ => .no
/-- the own list in slot i, changed by a step within it -/
theorem Sat.chg {K : Kw} {F H : Hp} {σ : L2.St} {env : Ev} {fp : List Addr} (sat : Sat K F H σ env fp) {i : Nat} {dk : List D} (hi : env[i]? = some (some (.l (dk.map Ow.d)))) : ∃ a vs, σ[i]? = some (some (.ref a)) ∧ F a = none ∧ H a = some (.lst vs) ∧ DpAll K F vs dk ∧
    ∀ F' H' vs' dk', StepS F H [a] F' H' [a] → Same F' H' → F' a = none → H' a = some (.lst vs') → DpAll K F' vs' dk' → ∃ fp', StepS F H fp F' H' fp' ∧ Sat K F' H' σ (env.set i (some (.l (dk'.map Ow.d)))) fp' := by
  have hl : i < env.length := (List.getElem?_eq_some_iff.mp hi).1
  obtain ⟨fr, fo0, a1, a2, a3, a3', a4, a5, a6⟩ := sat.en.put hl sat.nd
  obtain ⟨v, e1, e2⟩ := a5 _ hi
  cases e2 with
  | @l a vs _ fo h1 h2 h3 =>
    obtain ⟨dp, rfl⟩ := OwnAll.dp h3
    refine ⟨a, vs, e1, h1, h2, dp, fun F' H' vs' dk' st sf fa ha dp' => ?_⟩
    have na : a ∉ fr := a4 a List.mem_cons_self
    obtain ⟨fp', b1, b2, b3⟩ := (a6 F' H' [a] [a] st fun b hb z => na (by rw [← List.mem_singleton.mp z]; exact hb)).2 (.ref a) (.l (dk'.map Ow.d)) [a] (.l fa ha (OwnAll.of_dp dp')) (by simp) fun b hb => by rw [List.mem_singleton.mp hb]; exact na
    rw [set_self e1] at b3
    refine ⟨fp', ⟨st.ff, fun b o q n => st.fr b o q fun z => n (by rw [List.mem_singleton.mp z]; exact a2 a List.mem_cons_self), fun b o q => (st.fn b o q).imp id (.imp (fun z => by rw [List.mem_singleton.mp z]; exact a2 a List.mem_cons_self) id), fun b hb => ?_⟩, sf, b3, b1⟩
    rcases b2 b hb with q | q
    · rw [List.mem_singleton.mp q]; exact .inl (a2 a List.mem_cons_self)
    · exact .inl (a1 b q)
def lstAt (i : Nat) (env : Ev) : Option (List D) := match env[i]? with
  | some (some (.l os)) => unDs os
  | _ => none
theorem lstAt_eq {i : Nat} {env : Ev} {dk : List D} (h : lstAt i env = some dk) : env[i]? = some (some (.l (dk.map Ow.d))) := by
  unfold lstAt at h
  split at h
  · rename_i os e
    rw [e, unDs_eq h]
  · cases h
/-- x.pop() -/
def xPop (i : Nat) (env : Ev) : R (D × Ev) := match lstAt i env with
  | none => .no
  | some dk => match dk.getLast? with
    | none => .no
    | some d => .ok (d, env.set i (some (.l (dk.dropLast.map Ow.d))))
theorem DpAll.dropLast {H : Hp} {K : Kw} {vs : List V} {ds : List D} (h : DpAll K H vs ds) : DpAll K H vs.dropLast ds.dropLast := by
  rw [List.dropLast_eq_take, List.dropLast_eq_take, DpAll.len h]
  exact Mir.DpAll.take _ h
theorem pop_step {F H : Hp} {a : Addr} {vs vs' : List V} (s : Same F H) (h : H a = some (.lst vs)) : StepS F H [a] F (upd H a (.lst vs')) [a] :=
  ⟨Same.refl _, fun b o e n => by rw [upd_ne (fun z => n (by simp [z]))]; exact e, fun b o e => .inl e, fun b z => .inl z⟩
theorem xf_pop {npos apos cpos : Pos} (i : Nat) (hN : X.N[i]? = some x := by rfl) (hv : Vis X.env.scope x := by first | exact Or.inl rfl | exact Or.inr (Or.inl rfl) | exact Or.inr (Or.inr rfl)) (hd : (x == ("__debug__" : Str)) = false := by decide) (hcd : (x == ("__classdict__" : Str)) = false := by decide)
    (hbase : attributeBase (.Name x npos) "pop" X.env (eval (.Name x npos) X.env) = eval (.Name x npos) X.env := by rfl) (hline : (apos.endLine == cpos.line) = true := by rfl) : DXF X (.Call (.Attribute (.Name x npos) "pop" apos) [] [] cpos) (xPop i) := by
  refine ⟨_, pe_bm0 PySem.F.plainAttrs_list PySem.F.slot_list_pop PySem.F.type_list_pop mt_pop (pe_var hN hv hd hcd) hbase hline, fun F H σ env fp Q sat hp => ?_⟩
  unfold xPop at hp
  cases e0 : lstAt i env with
  | none => rw [e0] at hp; exact hp.elim
  | some dk =>
  rw [e0] at hp
  simp only at hp
  obtain ⟨a, vs, b1, b2, b3, b4, b5⟩ := sat.chg (lstAt_eq e0)
  refine ⟨.ref a, b1, .inl ⟨rfl, vs, SqL.of b3⟩, ?_⟩
  cases el : dk.getLast? with
  | none => rw [el] at hp; exact hp.elim
  | some d =>
  rw [el] at hp
  have hl := DpAll.len b4
  rw [List.getLast?_eq_getElem?] at el
  obtain ⟨v, g1, g2⟩ := Mir.DpAll.get b4 el
  refine ⟨a, vs, v, rfl, rfl, b3, by rw [hl]; exact g1, ?_⟩
  obtain ⟨fp', d1, d2⟩ := b5 F (upd H a (.lst vs.dropLast)) vs.dropLast dk.dropLast (pop_step sat.fh b3) (mut_same sat.fh b2) b2 upd_same (Mir.DpAll.dropLast b4)
  exact hp v F _ fp' d1 d2 g2
end
end Mir
end
set_option Elab.async false
set_option linter.all false
set_option maxRecDepth 100000
set_option maxHeartbeats 4000000
noncomputable section
namespace Mir
open PySem PySem.Spec L2

def tOfX (K : Kw) (f : Ev → R (D × Ev)) : TE := fun σ H Q => ∃ F env fp, Sat K F H σ env fp ∧ PostX K (XD K) F H fp σ (f env) Q
theorem DXF.can {X : Cx} {e : Expr} {f : Ev → R (D × Ev)} (h : DXF X e f) : PE X e (tOfX X.KK f) := by
  obtain ⟨t, p, s⟩ := h
  refine PE.imp p ?_
  rintro σ H Q ⟨F, env, fp, sat, h⟩
  exact s F H σ env fp Q sat h
theorem EnvAt.re {K : Kw} {F H : Hp} {σ : L2.St} {env : Ev} {fp : List Addr} (h : EnvAt K F H σ env fp) : ∀ {σ' : L2.St}, σ'.length = σ.length → (∀ (j : Nat) (o : Ow), env[j]? = some (some o) → σ'[j]? = σ[j]?) → EnvAt K F H σ' env fp := by
  induction h with
  | nil =>
    intro σ' hl _
    cases σ' with
    | nil => exact .nil
    | cons => simp at hl
  | @non x σ env fp h ih =>
    intro σ' hl hs
    cases σ' with
    | nil => simp at hl
    | cons y σ' => exact .non (ih (by simpa using hl) fun j o e => by simpa using hs (j + 1) o (by simpa using e))
  | @som v o σ env fp fps h1 h2 ih =>
    intro σ' hl hs
    cases σ' with
    | nil => simp at hl
    | cons y σ' =>
      have := hs 0 o rfl
      simp at this
      subst this
      exact .som h1 (ih (by simpa using hl) fun j o e => by simpa using hs (j + 1) o (by simpa using e))
section
variable {X : Cx} {W : WX} {S : Nat → Bool} {pos : Pos}
def xSet (i : Nat) (r : R (D × Ev)) : SR := match r with
  | .ok (d, env1) => if i < env1.length then .nx (env1.set i (some (.d d))) else .no
  | _ => .no
def sXSet (i : Nat) (f : Ev → R (D × Ev)) (env : Ev) : SR := xSet i (f env)
theorem put_stepX {K : Kw} {F H F1 H1 : Hp} {σ : L2.St} {env env1 : Ev} {fp fp1 : List Addr} {i : Nat} {v : V} {d : D} (sat : Sat K F1 H1 σ env1 fp1) (st : StepS F H fp F1 H1 fp1) (h : Dp K F1 v d) (hi : i < env1.length) :
    ∃ fp', StepS F H fp F1 H1 fp' ∧ Sat K F1 H1 (σ.set i (some v)) (env1.set i (some (.d d))) fp' := by
  obtain ⟨fp', s1, s2⟩ := sat.put hi (OwnAt.d h) List.nodup_nil (fun _ z => nomatch z)
  exact ⟨fp', st.subset fun b hb => (s2 b hb).elim (fun z => nomatch z) id, s1⟩
theorem xset_post {F H : Hp} {σ : L2.St} {env : Ev} {fp : List Addr} {D' : Ends} {i : Nat} {f : Ev → R (D × Ev)} (hS : S i = true) (h : PostS X W S σ F H fp D' (sXSet i f env)) : PostX X.KK (XD X.KK) F H fp σ (f env) fun v H' => D'.nx (σ.set i (some v)) H' := by
  unfold sXSet xSet at h
  cases e : f env with
  | no => rw [e] at h; exact h
  | ex c => rw [e] at h; exact h
  | ok p =>
    obtain ⟨d, env1⟩ := p
    rw [e] at h
    intro v F' H' fp' st sat q
    have h' : PostS X W S σ F H fp D' (if i < env1.length then .nx (env1.set i (some (.d d))) else .no) := h
    split at h'
    · obtain ⟨fp2, s1, s2⟩ := put_stepX (env := env) sat st q ‹_›
      exact h' _ F' H' fp2 (.set hS _) s1 s2
    · exact h'.elim
theorem ds_xset {e : Expr} {f : Ev → R (D × Ev)} {x : Str} {pos' : Pos} (i : Nat) (hN : X.N.Nodup) (he : DXF X e f) (hi : X.N[i]? = some x := by rfl) (hx : Loc X.env.scope x := by first | exact Or.inl rfl | exact Or.inr rfl)
    (hs : swapsWith e (some (.Name x pos')) pos.line X.env = pure false := by rfl) (hf : X.fn x = true ∨ X.env.scope.names.lookup x = some .local := by first | exact .inl rfl | exact .inr rfl | assumption) (hS : S i = true := by rfl) : DS X W S (.Assign [.Name x pos'] e pos) (sXSet i f) := by
  obtain ⟨t, p, s⟩ := he
  exact ⟨_, ps_set hN hi hx p hs hf, fun F H σ env fp D sat h => s F H σ env fp _ sat (xset_post hS h)⟩
def sXRet (f : Ev → R (D × Ev)) (env : Ev) : SR := match f env with
  | .ok (d, env1) => .rt (.d d) env1
  | _ => .no
/-- tuple(e), list handed -/
def xCa (g : List D → Option Ow) (fa : Ev → R (List D × Ev)) (env : Ev) : R (D × Ev) := (fa env).bind fun p => match g p.1 with
  | some r => .ok (viewD r, p.2)
  | none => .no
end
section
variable {P : Program} {w : World} {K : PySem.W.Frag} {mg : Str → Option Value} {base : Heap}
end
end Mir
end
set_option Elab.async false
set_option linter.all false
set_option maxRecDepth 100000
set_option maxHeartbeats 4000000
noncomputable section
namespace RT
open PySem PySem.Spec PyProof.Rows
section
variable {prog : Program} {w : World} {A : Around} {E : Value → Shared → Prop} {s : Shared}
end
end RT
namespace Mir
open PySem PySem.Spec PyProof.Rows L2 RT
section
variable {X : Cx} {W : WX}
def gListRev : D → Option Ow
  | .list ds => some (.l (ds.reverse.map Ow.d))
  | _ => none
@[simp] theorem gListRev_list (ds : List D) : gListRev (.list ds) = some (.l (ds.reverse.map Ow.d)) := rfl
theorem DpAll.reverse {K : Kw} {H : Hp} : ∀ {ds : List D} {vs : List V}, DpAll K H vs ds → DpAll K H vs.reverse ds.reverse
  | [], _, h => by cases h; exact .nil
  | d :: ds, _, h => by
    cases h with
    | cons h1 h2 =>
      rw [List.reverse_cons, List.reverse_cons]
      exact Mir.DpAll.append (DpAll.reverse h2) (.cons h1 .nil)
def eListRev (f : Ev → R D) (env : Ev) : R Ow := (f env).bind fun d => R.of (gListRev d)
@[simp] theorem eListRev_eq (f : Ev → R D) (env : Ev) : eListRev f env = (f env).bind fun d => R.of (gListRev d) := rfl
end
end Mir
end
set_option Elab.async false
set_option linter.all false
set_option maxRecDepth 100000
set_option maxHeartbeats 4000000
noncomputable section
namespace Mir
open PySem PySem.Spec PyProof.Rows L2
def repS (z : Str) (n : Nat) : Str := ⟨(List.replicate n z.cps.toList).flatten.toArray⟩
section
variable {X : Cx} {W : WX} {a b : Expr} {pos : Pos} {f g : Ev → R D}
def gMulS : D → D → Option D
  | .int i, .int j => gMul (.int i) (.int j)
  | .str z, .int n => if 1 ≤ n ∧ n ≤ 1000000 ∧ z.length * n.toNat ≤ sizeLine then some (.str (repS z n.toNat)) else none
  | _, _ => none
@[simp] theorem gMulS_int (i j : Int) : gMulS (.int i) (.int j) = gMul (.int i) (.int j) := rfl
def gIsB : D → D → Option D
  | .bool p, .bool q => some (.bool (p == q))
  | _, _ => none
def gNotB : D → D → Option D
  | .bool p, .bool q => some (.bool (!(p == q)))
  | _, _ => none
@[simp] theorem gIsB_bool (p q : Bool) : gIsB (.bool p) (.bool q) = some (.bool (p == q)) := rfl
@[simp] theorem gNotB_bool (p q : Bool) : gNotB (.bool p) (.bool q) = some (.bool (!(p == q))) := rfl
section
variable {F G : Ev → R (D × Ev)}
end
end
end Mir
end
set_option Elab.async false
set_option linter.all false
set_option maxRecDepth 100000
set_option maxHeartbeats 4000000
noncomputable section
namespace Mir
open PySem PySem.Spec L2
section
variable {X : Cx} {W : WX} {S : Nat → Bool} {pos : Pos}
/-- a target stored from an expression that changes own lists -/
def sXAsg (g : D → Ev → Option Ev) (f : Ev → R (D × Ev)) (env : Ev) : SR := match f env with
  | .ok (d, env1) => match g d env1 with
    | some env2 => .nx env2
    | none => .no
  | _ => .no
end
def flatD : D → Bool
  | .none => true
  | .bool _ => true
  | .int _ => true
  | .str _ => true
  | _ => false
def flatR : R Ow → R D
  | .ok (.d x) => if flatD x = true then .ok x else .no
  | .ex c => .ex c
  | _ => .no
def eCallV (m : List D → R Ow) (fa : Ev → R (List D)) (env : Ev) : R D := (fa env).bind fun ds => flatR (m ds)
@[simp] theorem eCallV_eq (m : List D → R Ow) (fa : Ev → R (List D)) (env : Ev) : eCallV m fa env = (fa env).bind fun ds => flatR (m ds) := rfl
@[simp] theorem flatR_bool (b : Bool) : flatR (.ok (.d (.bool b))) = .ok (.bool b) := rfl
@[simp] theorem flatR_int (b : Int) : flatR (.ok (.d (.int b))) = .ok (.int b) := rfl
@[simp] theorem flatR_none : flatR (.ok (.d .none)) = .ok .none := rfl
section
variable {X : Cx} {W : WX} {e : Expr} {es : List Expr} {pos p : Pos}
end
section
variable (env : Ev)
theorem lstAt_of {i : Nat} {env : Ev} {dk : List D} (h : env[i]? = some (some (.l (dk.map Ow.d)))) : lstAt i env = some dk := by unfold lstAt; rw [h]; exact unDs_map dk
@[simp] theorem lstAt_0 (dk : List D) : lstAt 0 (some (.l (dk.map Ow.d)) :: env) = some dk := lstAt_of rfl
@[simp] theorem lstAt_0n : lstAt 0 (some (.l []) :: env) = some [] := rfl
@[simp] theorem lstAt_s (i : Nat) (x : Option Ow) : lstAt (i + 1) (x :: env) = lstAt i env := by unfold lstAt; rw [List.getElem?_cons_succ]
@[simp] theorem xP_eq (f : Ev → R D) : xP f env = match f env with
  | .ok d => .ok (d, env)
  | _ => .no := rfl
@[simp] theorem xBin_eq (g : D → D → Option D) (f h : Ev → R (D × Ev)) : xBin g f h env = (f env).bind fun p => (h p.2).bind fun q => (R.of (g p.1 q.1)).bind fun d => .ok (d, q.2) := rfl
@[simp] theorem xNil_eq : xNil env = .ok ([], env) := rfl
@[simp] theorem xCons_eq (f : Ev → R (D × Ev)) (g : Ev → R (List D × Ev)) : xCons f g env = (f env).bind fun p => (g p.2).bind fun q => .ok (p.1 :: q.1, q.2) := rfl
@[simp] theorem xCall_eq (m : List D → R Ow) (fa : Ev → R (List D × Ev)) : xCall m fa env = (fa env).bind fun p => match m p.1 with
  | .ok r => .ok (viewD r, p.2)
  | _ => .no := rfl
@[simp] theorem xCa_eq (g : List D → Option Ow) (fa : Ev → R (List D × Ev)) : xCa g fa env = (fa env).bind fun p => match g p.1 with
  | some r => .ok (viewD r, p.2)
  | none => .no := rfl
@[simp] theorem sXSet_eq (i : Nat) (f : Ev → R (D × Ev)) : sXSet i f env = match f env with
  | .ok (d, env1) => if i < env1.length then .nx (env1.set i (some (.d d))) else .no
  | _ => .no := by unfold sXSet xSet; rfl
@[simp] theorem sXRet_eq (f : Ev → R (D × Ev)) : sXRet f env = match f env with
  | .ok (d, env1) => .rt (.d d) env1
  | _ => .no := rfl
@[simp] theorem sXAsg_eq (g : D → Ev → Option Ev) (f : Ev → R (D × Ev)) : sXAsg g f env = match f env with
  | .ok (d, env1) => match g d env1 with
    | some env2 => .nx env2
    | none => .no
  | _ => .no := rfl
end
end Mir
end
set_option Elab.async false
set_option linter.all false
set_option maxRecDepth 100000
set_option maxHeartbeats 4000000
noncomputable section
namespace Mir
open PySem PySem.Spec PyProof.Rows L2
def strsD : List D → Option (List Str)
  | [] => some []
  | .str z :: ds => (strsD ds).map fun zs => z :: zs
  | _ :: _ => none
theorem strsD_map : ∀ zs : List Str, strsD (zs.map PyData.str) = some zs
  | [] => rfl
  | z :: zs => by rw [List.map_cons, strsD, strsD_map zs]; rfl
theorem strsD_dp {K : Kw} {F : Hp} : ∀ {ds : List D} {vs : List V} {zs : List Str}, DpAll K F vs ds → strsD ds = some zs → vs = zs.map V.str
  | [], vs, zs, h, e => by cases h; cases e; rfl
  | d :: ds, vs, zs, h, e => by
    cases h with
    | cons h1 h2 =>
      unfold strsD at e
      split at e
      · rename_i he; cases he
      · rename_i z ds' he
        cases he
        obtain ⟨ws, w1, rfl⟩ := Option.map_eq_some_iff.mp e
        rw [strsD_dp h2 w1, List.map_cons]
        cases dp_str h1
        rfl
      · cases e
def joinS (a : Str) (ys : List Str) : Option D := open Classical in if (ys.map (·.length)).sum + ys.length * a.length ≤ 16777216 then some (.str (Txt.join a ys)) else none
def gJoin : D → D → Option D
  | .str a, .list ds => (strsD ds).bind (joinS a)
  | .str a, .tuple ds => (strsD ds).bind (joinS a)
  | _, _ => none
theorem joinS_ok {a : Str} {ys : List Str} (h : (ys.map (·.length)).sum + ys.length * a.length ≤ 16777216) : joinS a ys = some (.str (Txt.join a ys)) := by
  unfold joinS
  rw [if_pos h]
theorem gJoin_list {a : Str} {ys : List Str} (h : (ys.map (·.length)).sum + ys.length * a.length ≤ 16777216) : gJoin (.str a) (.list (ys.map PyData.str)) = some (.str (Txt.join a ys)) := by
  show (strsD _).bind _ = _
  rw [strsD_map]
  exact joinS_ok h
def eJoin (f g : Ev → R D) (env : Ev) : R D := (f env).bind fun d => match d with
  | .str z => (g env).bind fun d' => R.of (gJoin (.str z) d')
  | _ => .no
theorem eJoin_eq {f g : Ev → R D} {env : Ev} {a : Str} {d : D} (h : f env = .ok (.str a)) (h2 : g env = .ok d) : eJoin f g env = R.of (gJoin (.str a) d) := by
  unfold eJoin
  rw [h, R.bind_ok]
  simp only [h2, R.bind_ok]
section
variable {X : Cx} {W : WX} {o e : Expr} {apos pos : Pos} {f g : Ev → R D}
theorem joinS_some {a : Str} {ys : List Str} {d : D} (h : joinS a ys = some d) : (ys.map (·.length)).sum + ys.length * a.length ≤ 16777216 ∧ d = .str (Txt.join a ys) := by
  unfold joinS at h
  split at h
  · rename_i c
    exact ⟨c, (Option.some.inj h).symm⟩
  · cases h
theorem df_join (ho : DV X W o f) (he : DL X W e g)
    (hs : starEach [e] X.env = [(false, eval e X.env)] := by rfl)
    (hb : attributeBase o (Str.ofString "join") X.env (eval o X.env) = eval o X.env := by rfl)
    (hp : (apos.endLine == pos.line) = true := by rfl) : DF X W (.Call (.Attribute o "join" apos) [e] [] pos) (eJoin f g) := by
  obtain ⟨ta, pa, sa⟩ := ho
  obtain ⟨tb, pb, sb⟩ := he
  refine ⟨_, pe_join pa pb hs hb hp, fun F H σ env fp Q sat hp => ?_⟩
  refine sa.go sat hp fun d v F1 H1 sat1 q _ h1 => ?_
  have key : ∀ z, d = .str z → (∃ a, v = V.str a) := fun z hz => by subst hz; cases dp_str q; exact ⟨_, rfl⟩
  cases d with
  | str z =>
    refine ⟨key z rfl, ?_⟩
    cases dp_str q
    refine sb.go sat1 h1 fun d' v' F2 H2 sat2 q' x2 h2 => ?_
    obtain ⟨r, hr, h3⟩ := post_of h2
    cases d' with
    | list ds =>
      obtain ⟨ys, y1, y2⟩ := Option.bind_eq_some_iff.mp hr
      obtain ⟨c, rfl⟩ := joinS_some y2
      obtain ⟨p, vs, rfl, p1, p2⟩ := q'
      have ev := strsD_dp p2 y1
      subst ev
      exact ⟨z, p, ys, rfl, rfl, .inl p1, c, h3 _ _ _ (.refl sat2.fh) (.str _)⟩
    | tuple ds =>
      obtain ⟨ys, y1, y2⟩ := Option.bind_eq_some_iff.mp hr
      obtain ⟨c, rfl⟩ := joinS_some y2
      obtain ⟨p, vs, rfl, p1, p2⟩ := dp_tup q'
      have ev := strsD_dp p2 y1
      subst ev
      exact ⟨z, p, ys, rfl, rfl, .inr (SqT_mono sat2.fh p1), c, h3 _ _ _ (.refl sat2.fh) (.str _)⟩
    | _ => cases hr
  | _ => exact h1.elim
end
end Mir
end
set_option Elab.async false
set_option linter.all false
set_option maxRecDepth 100000
set_option maxHeartbeats 4000000
noncomputable section
namespace Mir
open PySem PySem.Spec PyProof.Rows L2
section
variable {X : Cx} {W : WX} {S : Nat → Bool} {e a b : Expr} {es : List Expr} {pos p : Pos} {x : Str}
def xTup (f : Ev → R (List D × Ev)) (env : Ev) : R (D × Ev) := (f env).bind fun p => guard (p.1.length ≤ sizeLine) (.ok (.tuple p.1, p.2))
def xBinO (g : D → D → Option Ow) (f h : Ev → R (D × Ev)) (env : Ev) : R (D × Ev) := (f env).bind fun p => (h p.2).bind fun q => (R.of (g p.1 q.1)).bind fun o => .ok (viewD o, q.2)
def xRg1 (f : Ev → R (List D × Ev)) (env : Ev) : R (List D × Ev) := (f env).bind fun p => (rg1 p.1).bind fun ds => .ok (ds, p.2)
end
section
variable {X : Cx} {W : WX} {S : Nat → Bool} {e : Expr} {pos cpos apos npos : Pos} {x : Str}
section
variable (env : Ev)
@[simp] theorem xTup_eq (f : Ev → R (List D × Ev)) : xTup f env = (f env).bind fun p => guard (p.1.length ≤ sizeLine) (.ok (.tuple p.1, p.2)) := rfl
@[simp] theorem xBinO_eq (g : D → D → Option Ow) (f h : Ev → R (D × Ev)) : xBinO g f h env = (f env).bind fun p => (h p.2).bind fun q => (R.of (g p.1 q.1)).bind fun o => .ok (viewD o, q.2) := rfl
@[simp] theorem xRg1_eq (f : Ev → R (List D × Ev)) : xRg1 f env = (f env).bind fun p => (rg1 p.1).bind fun ds => .ok (ds, p.2) := rfl
end
end
end Mir
end
set_option Elab.async false
set_option linter.all false
set_option maxRecDepth 100000
set_option maxHeartbeats 4000000
noncomputable section
namespace Mir
open PySem PySem.Spec PyProof.Rows L2
def pairsD : List D → Option (List (Str × D))
  | [] => some []
  | .tuple [.str k, v] :: ds => (pairsD ds).map fun r => (k, v) :: r
  | _ :: _ => none
/-- the last pair of the key -/
def lastP : List (Str × D) → Str → Option D
  | [], _ => none
  | p :: ps, k => (lastP ps k).or (if p.1 = k then some p.2 else none)
def asPairs : D → Option (List (Str × D))
  | .list ds => pairsD ds
  | _ => none
def lookP (ps : List (Str × D)) : D → Option D
  | .str k => lastP ps k
  | _ => none
def eDictIx (f g : Ev → R D) (env : Ev) : R D := (f env).bind fun d => match asPairs d with
  | none => .no
  | some ps => (g env).bind fun k => R.of (lookP ps k)
def inP (ps : List (Str × D)) (no : Bool) : D → Option D
  | .str k => some (.bool ((lastP ps k).isSome != no))
  | _ => none
def eInDict (no : Bool) (g f : Ev → R D) (env : Ev) : R D := (g env).bind fun k => (f env).bind fun d => match asPairs d with
  | none => .no
  | some ps => R.of (inP ps no k)
@[simp] theorem eDictIx_eq (f g : Ev → R D) (env : Ev) : eDictIx f g env = (f env).bind fun d => match asPairs d with
  | none => .no
  | some ps => (g env).bind fun k => R.of (lookP ps k) := rfl
@[simp] theorem eInDict_eq (no : Bool) (g f : Ev → R D) (env : Ev) : eInDict no g f env = (g env).bind fun k => (f env).bind fun d => match asPairs d with
  | none => .no
  | some ps => R.of (inP ps no k) := rfl
@[simp] theorem lookP_str (ps : List (Str × D)) (k : Str) : lookP ps (.str k) = lastP ps k := rfl
@[simp] theorem inP_str (ps : List (Str × D)) (no : Bool) (k : Str) : inP ps no (.str k) = some (.bool ((lastP ps k).isSome != no)) := rfl
theorem pairsD_map {α : Type} (f : α → Str) (g : α → D) : ∀ xs : List α, pairsD (xs.map fun x => .tuple [.str (f x), g x]) = some (xs.map fun x => (f x, g x))
  | [] => rfl
  | x :: xs => by rw [List.map_cons, pairsD, pairsD_map f g xs]; rfl
/-- the pairs as the dict has them -/
def KV (K : Kw) (F : Hp) (kv : Key × V) (p : Str × D) : Prop := kv.1 = Sum.inr p.1 ∧ Dp K F kv.2 p.2
theorem pairs_dp {K : Kw} {F : Hp} : ∀ {ds : List D} {xs : List V} {ps : List (Str × D)}, DpAll K F xs ds → pairsD ds = some ps →
    ∃ (as : List Addr) (kvs : List (Key × V)), xs = as.map V.ref ∧ Paired (fun a kv => SqT K F a [kV kv.1, kv.2]) as kvs ∧ Paired (KV K F) kvs ps
  | [], xs, ps, h, e => by
    cases h
    cases e
    exact ⟨[], [], rfl, .nil, .nil⟩
  | d :: ds, xs, ps, h, e => by
    cases h with
    | cons h1 h2 =>
      unfold pairsD at e
      split at e
      · rename_i he; cases he
      · rename_i k v ds' he
        cases he
        obtain ⟨r, r1, rfl⟩ := Option.map_eq_some_iff.mp e
        obtain ⟨as, kvs, a1, a2, a3⟩ := pairs_dp h2 r1
        obtain ⟨a, vs, rfl, q1, q2⟩ := dp_tup h1
        obtain ⟨u, w, rfl, w1, w2⟩ := daf2 q2
        cases dp_str w1
        exact ⟨a :: as, (Sum.inr k, w) :: kvs, by rw [a1]; rfl, .cons q1 a2, .cons ⟨rfl, w2⟩ a3⟩
      · cases e
theorem paired_up {K : Kw} {F H : Hp} (s : Same F H) : ∀ {as : List Addr} {kvs : List (Key × V)}, Paired (fun a kv => SqT K F a [kV kv.1, kv.2]) as kvs → Paired (fun a kv => SqT K H a [kV kv.1, kv.2]) as kvs
  | _, _, .nil => .nil
  | _, _, .cons h t => .cons (SqT_mono s h) (paired_up s t)
theorem merge_none {K : Kw} {F : Hp} (k : Str) : ∀ {kvs : List (Key × V)} {ps : List (Str × D)} (acc : List (Key × V)), Paired (KV K F) kvs ps → lastP ps k = none → valV (mergeK acc kvs) (Sum.inr k) = valV acc (Sum.inr k)
  | _, _, acc, .nil, _ => rfl
  | kv :: kvs, p :: ps, acc, .cons h t, hl => by
    have e : mergeK acc (kv :: kvs) = mergeK (putK acc kv.1 kv.2) kvs := rfl
    rw [e]
    unfold lastP at hl
    cases hl2 : lastP ps k with
    | some d' => rw [hl2] at hl; cases hl
    | none =>
      rw [hl2] at hl
      simp only [Option.none_or] at hl
      split at hl
      · cases hl
      · rename_i c
        rw [merge_none k (putK acc kv.1 kv.2) t hl2, valV_put, if_neg (by
          rw [h.1]
          exact fun z => c (Sum.inr.inj z).symm)]
theorem merge_some {K : Kw} {F : Hp} (k : Str) : ∀ {kvs : List (Key × V)} {ps : List (Str × D)} (acc : List (Key × V)) (d : D), Paired (KV K F) kvs ps → lastP ps k = some d → ∃ v, valV (mergeK acc kvs) (Sum.inr k) = some v ∧ Dp K F v d
  | _, _, acc, d, .nil, h => by cases h
  | kv :: kvs, p :: ps, acc, d, .cons h t, hl => by
    have e : mergeK acc (kv :: kvs) = mergeK (putK acc kv.1 kv.2) kvs := rfl
    rw [e]
    unfold lastP at hl
    cases hl2 : lastP ps k with
    | some d' =>
      rw [hl2] at hl
      cases hl
      exact merge_some k (putK acc kv.1 kv.2) d t hl2
    | none =>
      rw [hl2] at hl
      simp only [Option.none_or] at hl
      split at hl
      · rename_i c
        cases hl
        have := merge_none k (putK acc kv.1 kv.2) t hl2
        rw [valV_put, if_pos (by rw [h.1, c])] at this
        exact ⟨kv.2, this, h.2⟩
      · cases hl
section
variable {X : Cx} {W : WX} {e key : Expr} {p pos cpos : Pos} {f g : Ev → R D}
theorem df_dictIx (hc : X.calm = true) (hu : X.A.units + 140 < cLine) (hg : Gl X "dict") (hm : X.mg "dict" = none) (ha : DL X W e f) (hb : DV X W key g) (hs : NoSl key := by exact fun _ _ => rfl)
    (he : starEach [e] X.env = (false, eval e X.env) :: starEach [] X.env := by rfl) : DF X W (.Subscript (.Call (.Name "dict" p) [e] [] cpos) key pos) (eDictIx f g) := by
  obtain ⟨ta, pa, sa⟩ := ha
  obtain ⟨tb, pb, sb⟩ := hb
  refine ⟨_, pe_dget (by omega) (pe_callTy (call_dictP hc) hg hm (by decide +kernel) (pa_cons pa pa_nil he) (by decide) (by decide) he rfl) pb hs, fun F H σ env fp Q sat hp => ?_⟩
  refine sa.go sat hp fun d v F1 H1 sat1 q _ h1 => ?_
  cases hps : asPairs d with
  | none => rw [hps] at h1; exact h1.elim
  | some ps =>
  rw [hps] at h1
  simp only at h1
  cases d with
  | list ds =>
    obtain ⟨a, xs, rfl, q1, q2⟩ := q
    obtain ⟨as, kvs, rfl, k1, k2⟩ := pairs_dp q2 hps
    refine ⟨a, as, kvs, rfl, q1, paired_up sat1.fh k1, fun p hpn => ?_⟩
    have x2 := Ext.own sat1.fh hpn (.dK (mergeK [] kvs))
    refine sb.go (sat1.ext x2) (Post.ext h1 x2) fun d' w F2 H2 sat2 q' x3 h2 => ?_
    obtain ⟨z, hz, h3⟩ := post_of h2
    cases d' with
    | str k =>
      cases dp_str q'
      obtain ⟨u, u1, u2⟩ := merge_some k [] z k2 hz
      exact ⟨p, u, rfl, .inl ⟨_, Sum.inr k, .inl (x3.hh _ _ upd_same), rfl, u1.symm⟩, h3 u F2 H2 (.refl sat2.fh) (dpUp u2 x3.ff)⟩
    | _ => cases hz
  | _ => cases hps
end
section
variable {X : Cx} {W : WX} {a b c : Expr} {pos : Pos} {f g h : Ev → R D}
end
end Mir
end
set_option Elab.async false
set_option linter.all false
set_option maxRecDepth 100000
set_option maxHeartbeats 4000000
noncomputable section
namespace Mir
open PySem PySem.Spec PyProof.Rows L2
theorem fits (x : Int) (h : -(2 ^ 62) ≤ x) (h' : x < 2 ^ 62) : Builtin.Range.rangeFitsLong x = true := by
  unfold Builtin.Range.rangeFitsLong
  simp only [Bool.and_eq_true, decide_eq_true_eq]
  constructor <;> omega
section
variable {X : Cx} {W : WX} {tg e e2 e3 : Expr} {p pos : Pos} {fa : Ev → R (List D)}
end
end Mir
end
set_option Elab.async false
set_option linter.all false
set_option maxRecDepth 100000
set_option maxHeartbeats 4000000
noncomputable section
namespace Mir
open PySem PySem.Spec PyProof.Rows L2
open AutoSeq1 (wpAny_loadPart')
section
variable {X : Cx} {W : WX} {S : Nat → Bool} {e : Expr} {pos cpos apos npos : Pos} {x : Str}
def asT : D → R (List D)
  | .tuple ds => .ok ds
  | _ => .no
@[simp] theorem asT_tup (ds : List D) : asT (.tuple ds) = .ok ds := rfl
def sExtT (i : Nat) (f : Ev → R D) (env : Ev) : SR := ownL i env fun os => (f env).st env fun d => (asT d).st env fun ds => if os.length + ds.length ≤ sizeLine then .nx (env.set i (some (.l (os ++ ds.map Ow.d)))) else .no
@[simp] theorem sExtT_eq (i : Nat) (f : Ev → R D) (env : Ev) : sExtT i f env = ownL i env fun os => (f env).st env fun d => (asT d).st env fun ds => if os.length + ds.length ≤ sizeLine then .nx (env.set i (some (.l (os ++ ds.map Ow.d)))) else .no := rfl
end
end Mir
end
set_option Elab.async false
set_option linter.all false
set_option maxRecDepth 100000
set_option maxHeartbeats 4000000
noncomputable section
namespace Mir
open PySem PySem.Spec PySem.Calls PyProof.Rows L2
def keyEq : D → D → Bool
  | .int i, .int j => i == j
  | .str x, .str y => x == y
  | _, _ => false
def isKey : D → Bool
  | .int _ => true
  | .str _ => true
  | _ => false
def getP (ps : List (D × D)) (k : D) : Option D := (ps.find? fun p => keyEq p.1 k).map (·.2)
def putP (ps : List (D × D)) (k v : D) : List (D × D) := if (ps.any fun p => keyEq p.1 k) = true then ps.map (fun p => if keyEq p.1 k = true then (p.1, v) else p) else ps ++ [(k, v)]
theorem key_of_data {k : D} (h : isKey k = true) : ∃ q : Key, k = keyD q := by
  cases k <;> first | cases h; done | skip
  · exact ⟨.inl _, rfl⟩
  · exact ⟨.inr _, rfl⟩
theorem keyEq_iff (p q : Key) : keyEq (keyD p) (keyD q) = decide (p = q) := by
  cases p <;> cases q <;> simp [keyD, keyEq] <;> rfl
theorem key_dp {K : Kw} {H : Hp} {v : V} {q : Key} (h : Dp K H v (keyD q)) : v = kV q := by
  cases q with
  | inl i => cases h; rfl
  | inr z => cases h; rfl
theorem dpKv_len {K : Kw} {H : Hp} : ∀ {kvs : List (Key × V)} {ps : List (D × D)}, DpKv K H kvs ps → kvs.length = ps.length
  | [], _, h => by cases h; rfl
  | p :: kvs, _, h => by
    cases h with
    | cons h1 h2 => simp [dpKv_len h2]
theorem dpKv_any {K : Kw} {H : Hp} (q : Key) : ∀ {kvs : List (Key × V)} {ps : List (D × D)}, DpKv K H kvs ps → (ps.any fun p => keyEq p.1 (keyD q)) = (kvs.any fun kv => decide (kv.1 = q))
  | [], _, h => by cases h; rfl
  | p :: kvs, _, h => by
    cases h with
    | cons h1 h2 =>
      rw [List.any_cons, List.any_cons, dpKv_any q h2]
      show (keyEq (keyD _) (keyD q) || _) = _
      rw [keyEq_iff]
theorem dpKv_get {K : Kw} {H : Hp} (q : Key) : ∀ {kvs : List (Key × V)} {ps : List (D × D)}, DpKv K H kvs ps → (getP ps (keyD q) = none ∧ valV kvs q = none) ∨ ∃ d v, getP ps (keyD q) = some d ∧ valV kvs q = some v ∧ Dp K H v d
  | [], _, h => by cases h; exact .inl ⟨rfl, rfl⟩
  | p :: kvs, _, h => by
    cases h with
    | @cons k v _ d ps h1 h2 =>
      by_cases c : k = q
      · refine .inr ⟨d, v, ?_, valV_pos c, h1⟩
        unfold getP
        rw [List.find?_cons_of_pos (by rw [keyEq_iff]; simpa using c)]
        rfl
      · have e1 : getP ((keyD k, d) :: ps) (keyD q) = getP ps (keyD q) := by
          unfold getP
          rw [List.find?_cons_of_neg (by rw [keyEq_iff]; simpa using c)]
        have e2 : valV ((k, v) :: kvs) q = valV kvs q := valV_neg c
        rw [e1, e2]
        exact dpKv_get q h2
theorem dpKv_map {K : Kw} {H : Hp} (q : Key) {w : V} {x : D} (hw : Dp K H w x) : ∀ {kvs : List (Key × V)} {ps : List (D × D)}, DpKv K H kvs ps → DpKv K H (kvs.map fun kv => if kv.1 = q then (kv.1, w) else kv) (ps.map fun p => if keyEq p.1 (keyD q) = true then (p.1, x) else p)
  | [], _, h => by cases h; exact .nil
  | p :: kvs, _, h => by
    cases h with
    | @cons k v _ d ps h1 h2 =>
      rw [List.map_cons, List.map_cons]
      have e : keyEq (keyD k) (keyD q) = decide (k = q) := keyEq_iff k q
      simp only [e, decide_eq_true_eq]
      by_cases c : k = q
      · rw [if_pos c, if_pos c]
        exact .cons hw (dpKv_map q hw h2)
      · rw [if_neg c, if_neg c]
        exact .cons h1 (dpKv_map q hw h2)
theorem dpKv_snoc {K : Kw} {H : Hp} {q : Key} {w : V} {x : D} (hw : Dp K H w x) : ∀ {kvs : List (Key × V)} {ps : List (D × D)}, DpKv K H kvs ps → DpKv K H (kvs ++ [(q, w)]) (ps ++ [(keyD q, x)])
  | [], _, h => by cases h; exact .cons hw .nil
  | p :: kvs, _, h => by
    cases h with
    | cons h1 h2 => exact .cons h1 (dpKv_snoc hw h2)
theorem dpKv_put {K : Kw} {H : Hp} {q : Key} {w : V} {x : D} (hw : Dp K H w x) {kvs : List (Key × V)} {ps : List (D × D)} (h : DpKv K H kvs ps) : DpKv K H (putK kvs q w) (putP ps (keyD q) x) := by
  unfold putK putP
  rw [dpKv_any q h]
  split
  · exact dpKv_map q hw h
  · exact dpKv_snoc hw h
section
variable {X : Cx} {W : WX} {S : Nat → Bool} {e k : Expr} {pos tpos npos p2 : Pos} {x : Str} {f g : Ev → R D}
/-- {} -/
def eDictNew (_ : Ev) : R Ow := .ok (.m [])
@[simp] theorem eDictNew_eq (env : Ev) : eDictNew env = .ok (.m []) := rfl
theorem de_dictNew : DE X W (.Dict [] [] pos) eDictNew := by
  refine ⟨_, pe_dnewK, fun F H σ env fp Q sat hp => ?_⟩
  intro p hn
  refine hp _ F _ (Ext.own sat.fh hn _) ⟨[p], .m (free_of sat.fh hn) upd_same .nil, by simp, fun b hb => by rw [List.mem_singleton.mp hb]; exact hn⟩
/-- the own dict at a slot -/
def mAt (i : Nat) (env : Ev) : Option (List (D × D)) := match env[i]? with
  | some (some (.m ps)) => some ps
  | _ => none
theorem mAt_eq {i : Nat} {env : Ev} {ps : List (D × D)} (h : mAt i env = some ps) : env[i]? = some (some (.m ps)) := by
  unfold mAt at h
  split at h
  · cases h; assumption
  · cases h
/-- x[k], x an own dict -/
def eGetM (i : Nat) (g : Ev → R D) (env : Ev) : R D := match mAt i env with
  | none => .no
  | some ps => (g env).bind fun k => if isKey k = true then R.of (getP ps k) else .no
theorem df_getM (i : Nat) (hu : X.A.units + 140 < cLine) (hk : DV X W k g) (hs : NoSl k := by exact fun _ _ => rfl) (hN : X.N[i]? = some x := by rfl) (hv : Vis X.env.scope x := by first | exact Or.inl rfl | exact Or.inr (Or.inl rfl) | exact Or.inr (Or.inr rfl)) (hd : (x == ("__debug__" : Str)) = false := by decide) (hcd : (x == ("__classdict__" : Str)) = false := by decide) :
    DF X W (.Subscript (.Name x npos) k pos) (eGetM i g) := by
  obtain ⟨t, pk, sk⟩ := hk
  refine ⟨_, pe_dget (by omega) (pe_var hN hv hd hcd) pk hs, fun F H σ env fp Q sat hp => ?_⟩
  unfold eGetM at hp
  cases hm : mAt i env with
  | none => rw [hm] at hp; exact hp.elim
  | some ps =>
    rw [hm] at hp
    simp only at hp
    obtain ⟨v, fo, e1, e2, _⟩ := sat.en.get (mAt_eq hm)
    cases e2 with
    | @m a kvs _ m1 m2 m3 =>
      refine ⟨_, e1, ?_⟩
      refine sk.go sat hp fun d u F1 H1 sat1 q1 x1 h1 => ?_
      split at h1
      · rename_i c
        obtain ⟨q, rfl⟩ := key_of_data c
        obtain ⟨z, hz, h2⟩ := post_of h1
        rcases dpKv_get q m3 with ⟨g1, _⟩ | ⟨d, w, g1, g2, g3⟩
        · rw [g1] at hz; cases hz
        · rw [g1] at hz; cases hz
          have hg := DGet.k (k := q) (x1.hh _ _ m2)
          rw [g2] at hg
          refine ⟨a, w, rfl, ?_, h2 _ F1 H1 (.refl sat1.fh) (dpUp g3 x1.ff)⟩
          rw [key_dp q1]
          exact hg
      · exact h1.elim
/-- d[k], d any data that is a dict -/
def gGetD : D → D → Option D
  | .dict ps, k => if isKey k = true then getP ps k else none
  | _, _ => none
/-- k in x, k not in x -/
def eInM (no : Bool) (i : Nat) (g : Ev → R D) (env : Ev) : R D := match mAt i env with
  | none => .no
  | some ps => (g env).bind fun k => if isKey k = true then .ok (.bool ((ps.any fun p => keyEq p.1 k) != no)) else .no
theorem inM_core (no : Bool) (i : Nat) {σ : L2.St} {F H : Hp} {env : Ev} {fp : List Addr} {t : TE} {Q : VK} (sk : Sm X W (PVw X.KK) t g) (sat : Sat X.KK F H σ env fp) (hp : Post X W (PFz X.KK) F H σ (eInM no i g env) Q) :
    t σ H fun y H1 => ∃ v, σ[i]? = some (some v) ∧ ∃ a o, v = .ref a ∧ DGet H1 a y o ∧ Q (.bl (o.isSome != no)) H1 := by
  unfold eInM at hp
  cases hm : mAt i env with
  | none => rw [hm] at hp; exact hp.elim
  | some ps =>
    rw [hm] at hp
    simp only at hp
    obtain ⟨v, fo, e1, e2, _⟩ := sat.en.get (mAt_eq hm)
    cases e2 with
    | @m a kvs _ m1 m2 m3 =>
      refine sk.go sat hp fun d u F1 H1 sat1 q1 x1 h1 => ?_
      split at h1
      · rename_i c
        obtain ⟨q, rfl⟩ := key_of_data c
        refine ⟨_, e1, a, valV kvs q, rfl, ?_, ?_⟩
        · rw [key_dp q1]
          exact DGet.k (k := q) (x1.hh _ _ m2)
        · have e3 : (ps.any fun p => keyEq p.1 (keyD q)) = (valV kvs q).isSome := by rw [dpKv_any q m3, valV_any]
          rw [e3] at h1
          exact h1 _ F1 H1 (.refl sat1.fh) (.bl _)
      · exact h1.elim
theorem dt_notInM (i : Nat) (hu : X.A.units + 140 < cLine) (hk : DV X W k g) (hN : X.N[i]? = some x := by rfl) (hv : Vis X.env.scope x := by first | exact Or.inl rfl | exact Or.inr (Or.inl rfl) | exact Or.inr (Or.inr rfl)) (hd : (x == ("__debug__" : Str)) = false := by decide) (hcd : (x == ("__classdict__" : Str)) = false := by decide)
    (hbm : behindInMarks .NotIn (.Name x npos) = false := by rfl) : DT X W (.Compare k [.NotIn] [.Name x npos] pos) (eB (eInM true i g) asB) := by
  obtain ⟨t, pk, sk⟩ := hk
  refine ⟨_, pt_cmp (pc_dnotin (by omega) pk (pe_var hN hv hd hcd)) hbm, fun F H σ env fp Q sat hp => ?_⟩
  have hp' : Post X W (PFz X.KK) F H σ (eInM true i g env) (fun v H' => ∃ b, v = .bl b ∧ Q b H') := by
    have hp2 : Post X W PTb F H σ ((eInM true i g env).bind asB) Q := hp
    cases e : eInM true i g env with
    | no => rw [e] at hp2; exact hp2.elim
    | ex c => rw [e] at hp2; exact hp2
    | ok d =>
      rw [e] at hp2
      intro v F' H' x q
      have q' : Dp X.KK F' v d := q
      cases d with
      | bool b =>
        cases dp_bool q'
        exact ⟨b, rfl, hp2 b F' H' x rfl⟩
      | _ => exact hp2.elim
  have := inM_core true i sk sat hp'
  simp only [Bool.bne_true] at this
  exact this
/-- the dict in slot i, and what is left when it is changed -/
theorem mut_stepO {F H F1 H1 : Hp} {a : Addr} {o o' : HO} (x : Ext F H F1 H1) (hf : F a = none) (h : H a = some o) : StepS F H [a] F1 (upd H1 a o') [a] := by
  refine ⟨x.ff, fun b u q n => ?_, fun b u q => (x.fn b u q).imp id .inr, fun b hb => .inl hb⟩
  rw [upd_ne (fun e => n (by rw [e]; exact List.mem_singleton.mpr rfl))]
  exact x.hh _ _ q
theorem mut_freeO {F H F1 H1 : Hp} {a : Addr} {o : HO} (x : Ext F H F1 H1) (hf : F a = none) (h : H a = some o) : F1 a = none := by
  cases q : F1 a with
  | none => rfl
  | some u =>
    rcases x.fn a u q with z | z
    · rw [hf] at z; cases z
    · rw [h] at z; cases z
theorem Sat.mutM {K : Kw} {F H : Hp} {σ : L2.St} {env : Ev} {fp : List Addr} (sat : Sat K F H σ env fp) {i : Nat} {ps : List (D × D)} (hi : env[i]? = some (some (.m ps))) : ∃ a kvs, σ[i]? = some (some (.ref a)) ∧ H a = some (.dK kvs) ∧ DpKv K F kvs ps ∧
    ∀ F1 H1 kvs' ps', Ext F H F1 H1 → DpKv K F1 kvs' ps' → ∃ fp', StepS F H fp F1 (upd H1 a (.dK kvs')) fp' ∧ Sat K F1 (upd H1 a (.dK kvs')) σ (env.set i (some (.m ps'))) fp' := by
  have hl : i < env.length := (List.getElem?_eq_some_iff.mp hi).1
  obtain ⟨fr, fo0, a1, a2, a3, a3', a4, a5, a6⟩ := sat.en.put hl sat.nd
  obtain ⟨v, e1, e2⟩ := a5 _ hi
  cases e2 with
  | @m a kvs _ h1 h2 h3 =>
    refine ⟨a, kvs, e1, h2, h3, fun F1 H1 kvs' ps' x dp' => ?_⟩
    have na : a ∉ fr := a4 a List.mem_cons_self
    have fa := mut_freeO x h1 h2
    have st : StepS F H [a] F1 (upd H1 a (.dK kvs')) [a] := mut_stepO x h1 h2
    obtain ⟨fp', b1, b2, b3⟩ := (a6 F1 (upd H1 a (.dK kvs')) [a] [a] st fun b hb z => na (by rw [← List.mem_singleton.mp z]; exact hb)).2 (.ref a) (.m ps') [a] (.m fa upd_same dp') (by simp) fun b hb => by rw [List.mem_singleton.mp hb]; exact na
    rw [set_self e1] at b3
    refine ⟨fp', ⟨st.ff, fun b o q n => st.fr b o q fun z => n (by rw [List.mem_singleton.mp z]; exact a2 a List.mem_cons_self), fun b o q => (st.fn b o q).imp id (.imp (fun z => by rw [List.mem_singleton.mp z]; exact a2 a List.mem_cons_self) id), fun b hb => ?_⟩, mut_same x.fh fa, b3, b1⟩
    rcases b2 b hb with q | q
    · rw [List.mem_singleton.mp q]; exact .inl (a2 a List.mem_cons_self)
    · exact .inl (a1 b q)
/-- x[k] = e -/
def putM (i : Nat) (v : D) (g : Ev → R D) (env : Ev) : SR := match mAt i env with
  | none => .no
  | some ps => (g env).st env fun k => if isKey k = true ∧ ps.length < sizeLine then .nx (env.set i (some (.m (putP ps k v)))) else .no
def sPutM (i : Nat) (f g : Ev → R D) (env : Ev) : SR := (f env).st env fun v => putM i v g env
theorem ds_putM (i : Nat) (hu : X.A.units + 140 < cLine) (he : DF X W e f) (hk : DV X W k g) (hN : X.N[i]? = some x := by rfl) (hv : Vis X.env.scope x := by first | exact Or.inl rfl | exact Or.inr (Or.inl rfl) | exact Or.inr (Or.inr rfl)) (hd : (x == ("__debug__" : Str)) = false := by decide) (hcd : (x == ("__classdict__" : Str)) = false := by decide)
    (hs : swapsWith e (some (.Subscript (.Name x npos) k tpos)) pos.line X.env = pure false := by rfl) : DS X W S (.Assign [.Subscript (.Name x npos) k tpos] e pos) (sPutM i f g) := by
  obtain ⟨te, pe, se⟩ := he
  obtain ⟨t, pk, sk⟩ := hk
  refine ⟨_, ps_dput (by omega) (pe_var hN hv hd hcd) pk pe hs, fun F H σ env fp D sat h => ?_⟩
  unfold sPutM at h
  refine se.st sat h fun d v F1 H1 sat1 q1 x1 h1 => ?_
  unfold putM at h1
  cases hm : mAt i env with
  | none => rw [hm] at h1; exact h1.elim
  | some ps =>
    rw [hm] at h1
    simp only at h1
    obtain ⟨a, kvs, e1, m2, m3, fin⟩ := sat1.mutM (mAt_eq hm)
    refine ⟨_, e1, ?_⟩
    refine sk.st sat1 h1 fun dk u F2 H2 sat2 q2 x2 h2 => ?_
    split at h2
    · rename_i c
      obtain ⟨q, rfl⟩ := key_of_data c.1
      obtain ⟨a2, kvs2, e1', m2', m3', fin'⟩ := sat2.mutM (mAt_eq hm)
      rw [e1] at e1'
      cases e1'
      have ll := dpKv_len m3'
      obtain ⟨fp', st, sat'⟩ := fin' F2 H2 (putK kvs2 q v) (putP ps (keyD q) d) (.refl sat2.fh) (dpKv_put (dpUp q1 x2.ff) m3')
      refine ⟨a, upd H2 a (.dK (putK kvs2 q v)), rfl, ?_, h2 σ F2 _ fp' (.refl _ _) st sat'⟩
      rw [key_dp q2]
      exact DPut.k m2' (by rw [ll]; exact c.2)
    · exact h2.elim
theorem paired_get {α β : Type} {F : α → β → Prop} : ∀ {l₁ : List α} {l₂ : List β} {j : Nat} {x : β}, Paired F l₁ l₂ → l₂[j]? = some x → ∃ y, l₁[j]? = some y ∧ F y x
  | _, _, j, x, .nil, h => by simp at h
  | _, _, 0, x, .cons h t, e => by simp at e; subst e; exact ⟨_, rfl, h⟩
  | _, _, j + 1, x, .cons h t, e => by
    obtain ⟨y, a, b⟩ := paired_get (j := j) t (by simpa using e)
    exact ⟨y, by simpa using a, b⟩
end
@[simp] theorem mAt_0 (ps : List (D × D)) (env : Ev) : mAt 0 (some (.m ps) :: env) = some ps := rfl
@[simp] theorem mAt_s (i : Nat) (x : Option Ow) (env : Ev) : mAt (i + 1) (x :: env) = mAt i env := by unfold mAt; rw [List.getElem?_cons_succ]
@[simp] theorem mAt_1 (a0 : Option Ow) (ps : List (D × D)) (env : Ev) : mAt 1 (a0 :: some (.m ps) :: env) = some ps := rfl
@[simp] theorem mAt_2 (a0 a1 : Option Ow) (ps : List (D × D)) (env : Ev) : mAt 2 (a0 :: a1 :: some (.m ps) :: env) = some ps := rfl
@[simp] theorem mAt_3 (a0 a1 a2 : Option Ow) (ps : List (D × D)) (env : Ev) : mAt 3 (a0 :: a1 :: a2 :: some (.m ps) :: env) = some ps := rfl
@[simp] theorem mAt_4 (a0 a1 a2 a3 : Option Ow) (ps : List (D × D)) (env : Ev) : mAt 4 (a0 :: a1 :: a2 :: a3 :: some (.m ps) :: env) = some ps := rfl
@[simp] theorem gGetD_dict (ps : List (D × D)) (k : D) : gGetD (.dict ps) k = if isKey k = true then getP ps k else none := rfl
@[simp] theorem isKey_int (i : Int) : isKey (.int i) = true := rfl
@[simp] theorem isKey_str (z : Str) : isKey (.str z) = true := rfl
end Mir
end
set_option Elab.async false
set_option linter.all false
set_option maxRecDepth 100000
set_option maxHeartbeats 4000000
noncomputable section
namespace Mir
open PySem PySem.Spec L2
section
variable {X : Cx} {W : WX} {S : Nat → Bool} {e k : Expr} {pos tpos npos p2 : Pos} {x : Str} {f g : Ev → R D}
/-- what a stateful expression tells, walked: a list -/
def xSeq (f : Ev → R (D × Ev)) (env : Ev) : R (List D × Ev) := (f env).bind fun p => match p.1 with
  | .list ds => .ok (ds, p.2)
  | _ => .no
@[simp] theorem xSeq_eq (f : Ev → R (D × Ev)) (env : Ev) : xSeq f env = (f env).bind fun p => match p.1 with
  | .list ds => .ok (ds, p.2)
  | _ => .no := rfl
end
end Mir
end
set_option Elab.async false
set_option linter.all false
set_option maxRecDepth 100000
set_option maxHeartbeats 4000000
noncomputable section
namespace Mir
open PySem PySem.Spec PyProof.Rows L2
/-- what is to be known of an own class over ValueError -/
structure ExcT (K : PySem.W.Frag) (mg : Str → Option Value) (x : Str) (C : Addr) : Prop where
  gC : mg x = some (.ref C)
  ex : PySem.W.excIn K C [.type "ValueError", .type "Exception", .type "BaseException", .type "object"] "ValueError.__new__" = true
  kC : PySem.W.keepIn K (.ref C) = true
  bP : PySem.W.subIn K (.ref C) (.type "BaseException") = some true
  tP : PySem.W.typeIn K (.ref C) = some (.type "type")
def sRaise (x : Str) (env : Ev) : SR := .ex x env
@[simp] theorem sRaise_eq (x : Str) (env : Ev) : sRaise x env = .ex x env := rfl
section
variable {X : Cx} {W : WX} {S : Nat → Bool} {pos p p2 np pos' : Pos} {x m : Str} {j : Nat} {C : Addr}
theorem ds_raise (hc : X.calm = true) (tk : Takes X W) (T : ExcT X.K X.mg x C) (hg : Gl X x) (hdb : (x == ("__debug__" : Str)) = false := by decide) : DS X W S (.Raise (some (.Call (.Name x p) [.Constant (.str m) j p2] [] pos')) none pos) (sRaise x) := by
  refine ⟨_, ps_raise hc tk (pmk_own PySem.F.excBase_ValueError T.ex T.gC T.kC (raises_own T.bP T.tP) hg hdb), fun F H σ env fp D sat h => ?_⟩
  exact h C σ F H fp T.gC (.refl _ _) (StepS.of_ext (.refl sat.fh) fp) sat
theorem PSs.imp {st : List Stmt} {t t' : TS} (h : PSs X st t) (k : ∀ D σ H, t' D σ H → t D σ H) : PSs X st t' := ⟨fun pins s σ H D I q => h.run pins s σ H D I (k D σ H q)⟩
/-- canonical: what a block's mirror asks -/
def tsOf (X : Cx) (W : WX) (S : Nat → Bool) (f : Ev → SR) : TS := fun D σ H => ∃ F env fp, Sat X.KK F H σ env fp ∧ PostS X W S σ F H fp D (f env)
theorem DSs.can {st : List Stmt} {f : Ev → SR} (h : DSs X W S st f) : PSs X st (tsOf X W S f) := by
  obtain ⟨t, p, s⟩ := h
  refine PSs.imp p ?_
  rintro D σ H ⟨F, env, fp, sat, h⟩
  exact s F H σ env fp D sat h
end
section
variable {X : Cx} {W : WX} {S : Nat → Bool} {i : Nat} {a : Addr} {pos p p2 np pos' : Pos} {x n T : Str} {e e1 e2 : Expr} {g g1 g2 : Ev → R D}
/-- a flat name -/
def eFlat (k : Nat) (env : Ev) : R D := (eVar k env).bind fun d => if flatD d = true then .ok d else .no
@[simp] theorem eFlat_eq (k : Nat) (env : Ev) : eFlat k env = (eVar k env).bind fun d => if flatD d = true then .ok d else .no := rfl
/-- int(a truth) -/
def eIntB (g : Ev → R D) (env : Ev) : R D := (g env).bind fun d => match d with
  | .bool b => .ok (.int (if b = true then 1 else 0))
  | _ => .no
@[simp] theorem eIntB_eq (g : Ev → R D) (env : Ev) : eIntB g env = (g env).bind fun d => match d with
  | .bool b => .ok (.int (if b = true then 1 else 0))
  | _ => .no := rfl
/-- + of whole numbers -/
def eAddI (g1 g2 : Ev → R D) (env : Ev) : R D := (g1 env).bind fun x => (g2 env).bind fun y => match x, y with
  | .int i, .int j => .ok (.int (i + j))
  | _, _ => .no
@[simp] theorem eAddI_eq (g1 g2 : Ev → R D) (env : Ev) : eAddI g1 g2 env = (g1 env).bind fun x => (g2 env).bind fun y => match x, y with
  | .int i, .int j => .ok (.int (i + j))
  | _, _ => .no := rfl
end
end Mir
end
set_option Elab.async false
set_option linter.all false
set_option maxRecDepth 100000
set_option maxHeartbeats 4000000
noncomputable section
namespace Mir
open PySem PySem.Spec PyProof.Rows L2
section
variable {X : Cx} {W : WX} {S : Nat → Bool} {i : Nat} {a : Addr} {pos p p2 np pos' : Pos} {x n T : Str} {e e1 e2 : Expr} {g g1 g2 : Ev → R D}
end
section
variable {K : PySem.W.Frag}
end
end Mir
end
set_option Elab.async false
set_option linter.all false
set_option maxRecDepth 100000
set_option maxHeartbeats 4000000
noncomputable section
namespace Mir
open PySem PySem.Spec PyProof.Rows L2
def gLtS : D → D → Option D
  | .str x, .str y => some (.bool (decide (x.cps.toList < y.cps.toList)))
  | _, _ => none
@[simp] theorem gLtS_str (x y : Str) : gLtS (.str x) (.str y) = some (.bool (decide (x.cps.toList < y.cps.toList))) := rfl
section
variable {X : Cx} {W : WX} {a b : Expr} {f g : Ev → R D} {pos : Pos}
end
end Mir
end
set_option Elab.async false
set_option linter.all false
set_option maxRecDepth 100000
set_option maxHeartbeats 4000000
noncomputable section
namespace Mir
open PySem PySem.Spec PyProof.Rows L2
section
variable {X : Cx} {W : WX} {S : Nat → Bool} {e k : Expr} {pos cpos apos npos tpos : Pos} {x : Str}
end
end Mir
end
set_option Elab.async false
set_option linter.all false
set_option maxRecDepth 100000
set_option maxHeartbeats 4000000
noncomputable section
namespace Mir
open PySem PySem.Spec PyProof.Rows L2
section
variable {K : Kw} {F H : Hp} {σ : L2.St} {env : Ev} {fp : List Addr}
end
section
variable {X : Cx} {W : WX} {S : Nat → Bool} {e k k2 : Expr} {pos cpos apos npos tpos tpos2 : Pos} {x : Str}
end
end Mir
end
set_option Elab.async false
set_option linter.all false
set_option maxRecDepth 100000
set_option maxHeartbeats 4000000
noncomputable section
namespace Mir
open PySem PySem.Spec PyProof.Rows L2
section
variable {X : Cx} {W : WX} {S : Nat → Bool} {e k : Expr} {es : List Expr} {pos cpos apos npos p p2 pos2 : Pos} {x : Str} {tg : Expr}
def mergeD (acc : List (D × D)) (ps : List (Str × D)) : List (D × D) := ps.foldl (fun acc p => putP acc (.str p.1) p.2) acc
def eDictOf (f : Ev → R D) (env : Ev) : R Ow := (f env).bind fun d => match asPairs d with
  | none => .no
  | some ps => .ok (.m (mergeD [] ps))
@[simp] theorem eDictOf_eq (f : Ev → R D) (env : Ev) : eDictOf f env = (f env).bind fun d => match asPairs d with
  | none => .no
  | some ps => .ok (.m (mergeD [] ps)) := rfl
def oNil (_ : Ev) : R (List Ow) := .ok []
def oCons (f : Ev → R Ow) (g : Ev → R (List Ow)) (env : Ev) : R (List Ow) := (f env).bind fun o => (g env).map fun os => o :: os
@[simp] theorem oNil_eq (env : Ev) : oNil env = .ok [] := rfl
@[simp] theorem oCons_eq (f : Ev → R Ow) (g : Ev → R (List Ow)) (env : Ev) : oCons f g env = (f env).bind fun o => (g env).map fun os => o :: os := rfl
def eLstO (f : Ev → R (List Ow)) (env : Ev) : R Ow := (f env).bind fun os => guard (os.length ≤ sizeLine) (.ok (.l os))
@[simp] theorem eLstO_eq (f : Ev → R (List Ow)) (env : Ev) : eLstO f env = (f env).bind fun os => guard (os.length ≤ sizeLine) (.ok (.l os)) := rfl
def eLenO (f : Ev → R Ow) (env : Ev) : R D := (f env).bind fun o => match o with
  | .l os => .ok (.int (os.length : Nat))
  | _ => .no
@[simp] theorem eLenO_eq (f : Ev → R Ow) (env : Ev) : eLenO f env = (f env).bind fun o => match o with
  | .l os => .ok (.int (os.length : Nat))
  | _ => .no := rfl
end
end Mir
end
set_option Elab.async false
set_option linter.all false
set_option maxRecDepth 100000
set_option maxHeartbeats 4000000
noncomputable section
namespace Mir
open PySem PySem.Spec PyProof.Rows L2
section
variable {K : Kw} {F H : Hp} {σ : L2.St} {env : Ev} {fp : List Addr}
end
section
variable {X : Cx} {W : WX} {S : Nat → Bool} {e k k2 : Expr} {pos npos tpos tpos2 : Pos} {x : Str}
end

section
variable {X : Cx} {W : WX} {S : Nat → Bool} {e : Expr} {st : Stmt} {fs : Ev → SR}
/-- an item of an own list, which is data -/
def asD : Ow → R D
  | .d x => .ok x
  | _ => .no
@[simp] theorem asD_d (x : D) : asD (.d x) = .ok x := rfl
end
end Mir
end
set_option Elab.async false
set_option linter.all false
set_option maxRecDepth 100000
set_option maxHeartbeats 4000000
noncomputable section
namespace Mir
open PySem PySem.Spec PyProof.Rows L2
section
variable {X : Cx} {W : WX} {S : Nat → Bool} {pos npos ypos : Pos} {x y : Str} {fs : Ev → SR}
end
end Mir
end
set_option Elab.async false
set_option linter.all false
set_option maxRecDepth 100000
set_option maxHeartbeats 4000000
noncomputable section
namespace Mir
open PySem PySem.Spec L2
section
variable {X : Cx} {es : List Expr} {pos : Pos}
def xLst (f : Ev → R (List D × Ev)) (env : Ev) : R (D × Ev) := (f env).bind fun p => guard (p.1.length ≤ sizeLine) (.ok (.list p.1, p.2))
@[simp] theorem xLst_eq (f : Ev → R (List D × Ev)) (env : Ev) : xLst f env = (f env).bind fun p => guard (p.1.length ≤ sizeLine) (.ok (.list p.1, p.2)) := rfl
end
end Mir
end
set_option Elab.async false
set_option linter.all false
set_option maxRecDepth 100000
set_option maxHeartbeats 4000000
noncomputable section
namespace Mir
open PySem PySem.Spec L2
section
variable {X : Cx} {W : WX} {S : Nat → Bool} {pos : Pos} {e a b : Expr} {x : Str} {npos : Pos}
end
end Mir
end
set_option Elab.async false
set_option linter.all false
set_option maxRecDepth 100000
set_option maxHeartbeats 4000000
noncomputable section
namespace Mir
open PySem PySem.Spec PyProof.Rows L2
section
variable {X : Cx} {W : WX} {o e : Expr} {apos cpos : Pos} {f g : Ev → R D}
end
end Mir
end
set_option Elab.async false
set_option linter.all false
set_option maxRecDepth 100000
set_option maxHeartbeats 4000000
noncomputable section
namespace Mir
open PySem PySem.Spec PyProof.Rows L2
section
variable {X : Cx} {W : WX}
end
end Mir
end
set_option Elab.async false
set_option linter.all false
set_option maxRecDepth 100000
set_option maxHeartbeats 4000000
noncomputable section
namespace Mir
open PySem PySem.Spec PyProof.Rows L2
/-- what an exception at hand may be tracked as -/
structure ExH (φ : Heap → Prop) (cls : Value) (d : Option Addr) (a : Addr) : Prop where
  of : ∀ (h : Heap) (oe : Obj) (vs : Array Value), h.get? a = some oe → Zc cls d oe → oe.data = .fields vs → φ h
  st : ∀ h1 h2 : Heap, φ h1 → (∀ o, h1.get? a = some o → h2.get? a = some o) → φ h2
section
variable {X : Cx} {x n : Str} {c : Value} {i : Nat} {body suite : List Stmt} {b₀ : Stmt} {np pos pos' : Pos} {tb : WX → TS} {ts : TS} {Wout : WX}
end
/-- what each class is, where it is caught: true, let out: false; else not mirrored -/
def lookE : List (Str × Bool) → Str → Option Bool
  | [], _ => none
  | p :: ps, c => if p.1 = c then some p.2 else lookE ps c
/-- the own classes of a program, where they stand -/
structure OwnC (K : PySem.W.Frag) (mg : Str → Option Value) (c : Str) (C : Addr) : Prop where
  ns : PySem.W.nsIn K mainGlobals c = some (some (.ref C))
  gC : mg c = some (.ref C)
inductive CatchT (K : PySem.W.Frag) (mg : Str → Option Value) (x : Addr) : List (Str × Bool) → Prop
  | nil : CatchT K mg x []
  | cons {c : Str} {C : Addr} {b : Bool} {l : List (Str × Bool)} : OwnC K mg c C → PySem.W.exmOne K (.ref C) (.ref x) = some b → CatchT K mg x l → CatchT K mg x ((c, b) :: l)
/-- slot i holds nothing behind the suite -/
def dropT (i : Nat) : SR → SR
  | .nx env => .nx (env.set i none)
  | .rt r env => .rt r env
  | _ => .no
section
variable {X : Cx} {W : WX} {S : Nat → Bool} {x n : Str} {np pos pos' : Pos}
end
inductive TyE (K : Kw) (H : Hp) (x : V) (t : Value) : Prop
  | ty (h : TyX K.K H x t) : TyE K H x t
  | exc {a : Addr} {c : Str} {C : Addr} (hx : x = .ref a) (ht : t = .ref C) (ha : Rd H a (excO K a c)) (hc : PySem.W.nsIn K.K mainGlobals c = some (some (.ref C))) (ec : ExcC K.K C) : TyE K H x t
section
variable {X : Cx}
end
/-- a class asked of each own class, and of None -/
inductive AskT (K : PySem.W.Frag) (us : List Value) : List (Str × Bool) → Prop
  | nil : AskT K us []
  | cons {c : Str} {C : Addr} {b : Bool} {l : List (Str × Bool)} : PySem.W.nsIn K mainGlobals c = some (some (.ref C)) → ExcC K C → PySem.W.kitAny K (.ref C) us = some b → AskT K us l → AskT K us ((c, b) :: l)
/-- isinstance(e, X), e an exception or None -/
def gIsE (l : List (Str × Bool)) : D → R D
  | .none => .ok (.bool false)
  | .dict [(.none, .str c)] => match lookE l c with
    | some b => .ok (.bool b)
    | none => .no
  | _ => .no
@[simp] theorem gIsE_none (l : List (Str × Bool)) : gIsE l .none = .ok (.bool false) := rfl
section
variable {X : Cx} {W : WX} {a : Expr} {pos p p2 : Pos} {T : Str} {f : Ev → R D}
end
end Mir
end
set_option Elab.async false
set_option linter.all false
set_option maxRecDepth 100000
set_option maxHeartbeats 4000000
noncomputable section
namespace Mir
open PySem PySem.Spec PyProof.Rows L2
mutual
/-- data without lists and dicts: it can't lead to what may change -/
def cleanD : D → Bool
  | .none => true
  | .bool _ => true
  | .int _ => true
  | .str _ => true
  | .list _ => false
  | .tuple ds => cleanDs ds
  | .dict _ => false
def cleanDs : List D → Bool
  | [] => true
  | d :: ds => cleanD d && cleanDs ds
end
def cleanKv : List (D × D) → Bool
  | [] => true
  | p :: ps => cleanD p.2 && cleanKv ps
mutual
def cleanO : Ow → Bool
  | .d x => cleanD x
  | .l xs => cleanOs xs
  | .m ps => cleanKv ps
  | .t xs => cleanOs xs
  | .k _ xs => cleanOs xs
  | .n _ xs => cleanOs xs
  | .o _ _ xs => cleanOs xs
def cleanOs : List Ow → Bool
  | [] => true
  | o :: os => cleanO o && cleanOs os
end
mutual
theorem clean_key : ∀ k : NestedKey, cleanD k.data = true
  | .none => by rw [NestedKey.data, cleanD]
  | .num _ => by rw [NestedKey.data, cleanD]
  | .text _ => by rw [NestedKey.data, cleanD]
  | .tup ks => by rw [NestedKey.data, cleanD]; exact clean_keys ks
theorem clean_keys : ∀ ks : List NestedKey, cleanDs (NestedKey.datas ks) = true
  | [] => by rw [NestedKey.datas, cleanDs]
  | k :: ks => by rw [NestedKey.datas, cleanDs, clean_key k, clean_keys ks]; rfl
end
section
variable {K : Kw} {F' F'' H' : Hp} (hT : ∀ a xs, SqT K.K F' a xs → SqT K.K F'' a xs)
include hT
mutual
theorem Dp.thaw : ∀ (d : D) (v : V), Dp K F' v d → cleanD d = true → Dp K F'' v d
  | .none, _, h, _ => by rw [dp_none h]; exact .non
  | .bool b, _, h, _ => by rw [dp_bool h]; exact .bl b
  | .int i, _, h, _ => by rw [dp_int h]; exact .int i
  | .str z, _, h, _ => by rw [dp_str h]; exact .str z
  | .list _, _, _, c => by rw [cleanD] at c; cases c
  | .dict _, _, _, c => by rw [cleanD] at c; cases c
  | .tuple ds, _, h, c => by
    rw [cleanD] at c
    cases h with
    | tup h1 h2 => exact .tup (hT _ _ h1) (DpAll.thaw ds _ h2 c)
theorem DpAll.thaw : ∀ (ds : List D) (vs : List V), DpAll K F' vs ds → cleanDs ds = true → DpAll K F'' vs ds
  | [], _, h, _ => by cases h; exact .nil
  | d :: ds, _, h, c => by
    rw [cleanDs, Bool.and_eq_true] at c
    cases h with
    | cons h1 h2 => exact .cons (Dp.thaw d _ h1 c.1) (DpAll.thaw ds _ h2 c.2)
end
theorem DpKv.thaw : ∀ (ps : List (D × D)) (kvs : List (Key × V)), DpKv K F' kvs ps → cleanKv ps = true → DpKv K F'' kvs ps
  | [], _, h, _ => by cases h; exact .nil
  | p :: ps, _, h, c => by
    rw [cleanKv, Bool.and_eq_true] at c
    cases h with
    | cons h1 h2 => exact .cons (Dp.thaw hT _ _ h1 c.1) (DpKv.thaw ps _ h2 c.2)
variable (hn : ∀ b, F' b = none → F'' b = none)
include hn
mutual
theorem OwnAt.thaw : ∀ (o : Ow) (v : V) (fp : List Addr), OwnAt K F' H' v o fp → cleanO o = true → OwnAt K F'' H' v o fp
  | .d x, v, fp, h, c => by
    rw [cleanO] at c
    cases h with
    | d q => exact .d (Dp.thaw hT x v q c)
  | .l os, v, fp, h, c => by
    rw [cleanO] at c
    cases h with
    | l h1 h2 h3 => exact .l (hn _ h1) h2 (OwnAll.thaw os _ _ h3 c)
  | .m ps, v, fp, h, c => by
    rw [cleanO] at c
    cases h with
    | m h1 h2 h3 => exact .m (hn _ h1) h2 (DpKv.thaw hT ps _ h3 c)
  | .t os, v, fp, h, c => by
    rw [cleanO] at c
    cases h with
    | t h1 h2 => exact .t (hT _ _ h1) (OwnAll.thaw os _ _ h2 c)
  | .k _ os, v, fp, h, c => by
    rw [cleanO] at c
    cases h with
    | k h1 h2 h3 => exact .k (hn _ h1) h2 (OwnAll.thaw os _ _ h3 c)
  | .n _ os, v, fp, h, c => by
    rw [cleanO] at c
    cases h with
    | n h1 h2 h3 h4 => exact .n (hn _ h1) h2 (fun p hp => ⟨Dp.thaw hT _ _ (h3 p hp).1 (clean_key _), (h3 p hp).2⟩) (OwnAll.thaw os _ _ h4 c)
  | .o _ _ os, v, fp, h, c => by
    rw [cleanO] at c
    cases h with
    | o h0 h1 h2 h3 h4 h5 => exact .o h0 (hn _ h1) (hn _ h2) h3 h4 (OwnAll.thaw os _ _ h5 c)
theorem OwnAll.thaw : ∀ (os : List Ow) (vs : List V) (fp : List Addr), OwnAll K F' H' vs os fp → cleanOs os = true → OwnAll K F'' H' vs os fp
  | [], vs, fp, h, _ => by cases h; exact .nil
  | o :: os, vs, fp, h, c => by
    rw [cleanOs, Bool.and_eq_true] at c
    cases h with
    | cons h1 h2 => exact .cons (OwnAt.thaw o _ _ h1 c.1) (OwnAll.thaw os _ _ h2 c.2)
end
end
/-- neither a tuple nor a thing that is held still -/
def notT (u : HO) : Prop := (∀ xs, u ≠ .tup xs) ∧ ∀ o w, u ≠ .frz o w
mutual
theorem OwnAt.kinds {K : Kw} {F H : Hp} : ∀ (o : Ow) (v : V) (fp : List Addr), OwnAt K F H v o fp → ∀ b ∈ fp, ∃ u, H b = some u ∧ notT u
  | .d x, v, fp, h, b, hb => by cases h; cases hb
  | .l os, v, fp, h, b, hb => by
    cases h with
    | l h1 h2 h3 =>
      rcases List.mem_cons.mp hb with e | e
      · subst e; exact ⟨_, h2, (fun _ z => nomatch z), fun _ _ z => nomatch z⟩
      · exact OwnAll.kinds os _ _ h3 b e
  | .m ps, v, fp, h, b, hb => by
    cases h with
    | m h1 h2 h3 =>
      rw [List.mem_singleton] at hb
      subst hb; exact ⟨_, h2, (fun _ z => nomatch z), fun _ _ z => nomatch z⟩
  | .t os, v, fp, h, b, hb => by
    cases h with
    | t h1 h2 => exact OwnAll.kinds os _ _ h2 b hb
  | .k _ os, v, fp, h, b, hb => by
    cases h with
    | k h1 h2 h3 =>
      rcases List.mem_cons.mp hb with e | e
      · subst e; exact ⟨_, h2, (fun _ z => nomatch z), fun _ _ z => nomatch z⟩
      · exact OwnAll.kinds os _ _ h3 b e
  | .n _ os, v, fp, h, b, hb => by
    cases h with
    | n h1 h2 h3 h4 =>
      rcases List.mem_cons.mp hb with e | e
      · subst e; exact ⟨_, h2, (fun _ z => nomatch z), fun _ _ z => nomatch z⟩
      · exact OwnAll.kinds os _ _ h4 b e
  | .o _ _ os, v, fp, h, b, hb => by
    cases h with
    | o h0 h1 h2 h3 h4 h5 =>
      rcases List.mem_cons.mp hb with e | e
      · subst e; exact ⟨_, h3, (fun _ z => nomatch z), fun _ _ z => nomatch z⟩
      · rcases List.mem_cons.mp e with e | e
        · subst e; exact ⟨_, h4, (fun _ z => nomatch z), fun _ _ z => nomatch z⟩
        · exact OwnAll.kinds os _ _ h5 b e
theorem OwnAll.kinds {K : Kw} {F H : Hp} : ∀ (o : List Ow) (v : List V) (fp : List Addr), OwnAll K F H v o fp → ∀ b ∈ fp, ∃ u, H b = some u ∧ notT u
  | [], v, fp, h, b, hb => by cases h; cases hb
  | o :: os, v, fp, h, b, hb => by
    cases h with
    | cons h1 h2 =>
      rcases List.mem_append.mp hb with e | e
      · exact OwnAt.kinds o _ _ h1 b e
      · exact OwnAll.kinds os _ _ h2 b e
end
/-- the slots behind the statement: slot i is own again, those of dead are forgotten -/
def thawL (i : Nat) (o : Ow) (dead : List Nat) : Nat → Ev → Ev
  | _, [] => []
  | n, x :: xs => (if n = i then some o else if n ∈ dead then none else x) :: thawL i o dead (n + 1) xs
/-- what may stand in the other slots -/
def okAt (i : Nat) (dead keep : List Nat) (env : Ev) (n : Nat) (x : Option Ow) : Prop := n = i ∨ n ∈ dead ∨ x = none ∨ (∃ o, x = some o ∧ cleanO o = true) ∨ (n ∈ keep ∧ ∃ d, x = some (.d d) ∧ env[n]? = some (some (.d d)))
def okThaw (i : Nat) (dead keep : List Nat) (env env' : Ev) : Prop := ∀ j x, env'[j]? = some x → okAt i dead keep env j x
theorem thaw_env {K : Kw} {F' F'' H' : Hp} (hT : ∀ a xs, SqT K.K F' a xs → SqT K.K F'' a xs) (hn : ∀ b, F' b = none → F'' b = none) {i : Nat} {o : Ow} {dead keep : List Nat} {env : Ev} {v : V} {fo : List Addr} (ho : OwnAt K F'' H' v o fo) (no : fo.Nodup) :
    ∀ {σ : L2.St} {env' : Ev} {fp : List Addr}, EnvAt K F' H' σ env' fp → fp.Nodup → (∀ b ∈ fo, b ∉ fp) → ∀ n, (∀ j x, env'[j]? = some x → okAt i dead keep env (n + j) x) → (∀ j d, n + j ∈ keep → env[n + j]? = some (some (.d d)) → j < env'.length → ∃ v, σ[j]? = some (some v) ∧ Dp K F'' v d) →
    (∀ j, n + j = i → j < env'.length → σ[j]? = some (some v)) → ∃ fp', EnvAt K F'' H' σ (thawL i o dead n env') fp' ∧ fp'.Nodup ∧ ∀ b ∈ fp', b ∈ fp ∨ (b ∈ fo ∧ n ≤ i) := by
  intro σ env' fp h
  induction h with
  | nil => intro _ _ n _ _ _; exact ⟨[], .nil, List.nodup_nil, fun b z => nomatch z⟩
  | @non x σ' env2 fps h ih =>
    intro nd dj n ok kp sl
    obtain ⟨fp', e1, e2, e3⟩ := ih nd dj (n + 1) (fun j x hx => by have := ok (j + 1) x (by simpa using hx); rwa [show n + (j + 1) = n + 1 + j by omega] at this)
      (fun j d hj hd hl => by
        obtain ⟨v, a, b⟩ := kp (j + 1) d (by rwa [show n + (j + 1) = n + 1 + j by omega]) (by rwa [show n + (j + 1) = n + 1 + j by omega]) (by simpa using hl)
        exact ⟨v, by simpa using a, b⟩)
      (fun j hj hl => by simpa using sl (j + 1) (by omega) (by simpa using hl))
    unfold thawL
    by_cases hi : n = i
    · rw [if_pos hi]
      have hs := sl 0 (by omega) (by simp)
      simp only [List.getElem?_cons_zero, Option.some.injEq] at hs
      subst hs
      refine ⟨fo ++ fp', .som ho e1, ?_, fun b hb => ?_⟩
      · rw [List.nodup_append]
        refine ⟨no, e2, fun a ha b hb e => ?_⟩
        subst e
        rcases e3 a hb with z | z
        · exact dj a ha z
        · omega
      · rcases List.mem_append.mp hb with z | z
        · exact .inr ⟨z, by omega⟩
        · rcases e3 b z with z | z
          · exact .inl z
          · omega
    · rw [if_neg hi]
      have : (if n ∈ dead then (none : Option Ow) else none) = none := by split <;> rfl
      rw [this]
      exact ⟨fp', .non e1, e2, fun b hb => (e3 b hb).imp id fun z => ⟨z.1, by omega⟩⟩
  | @som u w σ' env2 f1 fps h1 h2 ih =>
    intro nd dj n ok kp sl
    rw [List.nodup_append] at nd
    obtain ⟨n1, n2, n3⟩ := nd
    obtain ⟨fp', e1, e2, e3⟩ := ih n2 (fun b hb z => dj b hb (List.mem_append_right _ z)) (n + 1) (fun j x hx => by have := ok (j + 1) x (by simpa using hx); rwa [show n + (j + 1) = n + 1 + j by omega] at this)
      (fun j d hj hd hl => by
        obtain ⟨v, a, b⟩ := kp (j + 1) d (by rwa [show n + (j + 1) = n + 1 + j by omega]) (by rwa [show n + (j + 1) = n + 1 + j by omega]) (by simpa using hl)
        exact ⟨v, by simpa using a, b⟩)
      (fun j hj hl => by simpa using sl (j + 1) (by omega) (by simpa using hl))
    unfold thawL
    by_cases hi : n = i
    · rw [if_pos hi]
      have hs := sl 0 (by omega) (by simp)
      simp only [List.getElem?_cons_zero, Option.some.injEq] at hs
      subst hs
      refine ⟨fo ++ fp', .som ho e1, ?_, fun b hb => ?_⟩
      · rw [List.nodup_append]
        refine ⟨no, e2, fun a ha b hb e => ?_⟩
        subst e
        rcases e3 a hb with z | z
        · exact dj a ha (List.mem_append_right _ z)
        · omega
      · rcases List.mem_append.mp hb with z | z
        · exact .inr ⟨z, by omega⟩
        · rcases e3 b z with z | z
          · exact .inl (List.mem_append_right _ z)
          · omega
    · rw [if_neg hi]
      by_cases hd : n ∈ dead
      · rw [if_pos hd]
        exact ⟨fp', .non e1, e2, fun b hb => (e3 b hb).imp (List.mem_append_right _) fun z => ⟨z.1, by omega⟩⟩
      · rw [if_neg hd]
        have key : ∃ g, OwnAt K F'' H' u w g ∧ g.Nodup ∧ ∀ b ∈ g, b ∈ f1 := by
          rcases ok 0 (some w) rfl with z | z | z | ⟨o', z, c⟩ | ⟨z, d, e, ee⟩
          · omega
          · exact absurd z hd
          · cases z
          · cases z
            exact ⟨f1, OwnAt.thaw hT hn _ _ _ h1 c, n1, fun _ z => z⟩
          · cases e
            obtain ⟨v', a, b⟩ := kp 0 d z ee (by simp)
            simp only [List.getElem?_cons_zero, Option.some.injEq] at a
            subst a
            exact ⟨[], .d b, List.nodup_nil, fun b z => nomatch z⟩
        obtain ⟨g, g1, g2, g3⟩ := key
        refine ⟨g ++ fp', .som g1 e1, ?_, fun b hb => ?_⟩
        · rw [List.nodup_append]
          refine ⟨g2, e2, fun a ha b hb e => ?_⟩
          subst e
          rcases e3 a hb with z | z
          · exact n3 a (g3 a ha) a z rfl
          · exact dj a z.1 (List.mem_append_left _ (g3 a ha))
        · rcases List.mem_append.mp hb with z | z
          · exact .inl (List.mem_append_left _ (g3 b z))
          · exact (e3 b z).imp (List.mem_append_right _) fun z => ⟨z.1, by omega⟩
/-- the slots that the statement leaves alone -/
def thawS (i : Nat) (keep : List Nat) (S : Nat → Bool) (j : Nat) : Bool := !(j == i) && !(keep.contains j) && S j
def thawR (i : Nat) (o : Ow) (dead keep : List Nat) (env env' : Ev) (f : Ev → SR) : SR := @ite _ (okThaw i dead keep env env' ∧ i < env'.length) (Classical.propDecidable _) (f (thawL i o dead 0 env')) .no
def sThaw (i : Nat) (dead keep : List Nat) (f : Ev → SR) (env : Ev) : SR := match env[i]? with
  | some (some o) => match f (env.set i (some (.d (viewD o)))) with
    | .nx env' => thawR i o dead keep env env' .nx
    | .bk env' => thawR i o dead keep env env' .bk
    | .ct env' => thawR i o dead keep env env' .ct
    | r => r
  | _ => .no
section
variable {X : Cx} {W : WX} {S : Nat → Bool} {fs : Ev → SR} {st : Stmt}
theorem thaw_sm {t : TS} (i : Nat) (dead keep : List Nat) (s : SmS X W (thawS i keep S) t fs) : SmS X W S t (sThaw i dead keep fs) := by
  intro F H σ env fp D sat h
  unfold sThaw at h
  cases he : env[i]? with
  | none => rw [he] at h; exact h.elim
  | some q =>
  cases q with
  | none => rw [he] at h; exact h.elim
  | some o =>
  rw [he] at h
  simp only at h
  have hi : i < env.length := (List.getElem?_eq_some_iff.mp he).1
  obtain ⟨fr, fo, a1, a2, a3, a3', a4, a5, a6⟩ := sat.en.put hi sat.nd
  obtain ⟨v, e1, e2⟩ := a5 o he
  have nx : ∀ b ∈ fo, F b = none := fun b hb => (OwnAt.there _ _ _ e2 b hb).1
  have st0 : StepS F H fo (frzAt F H fo) H [] := ⟨frzAt_same nx, fun b o e _ => e, fun b o e => (frzAt_of e).imp id .inl, fun b z => nomatch z⟩
  obtain ⟨fp1, b1, b2, b3⟩ := (a6 (frzAt F H fo) H fo [] st0 fun b hb z => a4 b z hb).2 v _ [] (.d (OwnAt.frz nx _ _ _ e2 fun _ z => z)) List.nodup_nil (fun _ z => nomatch z)
  have es : σ.set i (some v) = σ := set_self e1
  rw [es] at b3
  have sub1 : ∀ b ∈ fp1, b ∈ fr := fun b hb => (b2 b hb).elim (fun z => nomatch z) id
  have sat1 : Sat X.KK (frzAt F H fo) H σ (env.set i (some (.d (viewD o)))) fp1 := ⟨frzAt_in sat.fh, b3, b1⟩
  have stp1 : StepS F H fp (frzAt F H fo) H fp1 := ⟨frzAt_same nx, fun b o e _ => e, fun b o e => (frzAt_of e).imp id fun z => .inl (a2 b z), fun b hb => .inl (a1 b (sub1 b hb))⟩
  have offS : ∀ {σ' : L2.St}, OffS (thawS i keep S) σ σ' → OffS S σ σ' := fun o j hj => o j (by unfold thawS; rw [hj]; simp)
  -- behind the statement
  have back : ∀ (env' : Ev) (σ' : L2.St) (F' H' : Hp) (fp' : List Addr), OffS (thawS i keep S) σ σ' → StepS (frzAt F H fo) H fp1 F' H' fp' → Sat X.KK F' H' σ' env' fp' → okThaw i dead keep env env' → i < env'.length →
      ∃ F'' fp'', StepS F H fp F'' H' fp'' ∧ Sat X.KK F'' H' σ' (thawL i o dead 0 env') fp'' := by
    intro env' σ' F' H' fp' off st2 sat2 ok hil
    let F'' : Hp := fun b => if b ∈ fo then none else F' b
    have f0 : ∀ b, b ∉ fo → F'' b = F' b := fun b hb => if_neg hb
    have f1 : ∀ b, b ∈ fo → F'' b = none := fun b hb => if_pos hb
    have frz : ∀ b ∈ fo, ∃ u, F' b = some u ∧ H b = some u ∧ H' b = some u ∧ notT u := fun b hb => by
      obtain ⟨u, k1, k2⟩ := OwnAt.kinds _ _ _ e2 b hb
      have : frzAt F H fo b = some u := (if_pos hb).trans k1
      have q := st2.ff b u this
      exact ⟨u, q, k1, sat2.fh b u q, k2⟩
    have ffs : Same F F'' := fun b u e => by
      have : b ∉ fo := fun z => by rw [nx b z] at e; cases e
      rw [f0 b this]
      exact st2.ff b u (frzAt_same nx b u e)
    have hT : ∀ a xs, SqT X.K F' a xs → SqT X.K F'' a xs := fun a xs q => by
      rcases q with (q | ⟨ob, q⟩) | q
      · refine .inl (.inl ?_)
        rw [f0 a fun z => ?_]
        · exact q
        · obtain ⟨u, k1, _, _, k2⟩ := frz a z
          rw [k1] at q; cases q
          exact k2.1 _ rfl
      · refine .inl (.inr ⟨ob, ?_⟩)
        rw [f0 a fun z => ?_]
        · exact q
        · obtain ⟨u, k1, _, _, k2⟩ := frz a z
          rw [k1] at q; cases q
          exact k2.2 _ _ rfl
      · exact .inr q
    have hn : ∀ b, F' b = none → F'' b = none := fun b e => by
      by_cases z : b ∈ fo
      · exact f1 b z
      · rw [f0 b z]; exact e
    have stF : StepS F H fr F'' H' fp' := by
      refine ⟨ffs, fun b u e n => st2.fr b u e fun z => n (sub1 b z), fun b u e => ?_, fun b hb => (st2.sub b hb).imp (sub1 b) id⟩
      have z : b ∉ fo := fun z => by rw [f1 b z] at e; cases e
      rw [f0 b z] at e
      rcases st2.fn b u e with q | q | q
      · rcases frzAt_of q with q | q
        · exact .inl q
        · exact absurd q z
      · exact .inr (.inl (sub1 b q))
      · exact .inr (.inr q)
    have ho : OwnAt X.KK F'' H' v o fo := OwnAt.keep stF _ _ _ e2 fun b hb z => a4 b hb z
    have dj : ∀ b ∈ fo, b ∉ fp' := fun b hb z => by
      obtain ⟨u, k1, _⟩ := frz b hb
      rw [(sat2.en.there b z).1] at k1; cases k1
    obtain ⟨fp'', c1, c2, c3⟩ := thaw_env (K := X.KK) hT hn (i := i) (o := o) (dead := dead) (keep := keep) (env := env) ho a3' sat2.en sat2.nd dj 0 (fun j x hx => by rw [Nat.zero_add]; exact ok j x hx)
      (fun j d hj hd hl => by
        rw [Nat.zero_add] at hj hd
        obtain ⟨u, fu, k1, k2, _⟩ := sat.en.get hd
        cases k2 with
        | d k2 =>
          have : thawS i keep S j = false := by
            unfold thawS
            rw [show keep.contains j = true from by simpa using hj]
            simp
          exact ⟨u, by rw [off j this]; exact k1, dpUp k2 ffs⟩)
      (fun j hj hl => by
        rw [Nat.zero_add] at hj
        subst hj
        have : thawS j keep S j = false := by unfold thawS; simp
        rw [off j this]; exact e1)
    refine ⟨F'', fp'', ⟨ffs, fun b u e n => st2.fr b u e fun z => n (a1 b (sub1 b z)), fun b u e => (stF.fn b u e).imp id (.imp (a1 b) id), fun b hb => ?_⟩, fun b u e => ?_, c1, c2⟩
    · rcases c3 b hb with z | z
      · exact (stF.sub b z).imp (a1 b) id
      · exact .inl (a2 b z.1)
    · have z : b ∉ fo := fun z => by rw [f1 b z] at e; cases e
      rw [f0 b z] at e
      exact sat2.fh b u e
  refine s (frzAt F H fo) H σ _ fp1 D sat1 ?_
  cases ef : fs (env.set i (some (.d (viewD o)))) with
  | no => rw [ef] at h; exact h
  | rt r env' =>
    rw [ef] at h
    exact fun u σ' F' H' fx fp' off st2 => h u σ' F' H' fx fp' (offS off) (stp1.trans st2)
  | ex c env' =>
    rw [ef] at h
    exact fun C σ' F' H' fp' m off st2 => h C σ' F' H' fp' m (offS off) (stp1.trans st2)
  | nx env' =>
    rw [ef] at h
    intro σ' F' H' fp' off st2 sat2
    have h2 : PostS X W S σ F H fp D (thawR i o dead keep env env' .nx) := h
    unfold thawR at h2
    split at h2
    · rename_i c
      obtain ⟨F'', fp'', k1, k2⟩ := back env' σ' F' H' fp' off st2 sat2 c.1 c.2
      exact h2 σ' F'' H' fp'' (offS off) k1 k2
    · exact h2.elim
  | bk env' =>
    rw [ef] at h
    intro σ' F' H' fp' off st2 sat2
    have h2 : PostS X W S σ F H fp D (thawR i o dead keep env env' .bk) := h
    unfold thawR at h2
    split at h2
    · rename_i c
      obtain ⟨F'', fp'', k1, k2⟩ := back env' σ' F' H' fp' off st2 sat2 c.1 c.2
      exact h2 σ' F'' H' fp'' (offS off) k1 k2
    · exact h2.elim
  | ct env' =>
    rw [ef] at h
    intro σ' F' H' fp' off st2 sat2
    have h2 : PostS X W S σ F H fp D (thawR i o dead keep env env' .ct) := h
    unfold thawR at h2
    split at h2
    · rename_i c
      obtain ⟨F'', fp'', k1, k2⟩ := back env' σ' F' H' fp' off st2 sat2 c.1 c.2
      exact h2 σ' F'' H' fp'' (offS off) k1 k2
    · exact h2.elim
theorem ds_thaw (i : Nat) (dead keep : List Nat) (h : DS X W (thawS i keep S) st fs) : DS X W S st (sThaw i dead keep fs) := by
  obtain ⟨t, p, s⟩ := h
  exact ⟨t, p, thaw_sm i dead keep s⟩
end
end Mir
end
set_option Elab.async false
set_option linter.all false
set_option maxRecDepth 100000
set_option maxHeartbeats 4000000
noncomputable section
namespace Mir
open PySem PySem.Spec PyProof.Rows L2
section
variable {X : Cx} {W : WX} {S : Nat → Bool} {e a b : Expr} {es : List Expr} {pos : Pos} {f g : Ev → R Ow}
theorem OwnAll.append {K : Kw} {F H : Hp} : ∀ {os os' : List Ow} {vs ws : List V} {fp fp' : List Addr}, OwnAll K F H vs os fp → OwnAll K F H ws os' fp' → OwnAll K F H (vs ++ ws) (os ++ os') (fp ++ fp')
  | [], _, _, _, _, _, h, g => by cases h; exact g
  | o :: os, _, _, _, _, _, h, g => by
    cases h with
    | cons h1 h2 =>
      rw [List.append_assoc]
      exact .cons h1 (OwnAll.append h2 g)
/-- + of two new lists with own items -/
def eAddO (f g : Ev → R Ow) (env : Ev) : R Ow := (f env).bind fun x => (g env).bind fun y => match x, y with
  | .l xs, .l ys => guard (xs.length + ys.length ≤ sizeLine) (.ok (.l (xs ++ ys)))
  | _, _ => .no
@[simp] theorem eAddO_eq (f g : Ev → R Ow) (env : Ev) : eAddO f g env = (f env).bind fun x => (g env).bind fun y => match x, y with
  | .l xs, .l ys => guard (xs.length + ys.length ≤ sizeLine) (.ok (.l (xs ++ ys)))
  | _, _ => .no := rfl
/-- a tuple with own things in it -/
def eTupO (f : Ev → R (List Ow)) (env : Ev) : R Ow := (f env).bind fun os => guard (os.length ≤ sizeLine) (.ok (.t os))
@[simp] theorem eTupO_eq (f : Ev → R (List Ow)) (env : Ev) : eTupO f env = (f env).bind fun os => guard (os.length ≤ sizeLine) (.ok (.t os)) := rfl
end
end Mir
end
set_option Elab.async false
set_option linter.all false
set_option maxRecDepth 100000
set_option maxHeartbeats 4000000
noncomputable section
namespace Mir
open PySem PySem.Spec PyProof.Rows L2
/-- an exception that has come to the clauses -/
structure Air (X : Cx) (pins : List (Addr × Obj)) (a : Addr) (B : Heap) (sI s' : Shared) (h3 : Heap) (σ : L2.St) (H : Hp) (cls : Value) (d : Option Addr) : Prop where
  J : Inv X pins σ H sI
  nb : ∀ b o, sI.heap.get? b = some o → b ∉ frs X.stack → B.get? b = some o
  fl : HandSPX.FlyingZ B (X.env :: X.outer) a (Zc cls d) h3
  up : sI.heap.UpToSlots h3
  na : H a = none
  os : s'.os = sI.os
  ag : AllBare s'.gens
def HdsT (X : Cx) (hds : List ExceptHandler) (w : WX → Ends → WX) : Prop := ∀ (Wout : WX), Takes X Wout → ∀ pins D a B sI s' h3 σ H cls d, Air X pins a B sI s' h3 σ H cls d → w Wout D cls d σ H →
  wpAny (model X.prog X.w) X.A (handleBy (.ref a) X.env hds) (SP X pins D) X.xe { s' with heap := h3 }
section
variable {X : Cx} {x n : Str} {c : Value} {i : Nat} {suite : List Stmt} {b₀ : Stmt} {np pos pos' : Pos} {ts : TS} {hds : List ExceptHandler} {w : WX → Ends → WX}
end
abbrev Cl := List (Str × Bool) × Option Nat × (Ev → SR)
def noX : SR → SR
  | .ex _ _ => .no
  | r => r
def sHds : List Cl → Str → Ev → SR
  | [], c, env => .ex c env
  | h :: hs, c, env => match lookE h.1 c with
    | some true => match h.2.1 with
      | some i => if i < env.length then dropT i (h.2.2 (env.set i (some (.d (excD c))))) else .no
      | none => noX (h.2.2 env)
    | some false => sHds hs c env
    | none => .no
section
variable {X : Cx} {W : WX} {S : Nat → Bool} {x n : Str} {np pos pos' : Pos} {hds : List ExceptHandler} {hs : List Cl}
structure HdsD (X : Cx) (W : WX) (S : Nat → Bool) (hds : List ExceptHandler) (hs : List Cl) (w : WX → Ends → WX) : Prop where
  run : HdsT X hds w
  sem : ∀ c C σ F H fp env D, X.mg c = some (.ref C) → Sat X.KK F H σ env fp → PostS X W S σ F H fp D (sHds hs c env) → w W D (.ref C) none σ H
end
section
variable {X : Cx} {W : WX} {S : Nat → Bool} {e : Expr} {pos : Pos} {f : Ev → R (D × Ev)}
end
end Mir
end
set_option Elab.async false
set_option linter.all false
set_option maxRecDepth 100000
set_option maxHeartbeats 4000000
noncomputable section
namespace HT
open PySem PySem.Spec PyProof.Rows
section
variable {prog : Program} {w : World} {A : Around} {E : Value → Shared → Prop} {s : Shared}
theorem adjust_rev (n : Nat) : Builtin.Slice.sliceAdjust none none (-1) (n : Int) = ((n : Int) - 1, -1) := by
  unfold Builtin.Slice.sliceAdjust
  have h1 : ((-1 : Int) < 0) := by omega
  simp only [h1, if_true]
theorem places_rev (n : Nat) : Builtin.Slice.slicePlaces ((n : Int) - 1) (-1) (-1) = n := by
  unfold Builtin.Slice.slicePlaces
  have h1 : ¬ ((-1 : Int) > 0) := by omega
  simp only [h1, if_false]
  rw [show (- -1 : Int) = 1 by decide, Int.ediv_one]
  split <;> omega
theorem sliceApplied_rev {sl : Addr} {vl vu vs : Value} {n : Nat} {Q : Int × Int × Nat → Shared → Prop} (hs : s.heap.IsSliceOf sl vl vu vs) (pl : IsPart vl none) (pu : IsPart vu none) (ps : IsPart vs (some (-1)))
    (h : Q ((n : Int) - 1, -1, n) s) : wpAny (model prog w) A (Builtin.Slice.sliceApplied (.ref sl) (pure (n : Int))) Q E s := by
  obtain ⟨os, hos, hcs, hds⟩ := id hs
  unfold Builtin.Slice.sliceApplied Builtin.Slice.sliceFields
  refine wpAny_bind (wpAny_bind (wpAny_field hos hds (x := vl) rfl (wpAny_bind (wpAny_field hos hds (x := vu) rfl (wpAny_bind (wpAny_field hos hds (x := vs) rfl (wpAny_pure ?_)))))))
  refine wpAny_bind (slicePart_ ps ?_)
  show wpAny _ _ (if ((-1 : Int) == 0) = true then _ else _) _ _ s
  rw [if_neg (by decide)]
  refine wpAny_bind (slicePart_ pl (wpAny_bind (slicePart_ pu (wpAny_bind (wpAny_pure ?_)))))
  show wpAny _ _ (match Builtin.Slice.sliceAdjust none none (-1) (n : Int) with | (lo, hi) => pure (lo, (-1 : Int), Builtin.Slice.slicePlaces lo hi (-1))) _ _ s
  rw [adjust_rev]
  show wpAny _ _ (pure ((n : Int) - 1, (-1 : Int), Builtin.Slice.slicePlaces ((n : Int) - 1) (-1) (-1))) _ _ s
  rw [places_rev]
  exact wpAny_pure h
theorem fmap_congr {α β : Type} (f g : α → Option β) : ∀ l : List α, (∀ a ∈ l, f a = g a) → l.filterMap f = l.filterMap g
  | [], _ => rfl
  | a :: l, h => by
    rw [List.filterMap_cons, List.filterMap_cons, h a List.mem_cons_self, fmap_congr f g l fun b hb => h b (List.mem_cons_of_mem _ hb)]
theorem pick_rev (xs : Array Value) : ((List.range xs.size).filterMap fun (k : Nat) => xs[(((xs.size : Nat) : Int) - 1 + (k : Int) * -1).toNat]?).toArray = xs.toList.reverse.toArray := by
  have e : (List.range xs.size).filterMap (fun (k : Nat) => xs[(((xs.size : Nat) : Int) - 1 + (k : Int) * -1).toNat]?) = ((List.range xs.size).map fun k => xs.size - 1 - k).filterMap (xs[·]?) := by
    rw [List.filterMap_map]
    exact fmap_congr _ _ _ fun k hk => by
      have := List.mem_range.mp hk
      show xs[(((xs.size : Nat) : Int) - 1 + (k : Int) * -1).toNat]? = xs[xs.size - 1 - k]?
      have : (((xs.size : Nat) : Int) - 1 + (k : Int) * -1).toNat = xs.size - 1 - k := by omega
      rw [this]
  rw [e, PySem.W.krv_range, List.filterMap_reverse, PySem.W.krv_all]
theorem getItem_tuple_rev {t sl : Addr} {items : Array Value} {vl vu vs : Value} {Q : Value → Shared → Prop} (ht : IsTup s.heap t items) (hs : s.heap.IsSliceOf sl vl vu vs) (pl : IsPart vl none) (pu : IsPart vu none) (ps : IsPart vs (some (-1)))
    (h : Q (.ref s.heap.objs.size) { s with heap := s.heap.push { cls := .type "tuple", data := .seq items.toList.reverse.toArray } })
    (hsz : items.size ≤ sizeLine) : wpAny (model prog w) A (getItem (.ref t) (.ref sl)) Q E s := by
  have htake : sizeOk (.seq items.toList.reverse.toArray) := by
    show items.toList.reverse.toArray.size ≤ sizeLine
    rw [List.size_toArray, List.length_reverse, Array.length_toList]
    exact hsz
  obtain ⟨os, hos, hcs, hds⟩ := id hs
  have hTs : s.TypeIs (.ref sl) "slice" := ⟨os, hos, hcs⟩
  unfold getItem
  try with_reducible refine wpAny_holding ?_
  first | refine wpAny_bind (wpAny_pure ?_) | skip
  refine wpAny_bind (wpAny_sequenceKey ht.typeIs (by decide) ?_)
  refine wpAny_bind (wpAny_callSpecial?_slot (name := Str.ofString "__getitem__") ht.typeIs PyProof.Rows.slot_tuple_getitem
    (wpAny_call_entry PyProof.Rows.slot_tuple_getitem ht.typeIs entry_tuple_getitem ?_ (args_tuple_getitem _ _)))
  show wpAny _ _ (Builtin.Tuple.tupleItemsOf (.ref t) >>= _) _ _ s
  refine wpAny_bind (tupleItemsOf_ ht ?_)
  refine wpAny_bind (wpAny_typeOf hTs ?_)
  rw [if_pos (by decide)]
  refine wpAny_bind (sliceApplied_rev hs pl pu ps ?_)
  have hno : ¬ (((((items.size : Nat) : Int) - 1) == 0 && (-1 : Int) == 1 && items.size == items.size) = true) := by
    intro q
    rw [Bool.and_eq_true, Bool.and_eq_true] at q
    exact absurd q.1.2 (by decide)
  show wpAny _ _ (if ((((items.size : Nat) : Int) - 1) == 0 && (-1 : Int) == 1 && items.size == items.size) = true then _ else _) _ _ s
  rw [if_neg hno, pick_rev]
  first
    | exact wpAny_bind (m := Builtin.Tuple.tupleExact _) (wpAny_newObj_type (wpAny_pure ⟨_, rfl, wpAny_pure h⟩) htake)
    | exact wpAny_bind (m := Builtin.Tuple.tupleExact _) (wpAny_newObj_type (wpAny_bind (wpAny_pure (wpAny_pure ⟨_, rfl, wpAny_pure h⟩))) htake)
    | exact wpAny_bind (wpAny_bind (m := Builtin.Tuple.tupleExact _) (wpAny_newObj_type (wpAny_pure (wpAny_pure ⟨_, rfl, wpAny_pure h⟩)) htake))
    | exact wpAny_bind (wpAny_bind (m := Builtin.Tuple.tupleExact _) (wpAny_newObj_type (wpAny_pure ⟨_, rfl, wpAny_pure h⟩) htake))
end
end HT
namespace Mir
open PySem PySem.Spec PyProof.Rows L2
def tRevA (K : Kw) (te : TE) : TE := fun σ H Q => te σ H fun x H1 => ∃ a xs, x = .ref a ∧ ((SqL K H1 a xs ∧ ∀ p, H1 p = none → Q (.ref p) (upd H1 p (.lst xs.reverse))) ∨ (SqT K H1 a xs ∧ ∀ p, H1 p = none → Q (.ref p) (upd H1 p (.tup xs.reverse))))
section
variable {X : Cx} {W : WX}
theorem pe_rev {e : Expr} {te : TE} {k : Nat} {p1 p2 p3 pos : Pos} (he : PE X e te) : PE X (.Subscript e (.Slice none none (some (.UnaryOp .USub (.Constant (.int 1) k p1) p2)) p3) pos) (tRevA X.KK te) := by
  refine ⟨fun pins s σ H Q I h => ?_⟩
  refine PyProof.Rows.Subscript_ (thn (he.run pins s σ H _ I h) fun v s1 ⟨x, H1, I1, r1, q1⟩ => ?_)
  obtain ⟨a, xs, ex, q⟩ := q1
  subst ex
  cases r1
  have hst : PO X (some (.UnaryOp .USub (.Constant (.int 1) k p1) p2)) (tPart (tUn (rU fun i => .int (-i)) (tC (.int 1)))) := po_some (pe_un un_neg pe_int)
  refine wpAny_Slice (thn (po_none.run pins s1 σ H1 (fun o H2 => o = none ∧ H2 = H1) I1 ⟨rfl, rfl⟩) fun vl s2 ⟨l, H2, I2, pl, el, e2⟩ => ?_)
  subst el e2
  refine thn (po_none.run pins s2 σ H2 (fun o H3 => o = none ∧ H3 = H2) I2 ⟨rfl, rfl⟩) fun vu s3 ⟨u, H3, I3, pu, eu, e3⟩ => ?_
  subst eu e3
  refine thn (hst.run pins s3 σ H3 (fun o H4 => o = some (-1) ∧ H4 = H3) I3 ⟨1, rfl, -1, rfl, rfl, rfl⟩) fun vs s4 ⟨o, H4, I4, ps, eo, e4⟩ => ?_
  subst eo e4
  have I5 : Inv X pins σ H4 { s4 with heap := s4.heap.push { cls := .type "slice", data := .fields #[vl, vu, vs] } } := I4.kept (t' := s4.toks) fun b ob q => Heap.get?_push_of_some _ q
  show wpAny (model X.prog X.w) X.A (subscriptTail e (.Slice none none (some (.UnaryOp .USub (.Constant (.int 1) k p1) p2)) p3) (.ref a) (.ref s4.heap.objs.size)) (EP X pins σ Q) X.xe { s4 with heap := s4.heap.push { cls := .type "slice", data := .fields #[vl, vu, vs] } }
  rcases q with ⟨hx, q⟩ | ⟨hx, q⟩
  · obtain ⟨its, r, ht, hz⟩ := I5.list hx
    have hlen := r.length
    refine tail_any (ops := [.ref a, .ref s4.heap.objs.size]) ht.isList.typeIs (PySem.slot_list_getitem.lookup) ?_ (by with_unfolding_all rfl)
    refine wpAny_getItem_list_slice ht.isList (Heap.IsSliceOf.new _ vl vu vs) pl pu ps (by decide) ?_ (by rw [List.size_toArray]; omega)
    rw [PySem.W.krv_pick]
    refine ⟨.ref _, _, I5.laid (t' := s4.toks) (o := .lst xs.reverse) (fun b ob q => Heap.get?_push_of_some _ q) (Nat.le_refl _) ?_, rfl, q _ (I5.hok.fresh (Nat.le_refl _))⟩
    exact ⟨by rw [List.length_reverse]; exact hz, _, 0, r.reverse, Heap.get?_push_size _ rfl⟩
  · obtain ⟨its, r, ht, hz⟩ := I5.tuple hx
    have hlen := r.length
    refine tail_any (ops := [.ref a, .ref s4.heap.objs.size]) ht.typeIs PyProof.Rows.slot_tuple_getitem.lookup ?_ (by with_unfolding_all rfl)
    refine HT.getItem_tuple_rev ht (Heap.IsSliceOf.new _ vl vu vs) pl pu ps ?_ (by rw [List.size_toArray]; omega)
    refine ⟨.ref _, _, I5.laid (t' := s4.toks) (o := .tup xs.reverse) (fun b ob q => Heap.get?_push_of_some _ q) (Nat.le_refl _) ?_, rfl, q _ (I5.hok.fresh (Nat.le_refl _))⟩
    exact ⟨by rw [List.length_reverse]; exact hz, _, r.reverse, IsTup.new _ _⟩
def gRevA : D → Option Ow
  | .list ds => some (.l (ds.reverse.map Ow.d))
  | .tuple ds => some (.d (.tuple ds.reverse))
  | _ => none
@[simp] theorem gRevA_list (ds : List D) : gRevA (.list ds) = some (.l (ds.reverse.map Ow.d)) := rfl
@[simp] theorem gRevA_tup (ds : List D) : gRevA (.tuple ds) = some (.d (.tuple ds.reverse)) := rfl
def eRevA (f : Ev → R D) (env : Ev) : R Ow := (f env).bind fun d => R.of (gRevA d)
@[simp] theorem eRevA_eq (f : Ev → R D) (env : Ev) : eRevA f env = (f env).bind fun d => R.of (gRevA d) := rfl
theorem de_rev {e : Expr} {f : Ev → R D} {k : Nat} {p1 p2 p3 pos : Pos} (ha : DL X W e f) : DE X W (.Subscript e (.Slice none none (some (.UnaryOp .USub (.Constant (.int 1) k p1) p2)) p3) pos) (eRevA f) := by
  obtain ⟨ta, pa, sa⟩ := ha
  refine ⟨_, pe_rev pa, fun F H σ env fp Q sat hp => ?_⟩
  refine sa.go sat hp fun d v F1 H1 sat1 q _ h1 => ?_
  obtain ⟨z, hz, h4⟩ := post_of h1
  unfold gRevA at hz
  split at hz
  · cases hz
    obtain ⟨p, vs, rfl, p1, p2⟩ := q
    refine ⟨p, vs, rfl, .inl ⟨p1, fun r hr => ?_⟩⟩
    exact h4 _ _ _ (Ext.own sat1.fh hr _) (own_l sat1.fh hr (Mir.DpAll.reverse p2))
  · cases hz
    obtain ⟨p, vs, rfl, p1, p2⟩ := dp_tup q
    refine ⟨p, vs, rfl, .inr ⟨SqT_mono sat1.fh p1, fun r hr => ?_⟩⟩
    have y := Ext.frz sat1.fh hr (.tup vs.reverse)
    exact h4 _ _ _ y (own_d (.tup (SqT.of upd_same) (dpaUp (Mir.DpAll.reverse p2) y.ff)))
  · cases hz
end
end Mir
end
set_option Elab.async false
set_option linter.all false
set_option maxRecDepth 100000
set_option maxHeartbeats 4000000
noncomputable section
namespace Mir
open PySem PySem.Spec PyProof.Rows L2
def noFrz (u : HO) : Prop := ∀ o v, u ≠ .frz o v
/-- what F tells F' tells, but for locks -/
structure Rl (F F' : Hp) : Prop where
  rd : ∀ a u, noFrz u → Rd F a u → Rd F' a u
  ins : ∀ a C dx fs, F a = some (.ins C dx fs) → F' a = some (.ins C dx fs)
theorem Rl.seq {K : PySem.W.Frag} {F F' : Hp} (r : Rl F F') {a : Addr} {xs : List V} (h : SqL K F a xs) : SqL K F' a xs := h.imp (r.rd a _ fun _ _ z => nomatch z) id
theorem Rl.seqT {K : PySem.W.Frag} {F F' : Hp} (r : Rl F F') {a : Addr} {xs : List V} (h : SqT K F a xs) : SqT K F' a xs := h.imp (r.rd a _ fun _ _ z => nomatch z) id
section
variable {K : Kw}
mutual
theorem Dp.rl {H H' : Hp} (e : Rl H H') : ∀ (d : D) (v : V), Dp K H v d → Dp K H' v d
  | .none, _, h => by cases h; exact .non
  | .bool b, _, h => by cases h; exact .bl b
  | .int b, _, h => by cases h; exact .int b
  | .str b, _, h => by cases h; exact .str b
  | .list ds, _, h => by
    cases h with
    | lst hs ha => exact .lst (e.seq hs) (DpAll.rl e ds _ ha)
  | .tuple ds, _, h => by
    cases h with
    | tup hs ha => exact .tup (e.seqT hs) (DpAll.rl e ds _ ha)
  | .dict ps, _, h => by
    cases h with
    | dct hs ha => exact .dct (e.rd _ _ (fun _ _ z => nomatch z) hs) (DpKv.rl e ps _ ha)
    | dcn hs ha => exact .dcn (e.rd _ _ (fun _ _ z => nomatch z) hs) (DpKn.rl e ps _ ha)
    | exc hs => exact .exc (e.rd _ _ (fun _ _ z => nomatch z) hs)
    | ins hs => exact .ins (e.ins _ _ _ _ hs)
theorem DpAll.rl {H H' : Hp} (e : Rl H H') : ∀ (ds : List D) (vs : List V), DpAll K H vs ds → DpAll K H' vs ds
  | [], _, h => by cases h; exact .nil
  | d :: ds, _, h => by
    cases h with
    | cons h1 h2 => exact .cons (Dp.rl e d _ h1) (DpAll.rl e ds _ h2)
theorem DpKv.rl {H H' : Hp} (e : Rl H H') : ∀ (ps : List (D × D)) (kvs : List (Key × V)), DpKv K H kvs ps → DpKv K H' kvs ps
  | [], _, h => by cases h; exact .nil
  | (x, d) :: ps, _, h => by
    cases h with
    | cons h1 h2 => exact .cons (Dp.rl e d _ h1) (DpKv.rl e ps _ h2)
theorem DpKn.rl {H H' : Hp} (e : Rl H H') : ∀ (ps : List (D × D)) (kvs : List (NestedKey × Addr × V)), DpKn K H kvs ps → DpKn K H' kvs ps
  | [], _, h => by cases h; exact .nil
  | (x, d) :: ps, _, h => by
    cases h with
    | cons h0 h1 h2 h3 => exact .cons (Dp.rl e _ _ h0) h1 (Dp.rl e d _ h2) (DpKn.rl e ps _ h3)
end
/-- .. and what stands beside F stays -/
structure Rlh (F H F' H' : Hp) : Prop where
  rl : Rl F F'
  fn : ∀ a, F a = none → F' a = none
  hh : ∀ a x, F a = none → H a = some x → H' a = some x
mutual
theorem OwnAt.rl {F H F' H' : Hp} (e : Rlh F H F' H') : ∀ (o : Ow) (v : V) (fp : List Addr), OwnAt K F H v o fp → OwnAt K F' H' v o fp
  | .d x, _, _, h => by cases h with | d h => exact .d (Dp.rl e.rl _ _ h)
  | .l os, _, _, h => by cases h with | l h1 h2 h3 => exact .l (e.fn _ h1) (e.hh _ _ h1 h2) (OwnAll.rl e os _ _ h3)
  | .m ps, _, _, h => by cases h with | m h1 h2 h3 => exact .m (e.fn _ h1) (e.hh _ _ h1 h2) (DpKv.rl e.rl _ _ h3)
  | .t os, _, _, h => by cases h with | t h1 h2 => exact .t (e.rl.seqT h1) (OwnAll.rl e os _ _ h2)
  | .k ks os, _, _, h => by cases h with | k h1 h2 h3 => exact .k (e.fn _ h1) (e.hh _ _ h1 h2) (OwnAll.rl e os _ _ h3)
  | .n ks os, _, _, h => by cases h with | n h1 h2 h3 h4 => exact .n (e.fn _ h1) (e.hh _ _ h1 h2) (fun p hp => ⟨Dp.rl e.rl _ _ (h3 p hp).1, (h3 p hp).2⟩) (OwnAll.rl e os _ _ h4)
  | .o c ns os, _, _, h => by cases h with | o h1 h2 h3 h4 h5 h6 => exact .o h1 (e.fn _ h2) (e.fn _ h3) (e.hh _ _ h2 h4) (e.hh _ _ h3 h5) (OwnAll.rl e os _ _ h6)
theorem OwnAll.rl {F H F' H' : Hp} (e : Rlh F H F' H') : ∀ (os : List Ow) (vs : List V) (fp : List Addr), OwnAll K F H vs os fp → OwnAll K F' H' vs os fp
  | [], _, _, h => by cases h; exact .nil
  | o :: os, _, _, h => by
    cases h with
    | cons h1 h2 => exact .cons (OwnAt.rl e o _ _ h1) (OwnAll.rl e os _ _ h2)
end
theorem EnvAt.rl {F H F' H' : Hp} (e : Rlh F H F' H') {σ : L2.St} {env : Ev} {fp : List Addr} (h : EnvAt K F H σ env fp) : EnvAt K F' H' σ env fp := by
  induction h with
  | nil => exact .nil
  | non h ih => exact .non ih
  | som h1 h2 ih => exact .som (OwnAt.rl e _ _ _ h1) ih
theorem rlh_lock {F H : Hp} {d : Addr} {u : HO} {od : Obj} (hF : F d = some u) (nf : noFrz u) (ni : ∀ C dx fs, u ≠ .ins C dx fs) : Rlh F H (upd F d (.frz od u)) (upd H d (.frz od u)) where
  rl := ⟨fun a x nx h => by
    by_cases e : a = d
    · subst e
      rcases h with h | ⟨o, h⟩
      · rw [hF] at h; cases h; exact .inr ⟨od, upd_same⟩
      · rw [hF] at h; exact absurd (Option.some.inj h) (nf _ _)
    · rcases h with h | ⟨o, h⟩
      · exact .inl (by rw [upd_ne e]; exact h)
      · exact .inr ⟨o, by rw [upd_ne e]; exact h⟩, fun a C dx fs h => by
    by_cases e : a = d
    · subst e; rw [hF] at h; exact absurd (Option.some.inj h) (ni _ _ _)
    · rw [upd_ne e]; exact h⟩
  fn := fun a h => by
    by_cases e : a = d
    · subst e; rw [hF] at h; cases h
    · rw [upd_ne e]; exact h
  hh := fun a x h g => by
    by_cases e : a = d
    · subst e; rw [hF] at h; cases h
    · rw [upd_ne e]; exact g
theorem rlh_unlock {F H : Hp} {d : Addr} {u : HO} {od : Obj} (hF : F d = some (.frz od u)) : Rlh F H (upd F d u) (upd H d u) where
  rl := ⟨fun a x nx h => by
    by_cases e : a = d
    · subst e
      rcases h with h | ⟨o, h⟩
      · rw [hF] at h; cases h; exact absurd rfl (nx _ _)
      · rw [hF] at h; cases h; exact .inl upd_same
    · rcases h with h | ⟨o, h⟩
      · exact .inl (by rw [upd_ne e]; exact h)
      · exact .inr ⟨o, by rw [upd_ne e]; exact h⟩, fun a C dx fs h => by
    by_cases e : a = d
    · subst e; rw [hF] at h; cases h
    · rw [upd_ne e]; exact h⟩
  fn := fun a h => by
    by_cases e : a = d
    · subst e; rw [hF] at h; cases h
    · rw [upd_ne e]; exact h
  hh := fun a x h g => by
    by_cases e : a = d
    · subst e; rw [hF] at h; cases h
    · rw [upd_ne e]; exact g
theorem same_both {F H : Hp} (s : Same F H) {d : Addr} (u : HO) : Same (upd F d u) (upd H d u) := fun b o q => by
  by_cases e : b = d
  · subst e; rw [upd_same] at q ⊢; exact q
  · rw [upd_ne e] at q ⊢; exact s _ _ q
theorem Sat.lock {F H : Hp} {σ : L2.St} {env : Ev} {fp : List Addr} {d : Addr} {u : HO} (od : Obj) (sat : Sat K F H σ env fp) (hF : F d = some u) (nf : noFrz u) (ni : ∀ C dx fs, u ≠ .ins C dx fs) : Sat K (upd F d (.frz od u)) (upd H d (.frz od u)) σ env fp :=
  ⟨same_both sat.fh _, sat.en.rl (rlh_lock hF nf ni), sat.nd⟩
theorem Sat.unlock {F H : Hp} {σ : L2.St} {env : Ev} {fp : List Addr} {d : Addr} {u : HO} {od : Obj} (sat : Sat K F H σ env fp) (hF : F d = some (.frz od u)) : Sat K (upd F d u) (upd H d u) σ env fp :=
  ⟨same_both sat.fh _, sat.en.rl (rlh_unlock hF), sat.nd⟩
theorem StepS.unlock {F H F' H' : Hp} {fp fp' : List Addr} {d : Addr} {u : HO} {od : Obj} (hF : F d = some u) (hH : H d = some u) (s : StepS (upd F d (.frz od u)) (upd H d (.frz od u)) fp F' H' fp') : StepS F H fp (upd F' d u) (upd H' d u) fp' where
  ff := fun b o h => by
    by_cases e : b = d
    · subst e; rw [hF] at h; cases h; exact upd_same
    · rw [upd_ne e]; exact s.ff b o (by rw [upd_ne e]; exact h)
  fr := fun b o h n => by
    by_cases e : b = d
    · subst e; rw [hH] at h; cases h; exact upd_same
    · rw [upd_ne e]; exact s.fr b o (by rw [upd_ne e]; exact h) n
  fn := fun b o h => by
    by_cases e : b = d
    · subst e; rw [upd_same] at h; cases h; exact .inl hF
    · rw [upd_ne e] at h
      rcases s.fn b o h with g | g | g
      · rw [upd_ne e] at g; exact .inl g
      · exact .inr (.inl g)
      · rw [upd_ne e] at g; exact .inr (.inr g)
  sub := fun b h => by
    rcases s.sub b h with g | g
    · exact .inl g
    · by_cases e : b = d
      · subst e; rw [upd_same] at g; cases g
      · rw [upd_ne e] at g; exact .inr g
end
/-- the ends of what runs while d is locked -/
def lockEnds (d : Addr) (u : HO) (od : Obj) (D : Ends) : Ends := ⟨fun σ' H' => H' d = some (.frz od u) ∧ D.nx σ' (upd H' d u), fun v H' => H' d = some (.frz od u) ∧ D.rt v (upd H' d u), fun σ' H' => H' d = some (.frz od u) ∧ D.bk σ' (upd H' d u), fun σ' H' => H' d = some (.frz od u) ∧ D.ct σ' (upd H' d u)⟩
theorem PostS.lock {X : Cx} {W W2 : WX} {S : Nat → Bool} {σ0 : L2.St} {F H : Hp} {fp : List Addr} {D : Ends} {r : SR} {d : Addr} {u : HO} (od : Obj) (hF : F d = some u) (hH : H d = some u) (h : PostS X W S σ0 F H fp D (noX r)) : PostS X W2 S σ0 (upd F d (.frz od u)) (upd H d (.frz od u)) fp (lockEnds d u od D) r := by
  have loc : ∀ {F' H' : Hp} {fp'}, StepS (upd F d (.frz od u)) (upd H d (.frz od u)) fp F' H' fp' → F' d = some (.frz od u) := fun s => s.ff d _ upd_same
  cases r with
  | no => exact h
  | ex c env => exact h.elim
  | nx env => exact fun σ F' H' fp' o s sat => ⟨sat.fh d _ (loc s), h σ _ _ fp' o (s.unlock hF hH) (sat.unlock (loc s))⟩
  | bk env => exact fun σ F' H' fp' o s sat => ⟨sat.fh d _ (loc s), h σ _ _ fp' o (s.unlock hF hH) (sat.unlock (loc s))⟩
  | ct env => exact fun σ F' H' fp' o s sat => ⟨sat.fh d _ (loc s), h σ _ _ fp' o (s.unlock hF hH) (sat.unlock (loc s))⟩
  | rt r env => exact fun v σ F' H' fx fp' o s sat ow nd => ⟨sat.fh d _ (loc s), h v σ _ _ fx fp' o (s.unlock hF hH) (sat.unlock (loc s)) (OwnAt.rl (rlh_unlock (loc s)) _ _ _ ow) nd⟩
def keysD (ps : List (D × D)) : List D := ps.map (·.1)
theorem dpKv_walk {K : Kw} {H : Hp} : ∀ {ps : List (D × D)} {kvs : List (Key × V)}, DpKv K H kvs ps → kvs.length = ps.length ∧ ∀ (i : Nat) (k : Key) (v : V), kvs[i]? = some (k, v) → (keysD ps)[i]? = some (keyD k)
  | [], _, h => by cases h; exact ⟨rfl, fun i k v e => by simp at e⟩
  | p :: ps, _, h => by
    cases h with
    | @cons k v kvs d ps h1 h2 =>
      obtain ⟨a, b⟩ := dpKv_walk h2
      refine ⟨by simp [a], fun i k' v' e => ?_⟩
      cases i with
      | zero =>
        simp at e
        simp [keysD, e.1]
      | succ i => simpa [keysD] using b i k' v' (by simpa using e)
theorem dp_kV {K : Kw} {H : Hp} (k : Key) : Dp K H (kV k) (keyD k) := by
  cases k with
  | inl i => exact .int i
  | inr z => exact .str z
theorem walkF_dk {K : Kw} {F0 : Hp} {d : Addr} {o : Obj} {kvs : List (Key × V)} {ps : List (D × D)} (h1 : F0 d = some (.frz o (.dK kvs))) (h2 : DpKv K F0 kvs ps) : WalkF K (Itk d o kvs) F0 (keysD ps) where
  go := fun i F H hi s1 s2 => by
    rw [keysD, List.length_map, ← (dpKv_walk h2).1] at hi
    exact ⟨s2 _ _ (s1 _ _ h1), hi⟩
  yld := fun i F H x H' hi s1 s2 ⟨e, k, v, q, ex⟩ => by
    subst e ex
    exact ⟨_, F, (dpKv_walk h2).2 i k v q, .refl s2, dp_kV k⟩
  stop := fun F H s1 s2 => ⟨s2 _ _ (s1 _ _ h1), by rw [keysD, List.length_map, (dpKv_walk h2).1]; exact Nat.le_refl _⟩
section
variable {X : Cx} {pins : List (Addr × Obj)} {σ : L2.St} {H : Hp} {s : Shared} {d : Addr} {o : Obj}
theorem Inv.frzN {kvs : List (NestedKey × Addr × V)} (I : Inv X pins σ H s) (h : H d = some (.frz o (dnO X.w d kvs))) :
    (d == sysModules) = false ∧ s.heap.get? d = some o ∧ o.ExactDict ∧ ∃ (es : Array DictEntry) (ep : Nat), o.data = .dict es ep ∧ es.size = kvs.length ∧
      ∀ (i : Nat) (k : NestedKey) (b : Addr) (v : V), kvs[i]? = some (k, b, v) → ∃ en : DictEntry, es[i]? = some en ∧ en.key = .ref b := by
  obtain ⟨hd, ⟨z, hs, xs, pr, o', es, ep, ho, hx, hdt, he, _⟩, _⟩ := I.hok d _ h
  rw [hd] at ho
  cases ho
  have le : es.size = xs.length := by rw [← Array.length_toList, he, List.length_map]
  refine ⟨hs, hd, hx, es, ep, hdt, by rw [le]; exact (Paired.length pr).symm, fun i k b v e => ?_⟩
  obtain ⟨q, hq, r1, r2, r3⟩ := L2.paired_get pr e
  have : es[i]? = some (rowN X.w q) := by rw [← Array.getElem?_toList, he, List.getElem?_map, hq]; rfl
  exact ⟨_, this, by show Value.ref q.2.1 = _; rw [← r2]⟩
end
def Itn (w : World) (d : Addr) (o : Obj) (kvs : List (NestedKey × Addr × V)) : It :=
  ⟨fun i H => H d = some (.frz o (dnO w d kvs)) ∧ i < kvs.length, fun i H x H' => H' = H ∧ ∃ k b v, kvs[i]? = some (k, b, v) ∧ x = .ref b, fun i H => H d = some (.frz o (dnO w d kvs)) ∧ kvs.length ≤ i⟩
theorem turn_keysN {P : Program} {w : World} {K : PySem.W.Frag} {tg : Expr} {d : Addr} {o : Obj} {es : Array DictEntry} {ep : Nat} {kvs : List (NestedKey × Addr × V)} (it : Addr) (hod : o.data = .dict es ep) : Turn P w K tg (Itn w d o kvs) [it] it (fun i h => h.IsKeyIter it d i kvs.length ep) where
  mem := by simp
  obj := fun i h st b hb => by
    have e : b = it := by simpa using hb
    subst e
    obtain ⟨oi, e, c, dd⟩ := st
    exact ⟨oi, e, fun v z => by rw [dd] at z; cases z⟩
  keep := fun i h h' st k => st.at fun oi e => k it (by simp) oi e
  item := by
    intro X hP hw hK hc i pins s σ H E I hf st hg
    subst hP hw hK
    obtain ⟨hd, hi⟩ := hg
    obtain ⟨f0, f1, f2, f3, f4, f5⟩ := hf it (by simp)
    obtain ⟨hs, hgd, hx, es', ep', hdt, hsz, ent⟩ := Inv.frzN I hd
    obtain ⟨rfl, rfl⟩ := dict_ep hod hdt
    obtain ⟨⟨k, b, v⟩, hkv⟩ : ∃ p, kvs[i]? = some p := ⟨kvs[i], List.getElem?_eq_getElem hi⟩
    obtain ⟨en, hen, hkey⟩ := ent i k b v hkv
    refine next_key_item st hgd hdt hsz hen fun h' st' sb => ?_
    have I1 : Inv X pins σ H { s with heap := h' } := I.turned (t' := s.toks) (fun b ob hb e => (sb.2 b hb).trans e) f0 f1 f3 f4 f5
    obtain ⟨oi, e, c, dd⟩ := id st'
    exact ⟨en.key, rfl, go_of (s := { s with heap := h' }) e c dd (by decide) ⟨.ref b, H, I1, hkey, ⟨rfl, k, b, v, hkv, rfl⟩, st', fun b hb => (hf b hb).1⟩⟩
  done := by
    intro X hP hw hK hc i pins s σ H E I hf st hg
    subst hP hw hK
    obtain ⟨hd, hi⟩ := hg
    obtain ⟨f0, f1, f2, f3, f4, f5⟩ := hf it (by simp)
    obtain ⟨hs, hgd, hx, es', ep', hdt, hsz, ent⟩ := Inv.frzN I hd
    obtain ⟨rfl, rfl⟩ := dict_ep hod hdt
    exact next_key_end (I.ok.hd hc) st hgd hdt hsz hi fun h' eb => ⟨rfl, I.turned (t' := s.toks) (fun b ob hb e => eb b ob hb e) f0 f1 f3 f4 f5⟩
  self := fun A i s Q E st h => by
    refine wpAny_pyIter_slot st.typeIs F.slot_dict_keyiterator_iter (wpAny_call_entry F.slot_dict_keyiterator_iter st.typeIs F.entry_dict_keyiterator_iter ?_ (F.args_dict_keyiterator_iter_1 _))
    show wpAny _ _ (ret (.ref it)) _ _ s
    exact wpAny_pure ⟨_, rfl, "dict_keyiterator", _, st.typeIs, F.slot_dict_keyiterator_next.lookup, h⟩
theorem dpKn_keys {K : Kw} {H : Hp} : ∀ {ps : List (D × D)} {kvs : List (NestedKey × Addr × V)}, DpKn K H kvs ps → kvs.length = ps.length ∧ ∀ (i : Nat) (k : NestedKey) (b : Addr) (v : V), kvs[i]? = some (k, b, v) → ∃ d, (keysD ps)[i]? = some d ∧ Dp K H (.ref b) d
  | [], _, h => by cases h; exact ⟨rfl, fun i k b v e => by simp at e⟩
  | p :: ps, _, h => by
    cases h with
    | @cons k b v kvs d ps h0 h1 h2 h3 =>
      obtain ⟨a, g⟩ := dpKn_keys h3
      refine ⟨by simp [a], fun i k' b' v' e => ?_⟩
      cases i with
      | zero =>
        simp at e
        obtain ⟨e1, e2, e3⟩ := e
        subst e1 e2 e3
        exact ⟨k.data, by simp [keysD], h0⟩
      | succ i =>
        obtain ⟨d', q1, q2⟩ := g i k' b' v' (by simpa using e)
        exact ⟨d', by simpa [keysD] using q1, q2⟩
theorem walkF_dn {K : Kw} {F0 : Hp} {d : Addr} {o : Obj} {kvs : List (NestedKey × Addr × V)} {ps : List (D × D)} (h1 : F0 d = some (.frz o (dnO K.w d kvs))) (h2 : DpKn K F0 kvs ps) : WalkF K (Itn K.w d o kvs) F0 (keysD ps) where
  go := fun i F H hi s1 s2 => by
    rw [keysD, List.length_map, ← (dpKn_keys h2).1] at hi
    exact ⟨s2 _ _ (s1 _ _ h1), hi⟩
  yld := fun i F H x H' hi s1 s2 ⟨e, k, b, v, q, ex⟩ => by
    subst e ex
    obtain ⟨dd, q1, q2⟩ := (dpKn_keys h2).2 i k b v q
    exact ⟨dd, F, q1, .refl s2, dpUp q2 s1⟩
  stop := fun F H s1 s2 => ⟨s2 _ _ (s1 _ _ h1), by rw [keysD, List.length_map, (dpKn_keys h2).1]; exact Nat.le_refl _⟩
def iKeysA (w : World) (td : TE) : TI := fun σ H R => td σ H fun x H1 => ∃ d o, x = .ref d ∧ ((∃ kvs, H1 d = some (.frz o (.dK kvs)) ∧ R (Itk d o kvs) H1) ∨ ∃ kvs, H1 d = some (.frz o (dnO w d kvs)) ∧ R (Itn w d o kvs) H1)
section
variable {X : Cx} {W : WX} {S : Nat → Bool} {tg e : Expr} {td : TE}
theorem pi_keysA (he : PE X e td) : PI X tg e (iKeysA X.w td) := by
  refine ⟨fun pins s σ H R I h => ?_⟩
  refine thn (he.run pins s σ H _ I h) fun u s1 ⟨x, H1, I1, rx, d, o, ex, q⟩ => ?_
  subst ex
  obtain rfl : u = Value.ref d := rx
  rcases q with ⟨kvs, hd, q⟩ | ⟨kvs, hd, q⟩
  · obtain ⟨hs, hgd, hx, es, ep, vs, hdt, hsz, kv, hm⟩ := I1.frzK hd
    refine iter_keys hs hgd hx hdt (pi_one (tk := s1.toks) I1 _ (turn_keys _ hdt) ⟨_, Heap.get?_push_size _ rfl, rfl, ?_⟩ q)
    rw [hsz] <;> rfl
  · obtain ⟨hs, hgd, hx, es, ep, hdt, hsz, ent⟩ := Inv.frzN I1 hd
    refine iter_keys hs hgd hx hdt (pi_one (tk := s1.toks) I1 _ (turn_keysN _ hdt) ⟨_, Heap.get?_push_size _ rfl, rfl, ?_⟩ q)
    rw [hsz] <;> rfl
theorem PS.or {st : Stmt} {t t' : TS} (h : PS X st t) (h' : PS X st t') : PS X st (fun D σ H => t D σ H ∨ t' D σ H) := ⟨fun pins s σ H D I q => by
  rcases q with q | q
  · exact h.run pins s σ H D I q
  · exact h'.run pins s σ H D I q⟩
/-- for k in x: body, x a dict told as data; the body raises nothing -/
def sForK (i : Nat) (g : D → Ev → Option Ev) (f : Ev → SR) (env : Ev) : SR := match env[i]? with
  | some (some (.d (.dict ps))) => if (keysD ps).all (fun k => !isNone k) = true then noX (forL g f (keysD ps) env) else .no
  | _ => .no
theorem forK_core {body : List Stmt} {g : D → Ev → Option Ev} {fs : Ev → SR} {tb : TS} {ix : List Nat} {wi : TI} {i : Nat} (sb : SmS X W S tb fs) (hS : ix.all S = true) {F H : Hp} {σ : L2.St} {env : Ev} {fp : List Addr} {D : Ends} {items : List PyData} {J : It} (sat : Sat X.KK F H σ env fp) (wk : WalkF X.KK J F items) (wh : ∀ R : It → Hp → Prop, R J H → wi σ H R) (h : PostS X W S σ F H fp D (forL g fs items env)) : tFor wi (tgOf X.KK ix g) tb D σ H := by
  refine wh _ ?_
  refine ⟨fun i m σ' H' => m = items.length - i ∧ i ≤ items.length ∧ ∃ F' env' fp', Same F F' ∧ Sat X.KK F' H' σ' env' fp' ∧ PostS X W S σ' F' H' fp' D (forL g fs (items.drop i) env'),
    ⟨items.length, by simp, Nat.zero_le _, F, env, fp, Same.refl _, sat, h⟩, ?_⟩
  rintro i m σ' H' ⟨rfl, hi, F', env', fp', st, sat', h2⟩
  by_cases hlt : i < items.length
  · refine .inr ⟨wk.go i F' H' hlt st sat'.fh, fun σ2 H2 => ∃ F2 env2 fp2, Same F F2 ∧ Sat X.KK F2 H2 σ2 env2 fp2 ∧ PostS X W S σ2 F2 H2 fp2 D (forL g fs (items.drop (i + 1)) env2), ?_, ?_⟩
    · rintro σ2 H2 ⟨F2, env2, fp2, a, b, c⟩
      exact ⟨items.length - (i + 1), by omega, rfl, hlt, F2, env2, fp2, a, b, c⟩
    · intro x H3 y
      obtain ⟨d, F3, e1, x3, dp⟩ := wk.yld i F' H' x H3 hlt st sat'.fh y
      have ed : items.drop i = d :: items.drop (i + 1) := by
        rw [List.drop_eq_getElem_cons hlt]
        have : items[i] = d := by rw [List.getElem?_eq_getElem hlt] at e1; exact Option.some.inj e1
        rw [this]
      rw [ed] at h2
      unfold forL at h2
      cases eg : g d env' with
      | none => rw [eg] at h2; exact h2.elim
      | some env1 =>
        rw [eg] at h2
        simp only at h2
        refine ⟨F3, env', fp', d, env1, sat'.ext x3, dp, eg, fun σ4 fp4 sat4 sub4 off4 => ?_⟩
        have st4 : StepS F' H' fp' F3 H3 fp4 := (StepS.of_ext x3 fp').subset sub4
        have h4 := PostS.step h2 (.of off4 hS) st4
        refine sb F3 H3 σ4 env1 fp4 _ sat4 ?_
        cases ef : fs env1 with
        | no => rw [ef] at h4; exact h4
        | nx env2 => rw [ef] at h4; exact fun σ5 F5 H5 fp5 o5 s5 sat5 => ⟨F5, env2, fp5, st.trans (x3.ff.trans s5.ff), sat5, PostS.step h4 o5 s5⟩
        | ct env2 => rw [ef] at h4; exact fun σ5 F5 H5 fp5 o5 s5 sat5 => ⟨F5, env2, fp5, st.trans (x3.ff.trans s5.ff), sat5, PostS.step h4 o5 s5⟩
        | bk env2 => rw [ef] at h4; exact h4
        | rt r env2 => rw [ef] at h4; exact h4
        | ex c env2 => rw [ef] at h4; exact h4
  · have e : i = items.length := by omega
    subst e
    rw [List.drop_length] at h2
    exact .inl ⟨wk.stop F' H' st sat'.fh, h2 σ' F' H' fp' (.refl _ _) (StepS.of_ext (.refl sat'.fh) fp') sat'⟩
theorem ds_forK {x : Str} {npos pos : Pos} {body : List Stmt} {g : D → Ev → Option Ev} {fs : Ev → SR} {ix : List Nat} (i : Nat) (hp : PassesOwn (model X.prog X.w) X.A X.env X.xe) (hc : X.calm = true) (hg : DG X tg ix g) (hb : DSs X W0 S body fs)
    (hN : X.N[i]? = some x := by rfl) (hv : Vis X.env.scope x := by first | exact Or.inl rfl | exact Or.inr (Or.inl rfl) | exact Or.inr (Or.inr rfl)) (hd : (x == ("__debug__" : Str)) = false := by decide) (hcd : (x == ("__classdict__" : Str)) = false := by decide)
    (hs : ∀ y, foldedSetIterable (.Name x npos) X.env y = pure y := by intro _; rfl) (hS : ix.all S = true := by rfl) : DS X W S (.For tg (.Name x npos) body [] pos) (sForK i g fs) := by
  obtain ⟨tb, pb, sb⟩ := hb
  have pf := ps_for hp hc (pi_keysA (tg := tg) (pe_var (pos := npos) hN hv hd hcd)) hg pb hs (pos := pos)
  refine ⟨_, PS.or (ps_lock pf) pf, fun F H σ env fp D sat h => ?_⟩
  unfold sForK at h
  split at h
  · rename_i ps he
    split at h
    case isFalse => exact h.elim
    rename_i hk
    obtain ⟨v, fo, hv, ho, _⟩ := sat.en.get he
    cases ho with
    | d dp =>
      have toW0 : ∀ {F H : Hp} {fp : List Addr} {D : Ends} {r : SR}, PostS X W S σ F H fp D (noX r) → PostS X W0 S σ F H fp D r := fun {F H fp D r} q => by
        cases r with
        | ex c env => exact q.elim
        | _ => exact q
      cases dp with
      | @dct a kvs _ m2 m3 =>
        rcases m2 with m2 | ⟨o, m2⟩
        · refine .inl ⟨a, .dK kvs, sat.fh _ _ m2, trivial, fun od => ?_⟩
          have sat1 := sat.lock od m2 (fun _ _ z => nomatch z) (fun _ _ _ z => nomatch z)
          have m3' := DpKv.rl (rlh_lock (H := H) (od := od) m2 (fun _ _ z => nomatch z) (fun _ _ _ z => nomatch z)).rl _ _ m3
          exact forK_core (i := i) (body := body) sb hS sat1 (walkF_dk upd_same m3') (fun R r => ⟨_, hv, a, od, rfl, .inl ⟨kvs, upd_same, r⟩⟩) (PostS.lock od m2 (sat.fh _ _ m2) h)
        · exact .inr (forK_core (i := i) (body := body) sb hS sat (walkF_dk m2 m3) (fun R r => ⟨_, hv, a, o, rfl, .inl ⟨kvs, sat.fh _ _ m2, r⟩⟩) (toW0 h))
      | @dcn a kvs _ m2 m3 =>
        rcases m2 with m2 | ⟨o, m2⟩
        · refine .inl ⟨a, _, sat.fh _ _ m2, trivial, fun od => ?_⟩
          have sat1 := sat.lock od m2 (fun _ _ z => nomatch z) (fun _ _ _ z => nomatch z)
          have m3' := DpKn.rl (rlh_lock (H := H) (od := od) m2 (fun _ _ z => nomatch z) (fun _ _ _ z => nomatch z)).rl _ _ m3
          exact forK_core (i := i) (body := body) sb hS sat1 (walkF_dn (K := X.KK) upd_same m3') (fun R r => ⟨_, hv, a, od, rfl, .inr ⟨kvs, upd_same, r⟩⟩) (PostS.lock od m2 (sat.fh _ _ m2) h)
        · exact .inr (forK_core (i := i) (body := body) sb hS sat (walkF_dn (K := X.KK) m2 m3) (fun R r => ⟨_, hv, a, o, rfl, .inr ⟨kvs, sat.fh _ _ m2, r⟩⟩) (toW0 h))
      | exc m2 => cases hk
      | ins m2 => cases hk
  · exact h.elim
end
end Mir
end
set_option Elab.async false
set_option linter.all false
set_option maxRecDepth 100000
set_option maxHeartbeats 4000000
namespace Mir
open PySem PySem.Spec L2

inductive Tr where
  | mk (nm : Str) (mk : Int) (bs : List Tr)
mutual
def encT : Tr → D
  | .mk nm k bs => .tuple [.str nm, .int k, .tuple (encTs bs)]
def encTs : List Tr → List D
  | [] => []
  | b :: bs => encT b :: encTs bs
end
mutual
def sizeT : Tr → Nat
  | .mk _ _ bs => 1 + sizeTs bs
def sizeTs : List Tr → Nat
  | [] => 0
  | b :: bs => sizeT b + sizeTs bs
end
mutual
def levT : Tr → Nat
  | .mk _ _ bs => levTs bs + 1
def levTs : List Tr → Nat
  | [] => 0
  | b :: bs => max (levT b) (levTs bs)
end
mutual
def plT : Tr → List (List Nat)
  | .mk _ _ bs => [] :: plTs 0 bs
def plTs : Nat → List Tr → List (List Nat)
  | _, [] => []
  | o, b :: bs => (plT b).map (fun p => o :: p) ++ plTs (o + 1) bs
end
theorem encTs_map : ∀ bs : List Tr, encTs bs = bs.map encT
  | [] => by rw [encTs]; rfl
  | b :: bs => by rw [encTs, encTs_map bs]; rfl
theorem encT_mk (nm : Str) (k : Int) (bs : List Tr) : encT (.mk nm k bs) = .tuple [.str nm, .int k, .tuple (bs.map encT)] := by rw [encT, encTs_map]

structure TRow where
  nm : Str
  mar : Int
  up : Nat
end Mir
set_option Elab.async false
set_option linter.all false
set_option maxRecDepth 100000
set_option maxHeartbeats 4000000
namespace Mir
open PySem PySem.Spec L2

def kf (rs : List TRow) : Nat → Nat → List Nat
  | 0, _ => []
  | s + 1, j => if (rs[rs.length - 1 - s]?).map TRow.up = some j then (rs.length - 1 - s) :: kf rs s j else kf rs s j
def kids (rs : List TRow) (j : Nat) : List Nat := kf rs (rs.length - 1) j
abbrev zs (p : List Nat) : List Int := p.map fun k : Nat => (k : Int)

end Mir
set_option Elab.async false
set_option linter.all false
set_option maxRecDepth 100000
set_option maxHeartbeats 4000000
namespace Mir
open PySem PySem.Spec L2

def encP (p : List Nat) : D := .tuple (p.map fun k => .int (k : Nat))
theorem map_at {α β : Type} {f : α → β} {xs : List α} {i : Nat} {y : β} (h : (xs.map f)[i]? = some y) : ∃ x, xs[i]? = some x ∧ y = f x := by
  rw [List.getElem?_map] at h
  cases e : xs[i]? with
  | none => rw [e] at h; simp at h
  | some x => rw [e] at h; simp at h; exact ⟨x, rfl, h.symm⟩
theorem enumD_at : ∀ (n i : Nat) (ds : List D) (x : D), (enumD n ds)[i]? = some x → ∃ d, ds[i]? = some d ∧ x = .tuple [.int ((n + i : Nat) : Int), d]
  | n, i, [], x, h => by simp [enumD] at h
  | n, 0, d :: ds, x, h => by simp [enumD] at h; exact ⟨d, rfl, by simp [h]⟩
  | n, i + 1, d :: ds, x, h => by
    obtain ⟨e, h1, h2⟩ := enumD_at (n + 1) i ds x (by simpa [enumD] using h)
    exact ⟨e, by simpa using h1, by rw [h2]; congr 3; congr 1; omega⟩
theorem unDs_of {α : Type} (f : α → D) (xs : List α) : shD (.l (xs.map fun x => Ow.d (f x))) = .ok (.list (xs.map f)) := by
  have : (xs.map fun x => Ow.d (f x)) = (xs.map f).map Ow.d := by rw [List.map_map]; rfl
  rw [this, shD_l]
theorem viewAll_of {α : Type} (f : α → D) (xs : List α) : viewAll (xs.map fun x => Ow.d (f x)) = xs.map f := by
  rw [viewAll_map, List.map_map]
  rfl
theorem viewD_of {α : Type} (f : α → D) (xs : List α) : viewD (.l (xs.map fun x => Ow.d (f x))) = .list (xs.map f) := by
  rw [viewD_l, viewAll_of]
theorem str_len (z : Str) : z.length = z.cps.toList.length := by first | rfl | simp [Str.length]
theorem gMul_small {i j : Int} (h1 : i.natAbs < 2 ^ 250) (h2 : j.natAbs < 2 ^ 250) : gMul (.int i) (.int j) = some (.int (i * j)) := by
  refine gMul_int ?_
  have : ∀ n : Nat, n < 2 ^ 250 → n.log2 < 250 := fun n h => by
    by_cases e : n = 0
    · subst e; decide
    · exact (Nat.log2_lt e).mpr h
  unfold CMulW
  have a := this _ h1
  have b := this _ h2
  omega
theorem gDiv_small {i j : Int} (h1 : 0 < j) (h2 : j.natAbs < 2 ^ 250) : gDiv (.int i) (.int j) = some (.int (i / j)) := by
  refine gDiv_int ⟨h1, ?_⟩
  have := (Nat.log2_lt (n := j.natAbs) (k := 250) (by omega)).mpr h2
  omega
theorem gPow10 (k : Nat) (h : k ≤ 1000) : gPow (.int 10) (.int k) = some (.int (10 ^ k)) := by
  rw [gPow_int ⟨by omega, by omega, by decide⟩]
  simp
theorem cutL_take {α : Type} (xs : List α) (k : Nat) : cutL xs none (some (k : Int)) = xs.take k := by
  unfold cutL
  rw [HT.sIx_none, HT.sIx_nat, List.drop_zero, Nat.sub_zero]
  by_cases h : k ≤ xs.length
  · rw [Nat.min_eq_left h]
  · rw [Nat.min_eq_right (by omega), List.take_of_length_le (Nat.le_refl _), List.take_of_length_le (by omega)]
theorem cutL_drop {α : Type} (xs : List α) (k : Nat) : cutL xs (some (k : Int)) none = xs.drop k := by
  unfold cutL
  rw [HT.sIx_none, HT.sIx_nat]
  by_cases h : k ≤ xs.length
  · rw [Nat.min_eq_left h, List.take_of_length_le (by rw [List.length_drop]; exact Nat.le_refl _)]
  · rw [Nat.min_eq_right (by omega), List.drop_of_length_le (by omega), List.drop_of_length_le (by omega)]
    simp
theorem canAll_of : ∀ ds : List D, (∀ d ∈ ds, d.canLay0 = true) → PyData.canLayAll0 ds = true
  | [], _ => by simp [PyData.canLayAll0]
  | d :: ds, h => by
    rw [PyData.canLayAll0, h d List.mem_cons_self, canAll_of ds fun d hd => h d (List.mem_cons_of_mem _ hd)]
    rfl
theorem depthAll_of {n : Nat} : ∀ ds : List D, (∀ d ∈ ds, d.depth ≤ n) → PyData.depthAll ds ≤ n
  | [], _ => by simp [PyData.depthAll]
  | d :: ds, h => by
    rw [PyData.depthAll]
    have := h d List.mem_cons_self
    have := depthAll_of ds fun d hd => h d (List.mem_cons_of_mem _ hd)
    omega
/-- data that == can be asked of -/
def Nice (d : D) : Prop := d.canLay0 = true ∧ d.depth ≤ 130
theorem gEq_nice {d e : D} (h : Nice d) (g : Nice e) : gEq d e = some (.bool (PyData.eqv d e)) := by
  have z : eqOk d e = true := by unfold eqOk; simp [h.1, h.2, g.1]
  unfold gEq; rw [if_pos (by rw [z, Bool.or_true])]
theorem gNe_nice {d e : D} (h : Nice d) (g : Nice e) : gNe d e = some (.bool (!PyData.eqv d e)) := by
  have z : eqOk d e = true := by unfold eqOk; simp [h.1, h.2, g.1]
  unfold gNe; rw [if_pos (by rw [z, Bool.or_true])]
theorem eqv_self {d : D} (h : Nice d) : PyData.eqv d d = true := SeqAt.eqv_refl d h.1
mutual
def okT : Tr → Prop
  | .mk nm _ bs => PyData.strOk nm = true ∧ bs.length ≤ 1000 ∧ okTs bs
def okTs : List Tr → Prop
  | [] => True
  | b :: bs => okT b ∧ okTs bs
end
abbrev abc : Str := "abcdefghijklmnopqrstuvwxyz"
end Mir
set_option Elab.async false
set_option linter.all false
set_option maxRecDepth 100000
set_option maxHeartbeats 4000000
namespace Mir
open PySem PySem.Spec L2

def tx (l : List Nat) : Str := ⟨l.toArray⟩
@[simp] theorem tx_cps (l : List Nat) : (tx l).cps.toList = l := by simp [tx]
@[simp] theorem tx_len (l : List Nat) : (tx l).length = l.length := by rw [str_len, tx_cps]
theorem tx_of (z : Str) : z = tx z.cps.toList := by
  cases z with
  | mk a => simp [tx]
theorem tx_inj {a b : List Nat} (h : tx a = tx b) : a = b := by
  have := congrArg (fun z : Str => z.cps.toList) h
  simpa using this
theorem gIx_tx {l : List Nat} {i c : Nat} (h : l[i]? = some c) (hl : l.length ≤ 16777216) : gIx (.str (tx l)) (.int (i : Nat)) = some (.str (tx [c])) := by
  show (if (tx l).length ≤ sizeLine then (atI (tx l).cps.toList (i : Int)).map fun c => PyData.str ⟨#[c]⟩ else none) = _
  rw [tx_len, tx_cps, if_pos (by rw [sizeLine_eq]; exact hl), atI_natD h]
  rfl
theorem abc_is : abc.cps.toList = (List.range 26).map (fun k => 97 + k) := by decide +kernel
theorem empty_is : (Str.ofString "") = tx [] := by rw [tx_of (Str.ofString "")]; congr 1

end Mir
set_option Elab.async false
set_option linter.all false
set_option maxRecDepth 100000
set_option maxHeartbeats 4000000
namespace Mir
open PySem PySem.Spec L2
theorem abc_ix {k : Nat} (hk : k < 26) : gIx (.str abc) (.int (k : Int)) = some (.str (tx [97 + k])) := by
  rw [tx_of abc, abc_is]
  refine gIx_tx ?_ (by simp)
  rw [List.getElem?_map, List.getElem?_range hk]
  rfl
theorem strOk_tx {l : List Nat} (h : ∀ c ∈ l, c < 1000) : PyData.strOk (tx l) = true := by
  unfold PyData.strOk
  simp only [tx, List.all_toArray, List.all_eq_true, decide_eq_true_eq]
  intro c hc
  have := h c hc
  omega
end Mir
set_option Elab.async false
set_option linter.all false
set_option maxRecDepth 100000
set_option maxHeartbeats 4000000
namespace Mir
open PySem PySem.Spec L2

inductive Trm where
  | call (m b : Int)
  | put (nm : Str) (kp : Bool) (ad : Int) (ps : List Trm)
mutual
def encM : Trm → D
  | .call m b => .tuple [.str "call", .int m, .int b]
  | .put nm kp ad ps => .tuple [.str "put", .str nm, .bool kp, .int ad, .tuple (encMs ps)]
def encMs : List Trm → List D
  | [] => []
  | p :: ps => encM p :: encMs ps
end
mutual
def sizeM : Trm → Nat
  | .call _ _ => 1
  | .put _ _ _ ps => 1 + sizeMs ps
def sizeMs : List Trm → Nat
  | [] => 0
  | p :: ps => sizeM p + sizeMs ps
end
mutual
def levM : Trm → Nat
  | .call _ _ => 1
  | .put _ _ _ ps => levMs ps + 1
def levMs : List Trm → Nat
  | [] => 0
  | p :: ps => max (levM p) (levMs ps)
end
mutual
def callsM : Trm → List (Int × Int)
  | .call m b => [(m, b)]
  | .put _ _ _ ps => callsMs ps
def callsMs : List Trm → List (Int × Int)
  | [] => []
  | p :: ps => callsM p ++ callsMs ps
end
mutual
def okM : Trm → Prop
  | .call _ _ => True
  | .put nm _ _ ps => PyData.strOk nm = true ∧ ps.length ≤ 1000 ∧ okMs ps
def okMs : List Trm → Prop
  | [] => True
  | p :: ps => okM p ∧ okMs ps
end
theorem encMs_map : ∀ ps : List Trm, encMs ps = ps.map encM
  | [] => by rw [encMs]; rfl
  | p :: ps => by rw [encMs, encMs_map ps]; rfl
theorem encM_call (m b : Int) : encM (.call m b) = .tuple [.str "call", .int m, .int b] := by rw [encM]
theorem encM_put (nm : Str) (kp : Bool) (ad : Int) (ps : List Trm) : encM (.put nm kp ad ps) = .tuple [.str "put", .str nm, .bool kp, .int ad, .tuple (ps.map encM)] := by rw [encM, encMs_map]
theorem levMs_le {n : Nat} : ∀ {ps : List Trm}, levMs ps ≤ n → ∀ p ∈ ps, levM p ≤ n
  | [], _, b, h => by simp at h
  | c :: ps, h, b, hb => by
    rw [levMs] at h
    rcases List.mem_cons.mp hb with e | e
    · subst e; omega
    · exact levMs_le (by omega) b e
mutual
theorem can_encM : ∀ t : Trm, okM t → (encM t).canLay0 = true
  | .call m b, _ => by
    rw [encM, PyData.canLay0]
    have : PyData.strOk "call" = true := by decide +kernel
    simp [PyData.canLayAll0, PyData.canLay0, this]
  | .put nm kp ad ps, h => by
    rw [okM] at h
    rw [encM, PyData.canLay0]
    have : PyData.strOk "put" = true := by decide +kernel
    simp [PyData.canLayAll0, PyData.canLay0, this, h.1, can_encMs ps h.2.2]
theorem can_encMs : ∀ ps : List Trm, okMs ps → PyData.canLayAll0 (encMs ps) = true
  | [], _ => by simp [encMs, PyData.canLayAll0]
  | p :: ps, h => by
    rw [okMs] at h
    rw [encMs, PyData.canLayAll0, can_encM p h.1, can_encMs ps h.2]
    rfl
end
mutual
theorem depth_encM : ∀ t : Trm, (encM t).depth ≤ 2 * levM t
  | .call m b => by rw [encM, levM]; simp [PyData.depth, PyData.depthAll]
  | .put nm kp ad ps => by
    rw [encM, levM]
    have := depth_encMs ps
    simp only [PyData.depth, PyData.depthAll]
    omega
theorem depth_encMs : ∀ ps : List Trm, PyData.depthAll (encMs ps) ≤ 2 * levMs ps
  | [] => by simp [encMs, PyData.depthAll]
  | p :: ps => by
    rw [encMs, PyData.depthAll, levMs]
    have := depth_encM p
    have := depth_encMs ps
    omega
end
theorem str_eqv (a b : Str) : PyData.eqv (.str a) (.str b) = (a == b) := rfl
theorem gEq_strs (a b : String) : gEq (.str (Str.ofString a)) (.str (Str.ofString b)) = some (.bool (PyData.eqv (.str (Str.ofString a)) (.str (Str.ofString b)))) := rfl
@[simp] theorem gEq_cc : gEq (.str (Str.ofString "call")) (.str (Str.ofString "call")) = some (.bool true) := by
  have h : (Str.ofString "call" == Str.ofString "call") = true := by decide +kernel
  rw [gEq_strs, str_eqv, h]
@[simp] theorem gEq_pc : gEq (.str (Str.ofString "put")) (.str (Str.ofString "call")) = some (.bool false) := by
  have h : (Str.ofString "put" == Str.ofString "call") = false := by decide +kernel
  rw [gEq_strs, str_eqv, h]
@[simp] theorem gEq_cp : gEq (.str (Str.ofString "call")) (.str (Str.ofString "put")) = some (.bool false) := by
  have h : (Str.ofString "call" == Str.ofString "put") = false := by decide +kernel
  rw [gEq_strs, str_eqv, h]
@[simp] theorem gEq_pp : gEq (.str (Str.ofString "put")) (.str (Str.ofString "put")) = some (.bool true) := by
  have h : (Str.ofString "put" == Str.ofString "put") = true := by decide +kernel
  rw [gEq_strs, str_eqv, h]
theorem lcR_map {α : Type} {g : D → Ev → Option Ev} {c : Ev → R Bool} {e : Ev → R Ow} {env : Ev} (enc : α → D) (out : α → Ow) : ∀ xs : List α, (∀ a ∈ xs, ∃ env1, g (enc a) env = some env1 ∧ c env1 = .ok true ∧ e env1 = .ok (out a)) → lcR g c e env (xs.map enc) = .ok (xs.map out)
  | [], _ => rfl
  | a :: xs, q => by
    obtain ⟨env1, q1, q2, q3⟩ := q a List.mem_cons_self
    rw [List.map_cons]
    unfold lcR
    rw [q1]
    simp only [q2, q3, noEx_ok, R.bind_ok, if_true]
    rw [lcR_map enc out xs fun d hd => q d (List.mem_cons_of_mem _ hd)]
    rfl
theorem forL_map {α : Type} {g : D → Ev → Option Ev} {f : Ev → SR} (enc : α → D) (xs : List α) (I : Nat → Ev → Prop) (step : ∀ i a env, xs[i]? = some a → I i env → ∃ env1, g (enc a) env = some env1 ∧ ∃ env2, (f env1 = .nx env2 ∨ f env1 = .ct env2) ∧ I (i + 1) env2) (env : Ev) (h : I 0 env) : ∃ env', forL g f (xs.map enc) env = .nx env' ∧ I xs.length env' := by
  have := forL_ind (g := g) (f := f) (xs.map enc) I (fun i d env hd hi => by
    obtain ⟨a, ha, rfl⟩ := map_at hd
    exact step i a env ha hi) env h
  rwa [List.length_map] at this
noncomputable section
def encC (c : Int × Int) : D := .tuple [.int c.1, .int c.2]
abbrev encCs (cs : List (Int × Int)) : Ow := .l (cs.map fun c => .d (encC c))
end
end Mir
set_option Elab.async false
set_option linter.all false
set_option maxRecDepth 100000
set_option maxHeartbeats 4000000
namespace Mir
open PySem PySem.Spec L2

abbrev dkD (dk : List Int) : D := .list (dk.map PyData.int)
/-- what a deck's def tells: r, and the deck behind it -/
abbrev tells (r : D) (dk : List Int) : R Ow := .ok (.d (.tuple [r, dkD dk]))
noncomputable section
/-- a def that draws a number below most -/
def Draws (fd : List D → R Ow) : Prop := ∀ (dk : List Int) (most : Int), 0 < most → ∃ r dk', 0 ≤ r ∧ r < most ∧ fd (dkD dk :: [.int most]) = tells (.int r) dk'
end
end Mir
set_option Elab.async false
set_option linter.all false
set_option maxRecDepth 100000
set_option maxHeartbeats 4000000
namespace Mir
open PySem PySem.Spec L2

def mar : Tr → Int
  | .mk _ k _ => k

end Mir
set_option Elab.async false
set_option linter.all false
set_option maxRecDepth 100000
set_option maxHeartbeats 4000000
namespace Mir
open PySem PySem.Spec L2
noncomputable section
end
end Mir
set_option Elab.async false
set_option linter.all false
set_option maxRecDepth 100000
set_option maxHeartbeats 4000000
namespace Mir
open PySem PySem.Spec L2

inductive Stp where
  | op
  | put (nm : Str) (k : Int) (ps : List Stp)
mutual
def encS : Stp → D
  | .op => .tuple [.str "open"]
  | .put nm k ps => .tuple [.str "put", .str nm, .int k, .tuple (encSs ps)]
def encSs : List Stp → List D
  | [] => []
  | p :: ps => encS p :: encSs ps
end

@[simp] theorem gNe_str (a b : Str) : gNe (.str a) (.str b) = some (.bool (!(a == b))) := rfl
@[simp] theorem gEq_oo : gEq (.str (Str.ofString "open")) (.str (Str.ofString "open")) = some (.bool true) := by
  have h : (Str.ofString "open" == Str.ofString "open") = true := by decide +kernel
  rw [gEq_strs, str_eqv, h]
@[simp] theorem gEq_po : gEq (.str (Str.ofString "put")) (.str (Str.ofString "open")) = some (.bool false) := by
  have h : (Str.ofString "put" == Str.ofString "open") = false := by decide +kernel
  rw [gEq_strs, str_eqv, h]
@[simp] theorem gIsi_str_str (z : Str) : gIsi "str" (.str z) = .ok (.bool true) := rfl
@[simp] theorem gIsi_bool_bool (b : Bool) : gIsi "bool" (.bool b) = .ok (.bool true) := rfl
section
variable (nm : Str) (k : Int) (ps : List Stp) (bs : List Tr)
theorem t_ix0 : gIx (encT (.mk nm k bs)) (.int 0) = some (.str nm) := by rw [encT_mk]; simp
theorem t_ix1 : gIx (encT (.mk nm k bs)) (.int 1) = some (.int k) := by rw [encT_mk]; simp
theorem t_ix2 : gIx (encT (.mk nm k bs)) (.int 2) = some (.tuple (bs.map encT)) := by rw [encT_mk]; simp
end
noncomputable section
end
end Mir
set_option Elab.async false
set_option linter.all false
set_option maxRecDepth 100000
set_option maxHeartbeats 4000000
namespace Mir
open PySem PySem.Spec L2
noncomputable section
end
end Mir
set_option Elab.async false
set_option linter.all false
set_option maxRecDepth 100000
set_option maxHeartbeats 4000000
namespace Mir
open PySem PySem.Spec L2
mutual
def met : Stp → Stp → Stp
  | .op, _ => .op
  | .put nm k ps, o => match o with
    | .op => .op
    | .put nm' k' qs => bif (nm == nm') && ((k == k') && (ps.length == qs.length)) then .put nm k (mets ps qs) else .op
def mets : List Stp → List Stp → List Stp
  | [], _ => []
  | p :: ps, qs => match qs with
    | [] => []
    | q :: qs => met p q :: mets ps qs
end
theorem met_op (o : Stp) : met .op o = .op := by rw [met]
theorem met_op2 (s : Stp) : met s .op = .op := by cases s <;> rw [met]
theorem met_put (nm nm' : Str) (k k' : Int) (ps qs : List Stp) : met (.put nm k ps) (.put nm' k' qs) = bif (nm == nm') && ((k == k') && (ps.length == qs.length)) then .put nm k (mets ps qs) else .op := by rw [met]
theorem met_same (nm : Str) (k : Int) {ps qs : List Stp} (h : ps.length = qs.length) : met (.put nm k ps) (.put nm k qs) = .put nm k (mets ps qs) := by
  rw [met_put]
  simp [h]
theorem met_unlike {nm nm' : Str} {k k' : Int} {ps qs : List Stp} (h : ¬ (nm = nm' ∧ k = k' ∧ ps.length = qs.length)) : met (.put nm k ps) (.put nm' k' qs) = .op := by
  rw [met_put]
  have : ((nm == nm') && ((k == k') && (ps.length == qs.length))) = false := by
    rw [Bool.eq_false_iff]
    intro c
    apply h
    simpa using c
  rw [this]
  rfl
theorem mets_nil (qs : List Stp) : mets [] qs = [] := by rw [mets]
theorem mets_nil2 (ps : List Stp) : mets ps [] = [] := by cases ps <;> rw [mets]
theorem mets_cons (p q : Stp) (ps qs : List Stp) : mets (p :: ps) (q :: qs) = met p q :: mets ps qs := by rw [mets]
theorem mets_zip : ∀ ps qs : List Stp, mets ps qs = List.zipWith met ps qs
  | [], qs => by rw [mets_nil]; rfl
  | p :: ps, [] => by rw [mets_nil2]; rfl
  | p :: ps, q :: qs => by rw [mets_cons, mets_zip ps qs]; rfl
theorem mets_len : ∀ ps qs : List Stp, (mets ps qs).length = min ps.length qs.length := fun ps qs => by rw [mets_zip, List.length_zipWith]
mutual
theorem met_comm : ∀ a b : Stp, met a b = met b a
  | .op, b => by rw [met_op, met_op2]
  | .put nm k ps, .op => by rw [met_op, met_op2]
  | .put nm k ps, .put nm' k' qs => by
    by_cases h : nm = nm' ∧ k = k' ∧ ps.length = qs.length
    · obtain ⟨rfl, rfl, h⟩ := h
      rw [met_same _ _ h, met_same _ _ h.symm, mets_comm ps qs]
    · rw [met_unlike h, met_unlike fun c => h ⟨c.1.symm, c.2.1.symm, c.2.2.symm⟩]
theorem mets_comm : ∀ as bs : List Stp, mets as bs = mets bs as
  | [], bs => by rw [mets_nil, mets_nil2]
  | a :: as, [] => by rw [mets_nil, mets_nil2]
  | a :: as, b :: bs => by rw [mets_cons, mets_cons, met_comm a b, mets_comm as bs]
end
mutual
theorem met_self : ∀ a : Stp, met a a = a
  | .op => by rw [met_op]
  | .put nm k ps => by rw [met_same _ _ rfl, mets_self ps]
theorem mets_self : ∀ as : List Stp, mets as as = as
  | [] => by rw [mets_nil]
  | a :: as => by rw [mets_cons, met_self a, mets_self as]
end
mutual
theorem met_assoc : ∀ a b c : Stp, met (met a b) c = met a (met b c)
  | .op, b, c => by rw [met_op, met_op, met_op]
  | .put nm k ps, .op, c => by rw [met_op2, met_op, met_op2]
  | .put nm k ps, .put nm' k' qs, .op => by rw [met_op2, met_op2, met_op2]
  | .put nm k ps, .put nm' k' qs, .put nm'' k'' rs => by
    by_cases h : nm = nm' ∧ k = k' ∧ ps.length = qs.length
    · obtain ⟨rfl, rfl, h⟩ := h
      rw [met_same _ _ h]
      by_cases g : nm = nm'' ∧ k = k'' ∧ qs.length = rs.length
      · obtain ⟨rfl, rfl, g⟩ := g
        rw [met_same _ _ g, met_same _ _ (by rw [mets_len]; omega), met_same _ _ (by rw [mets_len]; omega), mets_assoc ps qs rs]
      · rw [met_unlike (ps := qs) g, met_op2, met_unlike fun c => g ⟨c.1, c.2.1, by have := c.2.2; rw [mets_len] at this; omega⟩]
    · rw [met_unlike h, met_op]
      by_cases g : nm' = nm'' ∧ k' = k'' ∧ qs.length = rs.length
      · obtain ⟨rfl, rfl, g⟩ := g
        rw [met_same _ _ g, met_unlike fun c => h ⟨c.1, c.2.1, by have := c.2.2; rw [mets_len] at this; omega⟩]
      · rw [met_unlike g, met_op2]
theorem mets_assoc : ∀ as bs cs : List Stp, mets (mets as bs) cs = mets as (mets bs cs)
  | [], bs, cs => by rw [mets_nil, mets_nil, mets_nil]
  | a :: as, [], cs => by rw [mets_nil2, mets_nil, mets_nil2]
  | a :: as, b :: bs, [] => by rw [mets_nil2, mets_nil2, mets_nil2]
  | a :: as, b :: bs, c :: cs => by rw [mets_cons, mets_cons, mets_cons, mets_cons, met_assoc a b c, mets_assoc as bs cs]
end
theorem met_met (a b : Stp) : met (met a b) a = met a b := by rw [met_comm (met a b) a, ← met_assoc, met_self]
theorem zipD_zip {α β : Type} (e1 : α → D) (e2 : β → D) : ∀ (as : List α) (bs : List β), zipD (as.map e1) (bs.map e2) = (as.zip bs).map fun p => .tuple [e1 p.1, e2 p.2]
  | [], bs => by simp
  | a :: as, [] => by simp
  | a :: as, b :: bs => by rw [List.map_cons, List.map_cons, zipD_cons, zipD_zip e1 e2 as bs]; rfl
noncomputable section
end
end Mir
set_option Elab.async false
set_option linter.all false
set_option maxRecDepth 100000
set_option maxHeartbeats 4000000
namespace Mir
open PySem PySem.Spec L2
mutual
def stIn (ss : List Stp) : Trm → Stp
  | .call m _ => ss.getD m.toNat .op
  | .put nm kp ad ps => bif kp then .op else .put nm ad (stIns ss ps)
def stIns (ss : List Stp) : List Trm → List Stp
  | [] => []
  | p :: ps => stIn ss p :: stIns ss ps
end
theorem stIns_map (ss : List Stp) : ∀ ps : List Trm, stIns ss ps = ps.map (stIn ss)
  | [] => by rw [stIns]; rfl
  | p :: ps => by rw [stIns, stIns_map ss ps]; rfl
def metOf : List Stp → Stp
  | [] => .op
  | s :: ss => ss.foldl met s
/-- the one tells no more than the other -/
def leS (a b : Stp) : Prop := met a b = a
theorem leS_refl (a : Stp) : leS a a := met_self a
theorem leS_trans {a b c : Stp} (h : leS a b) (g : leS b c) : leS a c := by
  unfold leS at *
  rw [← h, met_assoc, g]
theorem leS_left (a b : Stp) : leS (met a b) a := met_met a b
theorem leS_right (a b : Stp) : leS (met a b) b := by
  unfold leS
  rw [met_assoc, met_self]
theorem leS_glb {y a b : Stp} (h : leS y a) (g : leS y b) : leS y (met a b) := by
  unfold leS at *
  rw [← met_assoc, h, g]
theorem foldl_le : ∀ (ss : List Stp) (s : Stp), leS (ss.foldl met s) s ∧ ∀ x ∈ ss, leS (ss.foldl met s) x
  | [], s => ⟨leS_refl s, fun x h => by cases h⟩
  | a :: ss, s => by
    rw [List.foldl_cons]
    obtain ⟨h1, h2⟩ := foldl_le ss (met s a)
    refine ⟨leS_trans h1 (leS_left s a), fun x hx => ?_⟩
    rcases List.mem_cons.mp hx with rfl | hx
    · exact leS_trans h1 (leS_right s x)
    · exact h2 x hx
theorem foldl_glb {y : Stp} : ∀ (ss : List Stp) (s : Stp), leS y s → (∀ x ∈ ss, leS y x) → leS y (ss.foldl met s)
  | [], s, h, _ => h
  | a :: ss, s, h, k => by
    rw [List.foldl_cons]
    exact foldl_glb ss (met s a) (leS_glb h (k a List.mem_cons_self)) fun x hx => k x (List.mem_cons_of_mem _ hx)
theorem metOf_le {l : List Stp} {x : Stp} (h : x ∈ l) : leS (metOf l) x := by
  cases l with
  | nil => cases h
  | cons s ss =>
    obtain ⟨h1, h2⟩ := foldl_le ss s
    rcases List.mem_cons.mp h with rfl | h
    · exact h1
    · exact h2 x h
theorem metOf_glb {y : Stp} {l : List Stp} (hl : l ≠ []) (h : ∀ x ∈ l, leS y x) : leS y (metOf l) := by
  cases l with
  | nil => exact absurd rfl hl
  | cons s ss => exact foldl_glb ss s (h s List.mem_cons_self) fun x hx => h x (List.mem_cons_of_mem _ hx)
mutual
def cS : Stp → Nat
  | .op => 0
  | .put _ _ ps => cSs ps + 1
def cSs : List Stp → Nat
  | [] => 0
  | p :: ps => cS p + cSs ps
end
theorem cS_zero {s : Stp} (h : cS s = 0) : s = .op := by
  cases s with
  | op => rfl
  | put nm k ps => rw [cS] at h; omega
mutual
theorem c_met : ∀ a b : Stp, cS (met a b) ≤ cS b ∧ (cS (met a b) = cS b → met a b = b)
  | .op, b => by
    rw [met_op, cS]
    exact ⟨Nat.zero_le _, fun h => (cS_zero h.symm).symm⟩
  | .put nm k ps, .op => by
    rw [met_op2, cS]
    exact ⟨Nat.le_refl _, fun _ => rfl⟩
  | .put nm k ps, .put nm' k' qs => by
    by_cases h : nm = nm' ∧ k = k' ∧ ps.length = qs.length
    · obtain ⟨rfl, rfl, h⟩ := h
      obtain ⟨h1, h2⟩ := cs_mets ps qs h
      rw [met_same _ _ h, cS, cS]
      exact ⟨by omega, fun e => by rw [h2 (by omega)]⟩
    · rw [met_unlike h, cS, cS]
      exact ⟨by omega, fun e => by omega⟩
theorem cs_mets : ∀ as bs : List Stp, as.length = bs.length → cSs (mets as bs) ≤ cSs bs ∧ (cSs (mets as bs) = cSs bs → mets as bs = bs)
  | [], [], _ => by rw [mets_nil]; exact ⟨Nat.le_refl _, fun _ => rfl⟩
  | [], _ :: _, h => by simp at h
  | _ :: _, [], h => by simp at h
  | a :: as, b :: bs, h => by
    obtain ⟨h1, h2⟩ := c_met a b
    obtain ⟨g1, g2⟩ := cs_mets as bs (by simpa using h)
    rw [mets_cons, cSs, cSs]
    exact ⟨by omega, fun e => by rw [h2 (by omega), g2 (by omega)]⟩
end
theorem leS_c {a b : Stp} (h : leS a b) : cS a ≤ cS b ∧ (cS a = cS b → a = b) := by
  have := c_met a b
  rw [h] at this
  exact this
def leT : List Stp → List Stp → Prop
  | [], [] => True
  | a :: as, b :: bs => leS a b ∧ leT as bs
  | _, _ => False
theorem leT_at : ∀ {as bs : List Stp}, leT as bs → ∀ k, leS (as.getD k .op) (bs.getD k .op)
  | [], [], _, k => leS_refl _
  | a :: as, b :: bs, h, 0 => h.1
  | a :: as, b :: bs, h, k + 1 => leT_at h.2 k
  | [], _ :: _, h, _ => h.elim
  | _ :: _, [], h, _ => h.elim
theorem leT_map {α : Type} {f g : α → Stp} : ∀ {l : List α}, (∀ x ∈ l, leS (f x) (g x)) → leT (l.map f) (l.map g)
  | [], _ => trivial
  | x :: l, h => ⟨h x List.mem_cons_self, leT_map fun y hy => h y (List.mem_cons_of_mem _ hy)⟩
theorem leT_c : ∀ {as bs : List Stp}, leT as bs → cSs as ≤ cSs bs ∧ (cSs as = cSs bs → as = bs)
  | [], [], _ => ⟨Nat.le_refl _, fun _ => rfl⟩
  | a :: as, b :: bs, h => by
    obtain ⟨h1, h2⟩ := leS_c h.1
    obtain ⟨g1, g2⟩ := leT_c h.2
    rw [cSs, cSs]
    exact ⟨by omega, fun e => by rw [h2 (by omega), g2 (by omega)]⟩
  | [], _ :: _, h => h.elim
  | _ :: _, [], h => h.elim
mutual
theorem stIn_mono {as bs : List Stp} (h : leT as bs) : ∀ t : Trm, leS (stIn as t) (stIn bs t)
  | .call m b => by rw [stIn, stIn]; exact leT_at h _
  | .put nm kp ad ps => by
    rw [stIn, stIn]
    cases kp with
    | true => exact leS_refl _
    | false =>
      show met (.put nm ad _) (.put nm ad _) = _
      rw [met_same _ _ (by rw [stIns_map, stIns_map, List.length_map, List.length_map]), stIns_mono h ps]
      rfl
theorem stIns_mono {as bs : List Stp} (h : leT as bs) : ∀ ps : List Trm, mets (stIns as ps) (stIns bs ps) = stIns as ps
  | [] => by rw [stIns, mets_nil]
  | p :: ps => by rw [stIns, stIns, mets_cons, stIn_mono h p, stIns_mono h ps]
end
mutual
theorem stIn_calm (as bs : List Stp) : ∀ t : Trm, callsM t = [] → stIn as t = stIn bs t
  | .call m b, h => by rw [callsM] at h; cases h
  | .put nm kp ad ps, h => by
    rw [callsM] at h
    rw [stIn, stIn, stIns_calm as bs ps h]
theorem stIns_calm (as bs : List Stp) : ∀ ps : List Trm, callsMs ps = [] → stIns as ps = stIns bs ps
  | [], _ => by rw [stIns, stIns]
  | p :: ps, h => by
    rw [callsMs, List.append_eq_nil_iff] at h
    rw [stIns, stIns, stIn_calm as bs p h.1, stIns_calm as bs ps h.2]
end
/-- a mode: its rules, and which of them are those of rows without branches -/
structure Md where
  kd : Str
  rls : List (Bool × Trm)
def bares (m : Md) : List Trm := (m.rls.filter (·.1)).map (·.2)
def rulesM (m : Md) : List Trm := m.rls.map (·.2)
def MdOk (m : Md) : Prop := bares m ≠ [] ∧ ∀ t ∈ bares m, callsM t = []
def tab0 (ms : List Md) : List Stp := ms.map fun m => metOf ((bares m).map (stIn []))
def tabN (ms : List Md) (ss : List Stp) : List Stp := ms.map fun m => metOf ((rulesM m).map (stIn ss))
def tab (ms : List Md) : Nat → List Stp
  | 0 => tab0 ms
  | n + 1 => tabN ms (tab ms n)
theorem tabN_mono (ms : List Md) (hm : ∀ m ∈ ms, MdOk m) {as bs : List Stp} (h : leT as bs) : leT (tabN ms as) (tabN ms bs) := by
  refine leT_map fun m hmm => ?_
  have ne : rulesM m ≠ [] := by
    have := (hm m hmm).1
    intro e
    apply this
    unfold bares
    have : m.rls = [] := by unfold rulesM at e; simpa using e
    rw [this]; rfl
  refine metOf_glb (by simpa using ne) fun x hx => ?_
  obtain ⟨t, ht, rfl⟩ := List.mem_map.mp hx
  exact leS_trans (metOf_le (List.mem_map_of_mem ht)) (stIn_mono h t)
theorem tab_first (ms : List Md) (hm : ∀ m ∈ ms, MdOk m) : leT (tab ms 1) (tab ms 0) := by
  refine leT_map fun m hmm => ?_
  obtain ⟨h1, h2⟩ := hm m hmm
  refine metOf_glb (by simpa using h1) fun x hx => ?_
  obtain ⟨t, ht, rfl⟩ := List.mem_map.mp hx
  rw [stIn_calm [] (tab ms 0) t (h2 t ht)]
  refine metOf_le (List.mem_map_of_mem ?_)
  unfold bares at ht
  obtain ⟨p, hp, rfl⟩ := List.mem_map.mp ht
  exact List.mem_map_of_mem (List.mem_filter.mp hp).1
theorem tab_down (ms : List Md) (hm : ∀ m ∈ ms, MdOk m) : ∀ n, leT (tab ms (n + 1)) (tab ms n)
  | 0 => tab_first ms hm
  | n + 1 => tabN_mono ms hm (tab_down ms hm n)
theorem tab_stop (ms : List Md) (hm : ∀ m ∈ ms, MdOk m) : ∃ N, N ≤ cSs (tab ms 0) ∧ tab ms (N + 1) = tab ms N ∧ ∀ i, i < N → tab ms (i + 1) ≠ tab ms i := by
  have step : ∀ n, (∀ i, i < n → tab ms (i + 1) ≠ tab ms i) → cSs (tab ms n) + n ≤ cSs (tab ms 0) := fun n => by
    induction n with
    | zero => intro _; omega
    | succ n ih =>
      intro h
      have a := ih fun i hi => h i (by omega)
      obtain ⟨b, c⟩ := leT_c (tab_down ms hm n)
      have : cSs (tab ms (n + 1)) ≠ cSs (tab ms n) := fun e => h n (by omega) (c e)
      omega
  have ex : ∃ n, tab ms (n + 1) = tab ms n := by
    refine Classical.byContradiction fun no => ?_
    have := step (cSs (tab ms 0) + 1) fun i _ e => no ⟨i, e⟩
    omega
  have least : ∀ n, tab ms (n + 1) = tab ms n → ∃ N, tab ms (N + 1) = tab ms N ∧ ∀ i, i < N → tab ms (i + 1) ≠ tab ms i := fun n => by
    induction n using Nat.strongRecOn with
    | ind n ih =>
      intro h
      by_cases c : ∃ i, i < n ∧ tab ms (i + 1) = tab ms i
      · obtain ⟨i, hi, e⟩ := c
        exact ih i hi e
      · exact ⟨n, h, fun i hi e => c ⟨i, hi, e⟩⟩
  obtain ⟨n, hn⟩ := ex
  obtain ⟨N, h1, h2⟩ := least n hn
  refine ⟨N, ?_, h1, h2⟩
  have := step N h2
  omega
/-- what the tables' stumps are like -/
theorem tab_len (ms : List Md) : ∀ n, (tab ms n).length = ms.length
  | 0 => by show (ms.map _).length = _; rw [List.length_map]
  | n + 1 => by show (ms.map _).length = _; rw [List.length_map]
end Mir
set_option Elab.async false
set_option linter.all false
set_option maxRecDepth 100000
set_option maxHeartbeats 4000000
namespace Mir
open PySem PySem.Spec L2
structure Rw where
  nm : Str
  br : List Str
abbrev Wood := List (Str × List Rw)
def encRw (r : Rw) : D := .tuple [.str r.nm, .tuple (r.br.map PyData.str)]
def encKd (p : Str × List Rw) : D := .tuple [.str p.1, .list (p.2.map encRw)]
def encWd (w : Wood) : D := .list (w.map encKd)
structure Trn where
  wood : Wood
  start : Trm
  modes : List (Str × List Trm)
def encMo (p : Str × List Trm) : D := .tuple [.str p.1, .list (p.2.map encM)]
def encTn (t : Trn) : D := .tuple [encWd t.wood, encM t.start, .list (t.modes.map encMo)]
def rowsOf : Wood → Str → List Rw
  | [], _ => []
  | p :: w, k => bif p.1 == k then p.2 else rowsOf w k
def mdOf (w : Wood) (p : Str × List Trm) : Md := ⟨p.1, List.zipWith (fun (r : Rw) t => (r.br.isEmpty, t)) (rowsOf w p.1) p.2⟩
def mds (t : Trn) : List Md := t.modes.map (mdOf t.wood)
/-- a turning that the drawing makes -/
structure TnOk (t : Trn) : Prop where
  few : t.modes.length ≤ 100
  few1 : 1 ≤ t.modes.length
  rows : ∀ p ∈ t.modes, p.2.length = (rowsOf t.wood p.1).length ∧ p.2.length ≤ 100
  bare : ∀ p ∈ t.modes, MdOk (mdOf t.wood p)
  term : ∀ p ∈ t.modes, ∀ r ∈ p.2, okM r ∧ levM r ≤ 10 ∧ sizeM r ≤ 1000 ∧ ∀ c ∈ callsM r, 0 ≤ c.1 ∧ c.1 < t.modes.length
  names : (∀ p ∈ t.wood, PyData.strOk p.1 = true ∧ p.2.length ≤ 100 ∧ ∀ r ∈ p.2, PyData.strOk r.nm = true ∧ r.br.length ≤ 100 ∧ ∀ b ∈ r.br, PyData.strOk b = true)
  kinds : t.wood.length ≤ 100
  start : okM t.start ∧ levM t.start ≤ 10
theorem gEq_str (a b : Str) : gEq (.str a) (.str b) = some (.bool (a == b)) := rfl
theorem nice_strs {l : List Str} (h : ∀ z ∈ l, PyData.strOk z = true) : Nice (.tuple (l.map PyData.str)) := by
  refine ⟨?_, ?_⟩
  · rw [PyData.canLay0]
    exact canAll_of _ fun d hd => by
      obtain ⟨z, hz, rfl⟩ := List.mem_map.mp hd
      rw [PyData.canLay0]; exact h z hz
  · rw [PyData.depth]
    have := depthAll_of (n := 0) (l.map PyData.str) fun d hd => by
      obtain ⟨z, hz, rfl⟩ := List.mem_map.mp hd
      simp [PyData.depth]
    omega
theorem bare_eq {r : Rw} (h : ∀ z ∈ r.br, PyData.strOk z = true) : gEq (.tuple (r.br.map PyData.str)) (.tuple []) = some (.bool r.br.isEmpty) := by
  have n0 : Nice (.tuple []) := nice_strs (l := []) (fun z hz => by cases hz)
  rw [gEq_nice (nice_strs h) n0]
  cases r.br with
  | nil => rfl
  | cons b bs => simp [PyData.eqv, PyData.eqvAll]
noncomputable section
abbrev rowsB : Ev → SR := (sIf (eB (eBin gEq (eVar 2) (eVar 1)) asB)
    (sRet (eM (eVar 3) Ow.d))
    sSkip)
theorem rows_loop (W0 : D) (k : Str) : ∀ (w : Wood) (x2 x3 : Option Ow), ∃ env', forL (gtTup 2 (gtCons (gtName 2) (gtCons (gtName 3) gtNil))) rowsB (w.map encKd) [some (.d W0), some (.d (.str k)), x2, x3] = if (w.any fun p => p.1 == k) then .rt (.d (.list ((rowsOf w k).map encRw))) env' else .nx env'
  | [], x2, x3 => ⟨[some (.d W0), some (.d (.str k)), x2, x3], by simp [forL]⟩
  | p :: w, x2, x3 => by
    have g : gtTup 2 (gtCons (gtName 2) (gtCons (gtName 3) gtNil)) (encKd p) [some (.d W0), some (.d (.str k)), x2, x3] = some [some (.d W0), some (.d (.str k)), some (.d (.str p.1)), some (.d (.list (p.2.map encRw)))] := rfl
    rw [List.map_cons, forL, g]
    cases c : p.1 == k with
    | true =>
      refine ⟨[some (.d W0), some (.d (.str k)), some (.d (.str p.1)), some (.d (.list (p.2.map encRw)))], ?_⟩
      have e : rowsB [some (.d W0), some (.d (.str k)), some (.d (.str p.1)), some (.d (.list (p.2.map encRw)))] = .rt (.d (.list (p.2.map encRw))) [some (.d W0), some (.d (.str k)), some (.d (.str p.1)), some (.d (.list (p.2.map encRw)))] := by
        generalize PyData.list (p.2.map encRw) = RS
        simp [gEq_str, c]
      simp only [e]
      rw [List.any_cons, c, rowsOf, c]
      rfl
    | false =>
      obtain ⟨env', ih⟩ := rows_loop W0 k w (some (.d (.str p.1))) (some (.d (.list (p.2.map encRw))))
      refine ⟨env', ?_⟩
      have e : rowsB [some (.d W0), some (.d (.str k)), some (.d (.str p.1)), some (.d (.list (p.2.map encRw)))] = .nx [some (.d W0), some (.d (.str k)), some (.d (.str p.1)), some (.d (.list (p.2.map encRw)))] := by
        generalize PyData.list (p.2.map encRw) = RS
        simp [gEq_str, c]
      simp only [e]
      rw [ih, List.any_cons, c, rowsOf, c]
      rfl
abbrev bRowsOf : Ev → SR := (sSeq (sFor (eB (eVar 0) itD) (gtTup 2 (gtCons (gtName 2) (gtCons (gtName 3) gtNil)))
    (sIf (eB (eBin gEq (eVar 2) (eVar 1)) asB)
    (sRet (eM (eVar 3) Ow.d))
    sSkip))
    (sRet (eLst aNil)))
/-- tells these rows, as data or as a list of its own -/
theorem rowsOf_fin (w : Wood) (k : Str) : ∃ o, finR (bRowsOf (envOf 2 [encWd w, .str k])) = .ok o ∧ viewD o = .list ((rowsOf w k).map encRw) := by
  have he : envOf 2 [encWd w, .str k] = [some (.d (encWd w)), some (.d (.str k)), none, none] := rfl
  rw [he]
  obtain ⟨env', lp⟩ := rows_loop (encWd w) k w none none
  have fo : (sFor (eB (eVar 0) itD) (gtTup 2 (gtCons (gtName 2) (gtCons (gtName 3) gtNil))) rowsB) [some (.d (encWd w)), some (.d (.str k)), none, none] = forL (gtTup 2 (gtCons (gtName 2) (gtCons (gtName 3) gtNil))) rowsB (w.map encKd) [some (.d (encWd w)), some (.d (.str k)), none, none] := by
    rw [sFor_eq]
    simp only [eB_eq, eVar_0, R.bind_ok]
    unfold encWd
    simp only [itD_list, R.st_ok]
  cases c : w.any fun p => p.1 == k with
  | true =>
    rw [c, if_pos rfl] at lp
    refine ⟨.d (.list ((rowsOf w k).map encRw)), ?_, viewD_d _⟩
    show finR (sSeq _ _ _) = _
    rw [sSeq_eq, fo, lp]
    rfl
  | false =>
    rw [c, if_neg (by decide)] at lp
    have e : rowsOf w k = [] := by
      have : ∀ w : Wood, (w.any fun p => p.1 == k) = false → rowsOf w k = [] := fun w => by
        induction w with
        | nil => intro _; rfl
        | cons p w ih =>
          intro h
          rw [List.any_cons, Bool.or_eq_false_iff] at h
          rw [rowsOf, h.1, ih h.2]
          rfl
      exact this w c
    refine ⟨.l [], ?_, by rw [e]; simp⟩
    show finR (sSeq _ _ _) = _
    rw [sSeq_eq, fo, lp]
    simp [sizeLine_eq]
section
variable (nm : Str) (kp : Bool) (ad : Int) (ps : List Trm) (m b : Int)
theorem m_ix0 : gIx (encM (.put nm kp ad ps)) (.int 0) = some (.str "put") := by rw [encM_put]; simp
theorem m_ix1 : gIx (encM (.put nm kp ad ps)) (.int 1) = some (.str nm) := by rw [encM_put]; simp
theorem m_ix4 : gIx (encM (.put nm kp ad ps)) (.int 4) = some (.tuple (ps.map encM)) := by rw [encM_put]; simp
theorem c_ix0 : gIx (encM (.call m b)) (.int 0) = some (.str "call") := by rw [encM_call]; simp
end
def stD (ss : List Stp) : D := .list (ss.map encS)
end
end Mir
set_option Elab.async false
set_option linter.all false
set_option maxRecDepth 100000
set_option maxHeartbeats 4000000
namespace Mir
open PySem PySem.Spec L2
theorem seq_nx {f g : Ev → SR} {env env1 : Ev} {r : SR} (h1 : f env = .nx env1) (h2 : g env1 = r) : sSeq f g env = r := by
  rw [sSeq_eq, h1]
  exact h2
noncomputable section
theorem bares_zip (w : Wood) (p : Str × List Trm) : bares (mdOf w p) = (((rowsOf w p.1).zip p.2).filter fun q => q.1.br.isEmpty).map (·.2) := by
  unfold bares mdOf
  show ((List.zipWith (fun (r : Rw) t => (r.br.isEmpty, t)) (rowsOf w p.1) p.2).filter (·.1)).map (·.2) = _
  generalize rowsOf w p.1 = rs
  generalize p.2 = ts
  induction rs generalizing ts with
  | nil => rfl
  | cons r rs ih =>
    cases ts with
    | nil => rfl
    | cons t ts =>
      rw [List.zipWith_cons_cons, List.zip_cons_cons]
      cases c : r.br.isEmpty with
      | true =>
        rw [List.filter_cons_of_pos (by simp [c]), List.filter_cons_of_pos (by simp [c]), List.map_cons, List.map_cons, ih ts]
      | false =>
        rw [List.filter_cons_of_neg (by simp [c]), List.filter_cons_of_neg (by simp [c]), ih ts]
/-- what the parts promise -/
structure Parts (t : Trn) (f1 f2 f3 : List D → R Ow) : Prop where
  rows : ∀ p ∈ t.modes, ∃ o, f1 [encWd t.wood, .str p.1] = .ok o ∧ viewD o = .list ((rowsOf t.wood p.1).map encRw)
  bare : ∀ p ∈ t.modes, ∀ r ∈ p.2, callsM r = [] → f2 [encM r, .list []] = .ok (.d (encS (stIn [] r)))
  stump : ∀ p ∈ t.modes, ∀ r ∈ p.2, ∀ ss : List Stp, ss.length = t.modes.length → f2 [encM r, stD ss] = .ok (.d (encS (stIn ss r)))
  met0 : ∀ p ∈ t.modes, f3 [stD ((bares (mdOf t.wood p)).map (stIn []))] = .ok (.d (encS (metOf ((bares (mdOf t.wood p)).map (stIn [])))))
  metN : ∀ p ∈ t.modes, ∀ n : Nat, f3 [stD (p.2.map (stIn (tab (mds t) n)))] = .ok (.d (encS (metOf (p.2.map (stIn (tab (mds t) n))))))
end
end Mir
set_option Elab.async false
set_option linter.all false
set_option maxRecDepth 100000
set_option maxHeartbeats 4000000
namespace Mir
open PySem PySem.Spec L2
mutual
theorem stIn_c : ∀ t : Trm, cS (stIn [] t) ≤ sizeM t
  | .call m b => by
    rw [stIn, sizeM]
    show cS .op ≤ 1
    rw [cS]; omega
  | .put nm kp ad ps => by
    rw [stIn, sizeM]
    cases kp with
    | true => show cS .op ≤ _; rw [cS]; omega
    | false =>
      show cS (.put nm ad _) ≤ _
      rw [cS]
      have := stIns_c ps
      omega
theorem stIns_c : ∀ ps : List Trm, cSs (stIns [] ps) ≤ sizeMs ps
  | [] => by rw [stIns, cSs]; omega
  | p :: ps => by
    rw [stIns, sizeMs, cSs]
    have := stIn_c p
    have := stIns_c ps
    omega
end
theorem bares_in {w : Wood} {p : Str × List Trm} : ∀ r ∈ bares (mdOf w p), r ∈ p.2 := fun r hr => by
  rw [bares_zip] at hr
  obtain ⟨q, hq, rfl⟩ := List.mem_map.mp hr
  exact (List.of_mem_zip (List.mem_filter.mp hq).1).2
theorem mds_ok {t : Trn} (ok : TnOk t) : ∀ m ∈ mds t, MdOk m := fun m hm => by
  obtain ⟨p, hp, rfl⟩ := List.mem_map.mp hm
  exact ok.bare p hp
theorem cSs_le {n : Nat} : ∀ {ss : List Stp}, (∀ s ∈ ss, cS s ≤ n) → cSs ss ≤ n * ss.length
  | [], _ => by rw [cSs]; omega
  | s :: ss, h => by
    rw [cSs, List.length_cons, Nat.mul_succ]
    have := h s List.mem_cons_self
    have := cSs_le (n := n) (ss := ss) fun x hx => h x (List.mem_cons_of_mem _ hx)
    omega
noncomputable section
end
end Mir
set_option Elab.async false
set_option linter.all false
set_option maxRecDepth 100000
set_option maxHeartbeats 4000000
namespace Mir
open PySem PySem.Spec L2
noncomputable section
def encCl (c : Int × Int) : D := .tuple [.int c.1, .int c.2]
def caD (cs : List (Int × Int)) : D := .list (cs.map encCl)
mutual
def thinM : Trm → Prop
  | .call _ _ => True
  | .put _ _ _ ps => ps.length ≤ 3 ∧ thinMs ps
def thinMs : List Trm → Prop
  | [] => True
  | p :: ps => thinM p ∧ thinMs ps
end
/-- two parts of one level less, or three of two levels less -/
def fitS : Nat → Trm → Prop
  | _, .call _ _ => True
  | 0, .put _ _ _ ps => ps = []
  | 1, .put _ _ _ ps => ps.length ≤ 3 ∧ ∀ p ∈ ps, fitS 0 p
  | n + 2, .put _ _ _ ps => (ps.length ≤ 2 ∧ ∀ p ∈ ps, fitS (n + 1) p) ∨ (ps.length ≤ 3 ∧ ∀ p ∈ ps, fitS n p)
theorem sizeMs_le' {n m : Nat} : ∀ {bs : List Trm}, bs.length ≤ n → (∀ b ∈ bs, sizeM b ≤ m) → sizeMs bs ≤ n * m
  | [], _, _ => by rw [sizeMs]; omega
  | b :: bs, hl, h => by
    rw [sizeMs]
    obtain ⟨k, rfl⟩ : ∃ k, n = k + 1 := ⟨n - 1, by simp at hl; omega⟩
    have := sizeMs_le' (n := k) (m := m) (bs := bs) (by simp at hl; omega) fun c hc => h c (List.mem_cons_of_mem _ hc)
    have := h b List.mem_cons_self
    rw [Nat.add_mul]
    omega
theorem fitS_0 {t : Trm} (h : fitS 0 t) : sizeM t ≤ 1 := by
  cases t with
  | call m b => rw [sizeM]; omega
  | put nm kp ad ps => rw [fitS] at h; rw [h, sizeM, sizeMs]; omega
theorem fitS_1 {t : Trm} (h : fitS 1 t) : sizeM t ≤ 4 := by
  cases t with
  | call m b => rw [sizeM]; omega
  | put nm kp ad ps =>
    rw [fitS] at h
    have := sizeMs_le' h.1 fun p hp => fitS_0 (h.2 p hp)
    rw [sizeM]
    omega
theorem fitS_2 {t : Trm} (h : fitS 2 t) : sizeM t ≤ 9 := by
  cases t with
  | call m b => rw [sizeM]; omega
  | put nm kp ad ps =>
    rw [fitS] at h
    rw [sizeM]
    rcases h with h | h
    · have := sizeMs_le' h.1 fun p hp => fitS_1 (h.2 p hp)
      omega
    · have := sizeMs_le' h.1 fun p hp => fitS_0 (h.2 p hp)
      omega
def TermIn (cs : List (Int × Int)) (n : Nat) (t : Trm) : Prop := okM t ∧ levM t ≤ n + 1 ∧ fitS n t ∧ (∀ c ∈ callsM t, c ∈ cs) ∧ thinM t
theorem sizeMs_le {n m : Nat} : ∀ {bs : List Trm}, bs.length ≤ n → (∀ b ∈ bs, sizeM b ≤ m) → sizeMs bs ≤ n * m
  | [], _, _ => by rw [sizeMs]; omega
  | b :: bs, hl, h => by
    rw [sizeMs]
    obtain ⟨k, rfl⟩ : ∃ k, n = k + 1 := ⟨n - 1, by simp at hl; omega⟩
    have := sizeMs_le (n := k) (m := m) (bs := bs) (by simp at hl; omega) fun c hc => h c (List.mem_cons_of_mem _ hc)
    have := h b List.mem_cons_self
    rw [Nat.succ_mul]
    omega
theorem levMs_of {n : Nat} : ∀ {bs : List Trm}, (∀ b ∈ bs, levM b ≤ n) → levMs bs ≤ n
  | [], _ => by rw [levMs]; omega
  | b :: bs, h => by
    rw [levMs]
    have := h b List.mem_cons_self
    have := levMs_of fun c hc => h c (List.mem_cons_of_mem _ hc)
    omega
end
end Mir
set_option Elab.async false
set_option linter.all false
set_option maxRecDepth 100000
set_option maxHeartbeats 4000000
namespace Mir
open PySem PySem.Spec L2
theorem perm_map_inv {α β : Type} {f : α → β} {ds es : List β} (h : ds.Perm es) : ∀ xs : List α, es = xs.map f → ∃ ys : List α, ys.Perm xs ∧ ds = ys.map f := by
  induction h with
  | nil => intro xs e; exact ⟨[], by cases xs with | nil => exact .refl _ | cons => simp at e, rfl⟩
  | cons x h ih =>
    intro xs e
    cases xs with
    | nil => simp at e
    | cons a xs =>
      rw [List.map_cons] at e
      injection e with e1 e2
      obtain ⟨ys, h1, h2⟩ := ih xs e2
      exact ⟨a :: ys, h1.cons a, by rw [e1, h2]; rfl⟩
  | swap x y l =>
    intro xs e
    match xs, e with
    | a :: b :: xs, e =>
      simp only [List.map_cons] at e
      injection e with e1 e2
      injection e2 with e2 e3
      exact ⟨b :: a :: xs, .swap a b xs, by rw [e1, e2, e3]; rfl⟩
    | [_], e => simp at e
    | [], e => simp at e
  | trans h1 h2 ih1 ih2 =>
    intro xs e
    obtain ⟨ys, a, b⟩ := ih2 xs e
    obtain ⟨zs, c, d⟩ := ih1 ys b
    exact ⟨zs, c.trans a, d⟩
theorem alike_strs : ∀ xs ys : List Str, PySem.W.alikeAll (xs.map PyData.str) (ys.map PyData.str) = true
  | [], ys => by cases ys <;> rfl
  | x :: xs, [] => rfl
  | x :: xs, y :: ys => by
    rw [List.map_cons, List.map_cons, PySem.W.alikeAll, alike_strs xs ys]
    rfl
theorem sorted_rows (rows : List Rw) : ∃ rows' : List Rw, rows'.Perm rows ∧ gSorted [.list (rows.map encRw)] = some (.l (rows'.map fun r => .d (encRw r))) := by
  obtain ⟨rows', h1, h2⟩ := perm_map_inv (List.mergeSort_perm (rows.map encRw) (PySem.W.dataLe false id)) rows rfl
  refine ⟨rows', h1, ?_⟩
  have ok : sortOk (rows.map encRw) = true := by
    unfold sortOk
    simp only [Bool.and_eq_true, Bool.or_eq_true, List.all_eq_true, decide_eq_true_eq, List.mem_map]
    refine ⟨⟨?_, .inl ?_⟩, ?_⟩
    · rintro d ⟨r, _, rfl⟩ e ⟨s, _, rfl⟩
      have := alike_strs r.br s.br
      simp [encRw, PySem.W.alike, PySem.W.alikeAll, this]
    · rintro d ⟨r, _, rfl⟩
      rfl
    · rintro d ⟨r, _, rfl⟩
      have := depthAll_of (n := 0) (r.br.map PyData.str) fun d hd => by
        obtain ⟨z, hz, rfl⟩ := List.mem_map.mp hd
        simp [PyData.depth]
      simp only [encRw, PyData.depth, PyData.depthAll]
      omega
  unfold gSorted
  have e : sortedD (rows.map encRw) = rows'.map encRw := h2
  simp only [ok, if_true, e, List.map_map]
  rfl
noncomputable section
def CallOk (ks bs : List Str) (c : Int × Int) : Prop := ∃ i j : Nat, c = ((i : Int), (j : Int)) ∧ ∃ z, ks[i]? = some z ∧ bs[j]? = some z
def caO (cs : List (Int × Int)) : Ow := .l (cs.map fun c => .d (encCl c))
mutual
def bareM : Trm → Trm
  | .call m b => .call m b
  | .put nm _ ad ps => .put nm false ad (bareMs ps)
def bareMs : List Trm → List Trm
  | [] => []
  | p :: ps => bareM p :: bareMs ps
end
end
end Mir
set_option Elab.async false
set_option linter.all false
set_option maxRecDepth 100000
set_option maxHeartbeats 4000000
namespace Mir
open PySem PySem.Spec L2
def RwOk (w : Nat) (kn : Nat → Str) (r : Rw) : Prop := PyData.strOk r.nm = true ∧ r.br.length ≤ 4 ∧ ∀ z ∈ r.br, ∃ j, j < w ∧ z = kn j
/-- the rows' names, in some order -/
def RwNm (kn : Nat → Str) (rs : List Rw) : Prop := ∃ b, b ≤ 12 ∧ (rs.map (·.nm)).Perm ((List.range rs.length).map fun j => kn (b + j))
structure WdOk (w : Wood) (kn : Nat → Str) : Prop where
  few : w.length ≤ 3
  one : 1 ≤ w.length
  nok : ∀ k, k < 900 → PyData.strOk (kn k) = true
  at_ : ∀ (k : Nat) p, w[k]? = some p → p.1 = kn k
  rows : ∀ p ∈ w, p.2.length ≤ 3 ∧ (∃ r ∈ p.2, r.br = []) ∧ ∀ r ∈ p.2, RwOk w.length kn r
  rnm : ∀ p ∈ w, RwNm kn p.2
noncomputable section
theorem rg1_nat (n : Nat) (h : n ≤ 100000) : rg1 [.int (n : Nat)] = .ok (rangeD 0 n) := by
  have : rg1 [.int (n : Nat)] = .ok (rangeD 0 ((n : Nat) : Int).toNat) := guard_ok (by omega)
  rw [this, Int.toNat_natCast]
theorem rangeD_map (n : Nat) : rangeD 0 n = (List.range n).map fun k : Nat => PyData.int (k : Nat) := by
  unfold rangeD
  exact List.map_congr_left fun k _ => by simp
section
variable {fd fn : List D → R Ow} {code : Int} {kn : Nat → Str}
end
end
end Mir
set_option Elab.async false
set_option linter.all false
set_option maxRecDepth 100000
set_option maxHeartbeats 4000000
namespace Mir
open PySem PySem.Spec L2
noncomputable section
theorem rowsOf_first : ∀ (w : Wood) (k : Str), (∃ p ∈ w, p.1 = k) → ∃ p, (w.filter fun p => p.1 == k)[0]? = some p ∧ p.2 = rowsOf w k ∧ p ∈ w
  | [], k, h => by obtain ⟨p, hp, _⟩ := h; cases hp
  | p :: w, k, h => by
    cases c : p.1 == k with
    | true =>
      refine ⟨p, by rw [List.filter_cons_of_pos (by simpa using c)]; rfl, by rw [rowsOf, c]; rfl, List.mem_cons_self⟩
    | false =>
      obtain ⟨q, hq, e⟩ := h
      have hq' : q ∈ w := by
        rcases List.mem_cons.mp hq with rfl | h
        · rw [e] at c; simp at c
        · exact h
      obtain ⟨r, h1, h2, h3⟩ := rowsOf_first w k ⟨q, hq', e⟩
      exact ⟨r, by rw [List.filter_cons_of_neg (by simp [c])]; exact h1, by rw [rowsOf, c]; exact h2, List.mem_cons_of_mem _ h3⟩
def RuleOk (ks bs : List Str) (t : Trm) : Prop := okM t ∧ levM t ≤ 3 ∧ sizeM t ≤ 9 ∧ ∀ c ∈ callsM t, CallOk ks bs c
structure TnMade (t : Trn) : Prop where
  few : t.modes.length ≤ 4
  one : 1 ≤ t.modes.length
  kind : ∀ p ∈ t.modes, ∃ q ∈ t.wood, q.1 = p.1
  rules : ∀ p ∈ t.modes, p.2.length = (rowsOf t.wood p.1).length ∧ ∀ (i : Nat) r u, (rowsOf t.wood p.1)[i]? = some r → p.2[i]? = some u → RuleOk (t.modes.map (·.1)) r.br u
  start : okM t.start ∧ levM t.start ≤ 3
/-- what the parts of the drawing promise -/
structure Gens (fd ft fl fru fca fb : List D → R Ow) (code : Int) (w : Wood) : Prop where
  dr : Draws fd
  term : ∀ (cs : List (Int × Int)) (n : Nat), n ≤ 2 → ∀ dk, ∃ t dk', TermIn cs n t ∧ ft (dkD dk :: [.int code, caD cs, .int (n : Nat)]) = tells (encM t) dk'
  rows : ∀ k, (∃ p ∈ w, p.1 = k) → fl [encWd w, .str k] = .ok (.d (.list ((rowsOf w k).map encRw)))
  rule : ∀ (cs : List (Int × Int)) (base : Trm), TermIn [] 2 base → ∀ dk, ∃ t dk', TermIn cs 2 t ∧ fru (dkD dk :: [.int code, encM base, caD cs]) = tells (encM t) dk'
  callsT : ∀ ks bs : List Str, ks.length ≤ 100 → bs.length ≤ 100 → ∃ cs, fca [.list (ks.map PyData.str), .tuple (bs.map PyData.str)] = .ok (caO cs) ∧ ∀ c ∈ cs, CallOk ks bs c
  callsL : ∀ ks bs : List Str, ks.length ≤ 100 → bs.length ≤ 100 → ∃ cs, fca [.list (ks.map PyData.str), .list (bs.map PyData.str)] = .ok (caO cs) ∧ ∀ c ∈ cs, CallOk ks bs c
  bare : ∀ t, okM t → levM t ≤ 10 → fb [encM t] = .ok (.d (encM (bareM t)))
section
variable {fd ft fl fru fca fb : List D → R Ow} {code : Int} {w : Wood}
theorem TermIn.rule {ks bs : List Str} {cs : List (Int × Int)} {t : Trm} (h : TermIn cs 2 t) (hc : ∀ c ∈ cs, CallOk ks bs c) : RuleOk ks bs t := ⟨h.1, by have := h.2.1; omega, fitS_2 h.2.2.1, fun c hcc => hc c (h.2.2.2.1 c hcc)⟩
theorem rowsOf_mem {w : Wood} {k : Str} (hk : ∃ p ∈ w, p.1 = k) : ∃ p ∈ w, p.2 = rowsOf w k := by
  obtain ⟨p, _, h2, h3⟩ := rowsOf_first w k hk
  exact ⟨p, h3, h2⟩
end
end
end Mir
set_option Elab.async false
set_option linter.all false
set_option maxRecDepth 100000
set_option maxHeartbeats 4000000
namespace Mir
open PySem PySem.Spec L2
theorem rowsOf_in {w : Wood} {k : Str} : ∀ r ∈ rowsOf w k, ∃ p ∈ w, r ∈ p.2 := by
  induction w with
  | nil => intro r h; cases h
  | cons p w ih =>
    intro r h
    rw [rowsOf] at h
    cases c : p.1 == k with
    | true => rw [c] at h; exact ⟨p, List.mem_cons_self, h⟩
    | false =>
      rw [c] at h
      obtain ⟨q, h1, h2⟩ := ih r h
      exact ⟨q, List.mem_cons_of_mem _ h1, h2⟩
theorem TnMade.ok {t : Trn} {kn : Nat → Str} (m : TnMade t) (hw : WdOk t.wood kn) : TnOk t := by
  have kl : (t.modes.map (·.1)).length = t.modes.length := List.length_map _
  have each : ∀ p ∈ t.modes, ∀ u ∈ p.2, ∃ r ∈ rowsOf t.wood p.1, RuleOk (t.modes.map (·.1)) r.br u := fun p hp u hu => by
    obtain ⟨i, hi, e⟩ := List.mem_iff_getElem.mp hu
    obtain ⟨h1, h2⟩ := m.rules p hp
    have hi' : i < (rowsOf t.wood p.1).length := by omega
    exact ⟨_, List.getElem_mem hi', h2 i _ u (List.getElem?_eq_getElem hi') (by rw [List.getElem?_eq_getElem hi, e])⟩
  have rl : ∀ p ∈ t.modes, (rowsOf t.wood p.1).length ≤ 3 ∧ ∃ r ∈ rowsOf t.wood p.1, r.br = [] := fun p hp => by
    obtain ⟨q, q1, q2⟩ := rowsOf_mem (m.kind p hp)
    obtain ⟨a, b, _⟩ := hw.rows q q1
    rw [q2] at a b
    exact ⟨a, b⟩
  have wl := hw.few
  refine ⟨by have := m.few; omega, m.one, fun p hp => ⟨(m.rules p hp).1, by have := (m.rules p hp).1; have := (rl p hp).1; omega⟩, fun p hp => ?_, fun p hp u hu => ?_, fun p hp => ?_, by omega, m.start.1, by have := m.start.2; omega⟩
  · -- bare rows
    obtain ⟨h1, h2⟩ := m.rules p hp
    constructor
    · rw [bares_zip]
      obtain ⟨_, r, hr, hb⟩ := rl p hp
      obtain ⟨i, hi, e⟩ := List.mem_iff_getElem.mp hr
      intro z
      have z2 : ((rowsOf t.wood p.1).zip p.2).filter (fun q => q.1.br.isEmpty) = [] := by simpa using z
      have hm : (r, p.2[i]'(by omega)) ∈ ((rowsOf t.wood p.1).zip p.2).filter (fun q => q.1.br.isEmpty) := by
        refine List.mem_filter.mpr ⟨?_, by show r.br.isEmpty = true; rw [hb]; rfl⟩
        refine List.mem_iff_getElem.mpr ⟨i, by rw [List.length_zip]; omega, ?_⟩
        rw [List.getElem_zip, e]
      rw [z2] at hm
      cases hm
    · intro u hu
      rw [bares_zip] at hu
      obtain ⟨q, hq, rfl⟩ := List.mem_map.mp hu
      obtain ⟨q1, q2⟩ := List.mem_filter.mp hq
      obtain ⟨i, hi, e⟩ := List.mem_iff_getElem.mp q1
      rw [List.length_zip] at hi
      rw [List.getElem_zip] at e
      have ok := h2 i q.1 q.2 (by rw [List.getElem?_eq_getElem (by omega), ← e]) (by rw [List.getElem?_eq_getElem (by omega), ← e])
      have bn : q.1.br = [] := by simpa using q2
      cases hc : callsM q.2 with
      | nil => rfl
      | cons c cs =>
        obtain ⟨i, j, _, z, _, hz⟩ := ok.2.2.2 c (by rw [hc]; exact List.mem_cons_self)
        rw [bn] at hz
        simp at hz
  · obtain ⟨r, _, o1, o2, o3, o4⟩ := each p hp u hu
    refine ⟨o1, by omega, by omega, fun c hc => ?_⟩
    obtain ⟨i, j, e, z, hz, _⟩ := o4 c hc
    have := (List.getElem?_eq_some_iff.mp hz).1
    rw [e]
    constructor
    · show (0 : Int) ≤ (i : Int)
      omega
    · show (i : Int) < _
      omega
  · obtain ⟨i, hi, e⟩ := List.mem_iff_getElem.mp hp
    have en := hw.at_ i p (by rw [List.getElem?_eq_getElem hi, e])
    obtain ⟨a, _, c⟩ := hw.rows p hp
    refine ⟨by rw [en]; exact hw.nok i (by omega), by omega, fun r hr => ?_⟩
    obtain ⟨d1, d2, d3⟩ := c r hr
    refine ⟨d1, by omega, fun z hz => ?_⟩
    obtain ⟨j, hj, ez⟩ := d3 z hz
    rw [ez]
    exact hw.nok j (by omega)
noncomputable section
end
end Mir
set_option Elab.async false
set_option linter.all false
set_option maxRecDepth 100000
set_option maxHeartbeats 4000000
namespace Mir
open PySem PySem.Spec L2
noncomputable section
def pick (t : Trn) (wants : Rw → Bool) (g : Trm → Stp) (p : Str × List Trm) : List Stp := (((rowsOf t.wood p.1).zip p.2).filter fun q => wants q.1).map fun q => g q.2
end
end Mir
set_option Elab.async false
set_option linter.all false
set_option maxRecDepth 100000
set_option maxHeartbeats 4000000
namespace Mir
open PySem PySem.Spec L2
def orRt : Option Ow → Ev → SR
  | none, e => .nx e
  | some o, e => .rt o e
theorem forL_first {α : Type} {g : D → Ev → Option Ev} {f : Ev → SR} (enc : α → D) (Q : α → Option Ow) (I : Ev → Prop) : ∀ (xs : List α) (step : ∀ a ∈ xs, ∀ env, I env → ∃ env1, g (enc a) env = some env1 ∧ ∃ env2, I env2 ∧ f env1 = orRt (Q a) env2) (env : Ev), I env → ∃ env', I env' ∧ forL g f (xs.map enc) env = orRt (xs.findSome? Q) env'
  | [], _, env, h => ⟨env, h, rfl⟩
  | a :: xs, st, env, h => by
    obtain ⟨env1, g1, env2, h2, f2⟩ := st a List.mem_cons_self env h
    rw [List.map_cons, forL, g1, List.findSome?_cons]
    simp only [f2]
    cases q : Q a with
    | none => exact forL_first enc Q I xs (fun b hb => st b (List.mem_cons_of_mem _ hb)) env2 h2
    | some o => exact ⟨env2, h2, rfl⟩
def noF (b : Bool) : Option Ow := if b then none else some (.d (.bool false))
theorem find_noF {α : Type} (P : α → Bool) : ∀ xs : List α, xs.findSome? (fun a => noF (P a)) = noF (xs.all P)
  | [] => rfl
  | a :: xs => by
    rw [List.findSome?_cons, List.all_cons, find_noF P xs]
    cases P a <;> rfl
theorem noF_t : noF true = none := rfl
theorem noF_f : noF false = some (.d (.bool false)) := rfl
def moD (ms : List (Str × List Trm)) : D := .list (ms.map encMo)
noncomputable section
theorem nice_list {ds : List D} {n : Nat} (h : ∀ d ∈ ds, d.canLay0 = true ∧ d.depth ≤ n) (hn : n ≤ 129) : Nice (.list ds) := by
  refine ⟨?_, ?_⟩
  · rw [PyData.canLay0]
    exact canAll_of _ fun d hd => (h d hd).1
  · rw [PyData.depth]
    have := depthAll_of (n := n) ds fun d hd => (h d hd).2
    omega
theorem nice_tuple {ds : List D} {n : Nat} (h : ∀ d ∈ ds, d.canLay0 = true ∧ d.depth ≤ n) (hn : n ≤ 129) : Nice (.tuple ds) := by
  refine ⟨?_, ?_⟩
  · rw [PyData.canLay0]
    exact canAll_of _ fun d hd => (h d hd).1
  · rw [PyData.depth]
    have := depthAll_of (n := n) ds fun d hd => (h d hd).2
    omega
theorem ne_nil {ds : List D} (h : Nice (.list ds)) : gNe (.list ds) (.list []) = some (.bool (!ds.isEmpty)) := by
  have n0 : Nice (.list []) := nice_list (n := 0) (fun d hd => by cases hd) (by omega)
  rw [gNe_nice h n0]
  cases ds with
  | nil => rfl
  | cons d ds => simp [PyData.eqv, PyData.eqvAll]
theorem lcR_filt {α : Type} {g : D → Ev → Option Ev} {c : Ev → R Bool} {e : Ev → R Ow} {env : Ev} (enc : α → D) (P : α → Bool) (h : α → Ow) : ∀ xs : List α, (∀ a ∈ xs, ∃ env1, g (enc a) env = some env1 ∧ c env1 = .ok (P a) ∧ (P a = true → e env1 = .ok (h a))) → lcR g c e env (xs.map enc) = .ok ((xs.filter P).map h)
  | [], _ => rfl
  | d :: ds, q => by
    obtain ⟨env1, q1, q2, q3⟩ := q d List.mem_cons_self
    have ih := lcR_filt (g := g) (c := c) (e := e) (env := env) enc P h ds fun d hd => q d (List.mem_cons_of_mem _ hd)
    rw [List.map_cons]
    unfold lcR
    rw [q1]
    simp only [q2, noEx_ok, R.bind_ok]
    cases hp : P d with
    | true =>
      rw [List.filter_cons_of_pos hp]
      simp only [if_true, q3 hp, noEx_ok, R.bind_ok, ih]
      rfl
    | false =>
      rw [List.filter_cons_of_neg (by rw [hp]; exact Bool.false_ne_true)]
      simp only [Bool.false_eq_true, if_false, ih]
def brD (bs : List Str) : D := .tuple (bs.map PyData.str)
theorem br_len (bs : List Str) : gLen [brD bs] = some (.d (.int (bs.length : Nat))) := by
  have : gLen [brD bs] = some (Ow.d (.int (bs.map PyData.str).length)) := rfl
  rw [this, List.length_map]
theorem br_ix {bs : List Str} {k : Nat} {z : Str} (h : bs[k]? = some z) : gIx (brD bs) (.int (k : Nat)) = some (.str z) := by
  show atI (bs.map PyData.str) _ = _
  exact atI_natD (by rw [List.getElem?_map, h]; rfl)
theorem sizeMs_app : ∀ a b : List Trm, sizeMs (a ++ b) = sizeMs a + sizeMs b
  | [], b => by rw [sizeMs]; simp
  | p :: a, b => by rw [List.cons_append, sizeMs, sizeMs, sizeMs_app a b]; omega
end
end Mir
set_option Elab.async false
set_option linter.all false
set_option maxRecDepth 100000
set_option maxHeartbeats 4000000
namespace Mir
open PySem PySem.Spec L2
noncomputable section
def rwsD (rs : List Rw) : D := .list (rs.map encRw)
def trsD (ts : List Trm) : D := .list (ts.map encM)
theorem rws_len (rs : List Rw) : gLen [rwsD rs] = some (.d (.int (rs.length : Nat))) := by
  have : gLen [rwsD rs] = some (Ow.d (.int (rs.map encRw).length)) := rfl
  rw [this, List.length_map]
theorem wd_ix0 {w : Wood} {p : Str × List Rw} (h : w[0]? = some p) : gIx (encWd w) (.int 0) = some (encKd p) := by
  show atI (w.map encKd) _ = _
  exact atI_natD (k := 0) (by rw [List.getElem?_map, h]; rfl)
theorem kd_ix0 (p : Str × List Rw) : gIx (encKd p) (.int 0) = some (.str p.1) := by unfold encKd; simp
structure SndOk (w : Wood) (s : Trm) (ms : List (Str × List Trm)) : Prop where
  kinds : ∀ p ∈ w, PyData.strOk p.1 = true
  few : w.length ≤ 100
  dist : (w.map (·.1)).Nodup
  mkinds : ∀ p ∈ ms, PyData.strOk p.1 = true
theorem encMo_tup (p : Str × List Trm) : encMo p = .tuple [.str p.1, trsD p.2] := rfl
theorem encKd_tup (p : Str × List Rw) : encKd p = .tuple [.str p.1, rwsD p.2] := rfl
def prsOf (w : Wood) : List (Str × D) := w.map fun p => (p.1, rwsD p.2)
theorem asPairs_wd (w : Wood) : asPairs (encWd w) = some (prsOf w) := pairsD_map (fun p : Str × List Rw => p.1) (fun p => rwsD p.2) w
theorem lastP_none : ∀ {w : Wood} {k : Str}, (∀ p ∈ w, p.1 ≠ k) → lastP (prsOf w) k = none
  | [], k, _ => rfl
  | p :: w, k, h => by
    show (lastP (prsOf w) k).or (if p.1 = k then some (rwsD p.2) else none) = none
    rw [lastP_none fun q hq => h q (List.mem_cons_of_mem _ hq), if_neg (h p List.mem_cons_self)]
    rfl
theorem lastP_wd : ∀ {w : Wood} {k : Str}, (w.map (·.1)).Nodup → lastP (prsOf w) k = if (w.any fun q => q.1 == k) = true then some (rwsD (rowsOf w k)) else none
  | [], k, _ => rfl
  | p :: w, k, h => by
    rw [List.map_cons, List.nodup_cons] at h
    show (lastP (prsOf w) k).or (if p.1 = k then some (rwsD p.2) else none) = _
    rw [List.any_cons, rowsOf]
    by_cases c : p.1 = k
    · have : (p.1 == k) = true := by simpa using c
      rw [this, cond_true, Bool.true_or, if_pos rfl, if_pos c, lastP_none fun q hq z => h.1 (by rw [c, ← z]; exact List.mem_map_of_mem hq)]
      rfl
    · have : (p.1 == k) = false := by simpa using c
      rw [this, cond_false, Bool.false_or, if_neg c, lastP_wd h.2, Option.or_none]
def numOf : List Rw → Str → Nat → Option Nat
  | [], _, _ => none
  | r :: rs, nm, k => if r.nm == nm then some k else numOf rs nm (k + 1)
end
end Mir
set_option Elab.async false
set_option linter.all false
set_option maxRecDepth 100000
set_option maxHeartbeats 4000000
namespace Mir
open PySem PySem.Spec L2
section
variable (S : Trm) (R : Nat → List Trm) (n : Nat)
/-- to the mode lead calls -/
inductive Reach : Int → Prop
  | start {c : Int × Int} : c ∈ callsM S → Reach c.1
  | step {m : Nat} {t : Trm} {c : Int × Int} : Reach (m : Int) → t ∈ R m → c ∈ callsM t → Reach c.1
/-- calls by modes that there are -/
structure Calls : Prop where
  start : ∀ c ∈ callsM S, 0 ≤ c.1 ∧ c.1 < n
  step : ∀ (m : Nat), m < n → ∀ t ∈ R m, ∀ c ∈ callsM t, 0 ≤ c.1 ∧ c.1 < n
/-- found so far; calls still to look at: those of the terms on the stack, and cs -/
structure RInv (l : List Int) (st : List Trm) (cs : List (Int × Int)) : Prop where
  nd : l.Nodup
  rch : ∀ i ∈ l, Reach S R i
  src : ∀ t ∈ st, ∀ c ∈ callsM t, Reach S R c.1
  csr : ∀ c ∈ cs, Reach S R c.1
  s0 : S ∈ st ∨ ∀ c ∈ callsM S, c.1 ∈ l ∨ c ∈ cs
  sm : ∀ m : Nat, (m : Int) ∈ l → ∀ t ∈ R m, t ∈ st ∨ ∀ c ∈ callsM t, c.1 ∈ l ∨ c ∈ cs
variable {S R n}
theorem RInv.pop {l : List Int} {st : List Trm} {t : Trm} (h : RInv S R l (st ++ [t]) []) : RInv S R l st (callsM t) := by
  have hc : ∀ u : Trm, (u ∈ st ++ [t] ∨ ∀ c ∈ callsM u, c.1 ∈ l ∨ c ∈ ([] : List (Int × Int))) → u ∈ st ∨ ∀ c ∈ callsM u, c.1 ∈ l ∨ c ∈ callsM t := fun u hu => by
    rcases hu with hu | hu
    · rcases List.mem_append.mp hu with hu | hu
      · exact .inl hu
      · rw [List.mem_singleton.mp hu]
        exact .inr fun c hc => .inr hc
    · refine .inr fun c hc => ?_
      rcases hu c hc with h | h
      · exact .inl h
      · cases h
  exact ⟨h.nd, h.rch, fun u hu => h.src u (List.mem_append_left _ hu), h.src t (List.mem_append_right _ (List.mem_singleton.mpr rfl)), hc S h.s0, fun m hm u hu => hc u (h.sm m hm u hu)⟩
theorem RInv.done {l : List Int} (h : RInv S R l [] []) (hn : Calls S R n) (i : Int) : i ∈ l ↔ Reach S R i := by
  refine ⟨h.rch i, fun r => ?_⟩
  induction r with
  | @start c hc =>
    rcases h.s0 with q | q
    · cases q
    · rcases q c hc with q | q
      · exact q
      · cases q
  | @step m t c hm ht hc ih =>
    rcases h.sm m ih t ht with q | q
    · cases q
    · rcases q c hc with q | q
      · exact q
      · cases q
end
noncomputable section
def rulesAt (ms : List (Str × List Trm)) (k : Nat) : List Trm := match ms[k]? with
  | some p => p.2
  | none => []
section
variable {t : Trn} {B : Nat} (hB : ∀ p ∈ t.modes, p.2.length ≤ B) (hc : Calls t.start (rulesAt t.modes) t.modes.length) (hm : t.modes.length + (B * t.modes.length + 1) ≤ 10000)
include hB hc hm
variable {f0 : List D → R Ow} (hf : ∀ u, (u = t.start ∨ ∃ p ∈ t.modes, u ∈ p.2) → f0 [encM u] = .ok (encCs (callsM u)) ∧ Nice (encM u) ∧ (encM u).depth ≤ 100)
include hf
end
end
end Mir
set_option Elab.async false
set_option linter.all false
set_option maxRecDepth 100000
set_option maxHeartbeats 4000000
namespace Mir
open PySem PySem.Spec L2
def scD (ns : List Int) : PyData := .list (ns.map PyData.int)
theorem sc_len (ns : List Int) : gLen [scD ns] = some (.d (.int (ns.length : Nat))) := by
  have : gLen [scD ns] = some (Ow.d (.int (ns.map PyData.int).length)) := rfl
  rw [this, List.length_map]
theorem sc_ix {ns : List Int} {k : Nat} {z : Int} (h : ns[k]? = some z) : gIx (scD ns) (.int (k : Nat)) = some (.int z) := by
  show atI (ns.map PyData.int) _ = _
  exact atI_natD (by rw [List.getElem?_map, h]; rfl)
noncomputable section
abbrev bCell : Ev → SR := (sSeq (sIf (eB (eBin gLt (eVar 1) (eM (eCa gLen (aCons (eVar 0) aNil)) viewD)) asB)
    (sRet (eM (eBin gIx (eVar 0) (eVar 1)) Ow.d))
    sSkip)
    (sRet (eM (eC (.int 0)) Ow.d)))
def scCell (ns : List Int) (k : Nat) : Int := ns.getD k 0
theorem cell_fin (ns : List Int) (k : Nat) : finR (bCell (envOf 0 [scD ns, .int (k : Nat)])) = .ok (.d (.int (scCell ns k))) := by
  have hl := sc_len ns
  unfold scCell
  rw [List.getD_eq_getElem?_getD]
  by_cases h : k < ns.length
  · have ix := sc_ix (List.getElem?_eq_getElem h)
    have h' : (k : Int) < (ns.length : Nat) := by omega
    rw [List.getElem?_eq_getElem h]
    generalize scD ns = S at hl ix
    have he : envOf 0 [S, .int (k : Nat)] = [some (.d S), some (.d (.int (k : Nat)))] := rfl
    rw [he]
    simp [hl, ix, h, h']
  · have h' : ¬ (k : Int) < (ns.length : Nat) := by omega
    rw [List.getElem?_eq_none (by omega)]
    generalize scD ns = S at hl
    have he : envOf 0 [S, .int (k : Nat)] = [some (.d S), some (.d (.int (k : Nat)))] := rfl
    rw [he]
    simp [hl, h, h']
theorem vw_ls (ds : List PyData) : viewD (.l (ds.map Ow.d)) = .list ds := by rw [viewD_l, viewAll_mapd]
theorem shl3 (a b c : PyData) : shD (.l [.d a, .d b, .d c]) = .ok (.list [a, b, c]) := shD_l [a, b, c]
end
end Mir
set_option Elab.async false
set_option linter.all false
set_option maxRecDepth 100000
set_option maxHeartbeats 4000000
namespace Mir
open PySem PySem.Spec L2
def brOf : List Rw → Str → Option (List Str)
  | [], _ => none
  | r :: rs, nm => if r.nm == nm then some r.br else brOf rs nm
def obD : Option (List Str) → D
  | none => .none
  | some bs => brD bs
mutual
def isOf (w : Wood) : Tr → Str → Bool
  | .mk nm _ bs, k => match brOf (rowsOf w k) nm with
    | none => false
    | some ks => decide (ks.length = bs.length) && isOfs w bs ks
def isOfs (w : Wood) : List Tr → List Str → Bool
  | [], _ => true
  | _ :: _, [] => true
  | b :: bs, k :: ks => isOf w b k && isOfs w bs ks
end
theorem isOf_mk (w : Wood) (nm : Str) (mk : Int) (bs : List Tr) (k : Str) : isOf w (.mk nm mk bs) k = match brOf (rowsOf w k) nm with
    | none => false
    | some ks => decide (ks.length = bs.length) && isOfs w bs ks := by rw [isOf]
noncomputable section
abbrev bRowOf (f1 : List D → R Ow) : Ev → SR := (sSeq (sFor (eB (eM (eB (aCons (eVar 0) (aCons (eVar 1) aNil)) f1) viewD) itD) (gtTup 2 (gtCons (gtName 3) (gtCons (gtName 4) gtNil)))
    (sIf (eB (eBin gEq (eVar 3) (eVar 2)) asB)
    (sRet (eM (eVar 4) Ow.d))
    sSkip))
    (sRet (eM (eC .none) Ow.d)))
theorem brOf_find (nm : Str) : ∀ rs : List Rw, (rs.findSome? fun r => if r.nm == nm then some (Ow.d (brD r.br)) else none) = (brOf rs nm).map fun b => Ow.d (brD b)
  | [] => rfl
  | r :: rs => by
    rw [List.findSome?_cons, brOf]
    cases r.nm == nm with
    | true => rfl
    | false => exact brOf_find nm rs
theorem rowOf_fin {w : Wood} {f1 : List D → R Ow} (k nm : Str) (h1 : ∃ o, f1 [encWd w, .str k] = .ok o ∧ viewD o = rwsD (rowsOf w k)) : finR (bRowOf f1 (envOf 2 [encWd w, .str k, .str nm])) = .ok (.d (obD (brOf (rowsOf w k) nm))) := by
  have he : envOf 2 [encWd w, .str k, .str nm] = [some (.d (encWd w)), some (.d (.str k)), some (.d (.str nm)), none, none] := rfl
  rw [he]
  obtain ⟨o, o1, o2⟩ := h1
  obtain ⟨env', ⟨x3, x4, rfl⟩, lp⟩ := forL_first (g := gtTup 2 (gtCons (gtName 3) (gtCons (gtName 4) gtNil))) (f := sIf (eB (eBin gEq (eVar 3) (eVar 2)) asB)
    (sRet (eM (eVar 4) Ow.d))
    sSkip) encRw (fun r => if r.nm == nm then some (Ow.d (brD r.br)) else none) (fun env => ∃ x3 x4, env = [some (.d (encWd w)), some (.d (.str k)), some (.d (.str nm)), x3, x4]) (rowsOf w k) (fun r _ env ⟨x3, x4, e⟩ => by
      subst e
      refine ⟨[some (.d (encWd w)), some (.d (.str k)), some (.d (.str nm)), some (.d (.str r.nm)), some (.d (brD r.br))], rfl, [some (.d (encWd w)), some (.d (.str k)), some (.d (.str nm)), some (.d (.str r.nm)), some (.d (brD r.br))], ⟨_, _, rfl⟩, ?_⟩
      generalize brD r.br = B
      generalize encWd w = W
      cases c : r.nm == nm <;> simp [gEq_str, c, orRt]) [some (.d (encWd w)), some (.d (.str k)), some (.d (.str nm)), none, none] ⟨none, none, rfl⟩
  rw [brOf_find] at lp
  show finR (sSeq _ _ _) = _
  rw [sSeq_eq, sFor_eq]
  have e3 : (eB (eM (eB (aCons (eVar 0) (aCons (eVar 1) aNil)) f1) viewD) itD) [some (.d (encWd w)), some (.d (.str k)), some (.d (.str nm)), none, none] = .ok ((rowsOf w k).map encRw) := by
    have : itD (rwsD (rowsOf w k)) = .ok ((rowsOf w k).map encRw) := rfl
    generalize rwsD (rowsOf w k) = RS at this o2
    simp [o1, o2, this]
  rw [e3, R.st_ok, lp]
  cases brOf (rowsOf w k) nm with
  | none => simp [orRt, obD]
  | some i => simp [orRt, obD]
theorem tup_len (l : List D) : gLen [.tuple l] = some (.d (.int (l.length : Nat))) := rfl
def mkOf (kp : Bool) (ad mk : Int) : Int := if kp then ad + mk else ad
end
end Mir
set_option Elab.async false
set_option linter.all false
set_option maxRecDepth 100000
set_option maxHeartbeats 4000000
namespace Mir
open PySem PySem.Spec L2
def onStep (i : Int) (l : List Int) (c : Int × Int) : List Int := if c.2 = i ∧ c.1 ∉ l then l ++ [c.1] else l
def onAll (i : Int) (cs : List (Int × Int)) (l : List Int) : List Int := cs.foldl (onStep i) l
def risen (l : List Int) : List Int := l.mergeSort fun a b => decide (a ≤ b)
noncomputable section
/-- the modes in which terms call a branch, rising -/
def modesOn (i : Int) (Ts : List Trm) : List Int := risen (onAll i (callsMs Ts) [])
end
def trNm : Tr → Str
  | .mk n _ _ => n
def trBs : Tr → List Tr
  | .mk _ _ bs => bs
def noTm : Trm := .call 0 0
def noTr : Tr := .mk "" 0 []
/-- the rule of a mode for a name -/
def ruleT (t : Trn) (m : Int) (nm : Str) : Option Trm := match t.modes[m.toNat]? with
  | none => none
  | some p => match numOf (rowsOf t.wood p.1) nm 0 with
    | none => none
    | some i => p.2[i]?
def ruleF (t : Trn) (m : Int) (nm : Str) : Trm := (ruleT t m nm).getD noTm
mutual
def madB (mk : Int) (fs : List (Int → Tr)) : Trm → Tr
  | .call m b => (fs.getD b.toNat fun _ => noTr) m
  | .put nm kp ad ps => .mk nm (mkOf kp ad mk) (madBs mk fs ps)
def madBs (mk : Int) (fs : List (Int → Tr)) : List Trm → List Tr
  | [] => []
  | p :: ps => madB mk fs p :: madBs mk fs ps
end
mutual
def madT (t : Trn) : Tr → Trm → Tr
  | .mk _ mk bs => madB mk (madTs t bs)
def madTs (t : Trn) : List Tr → List (Int → Tr)
  | [] => []
  | b :: bs => (fun m => madT t b (ruleF t m (trNm b))) :: madTs t bs
end
/-- size and levels -/
def mesD (o : Tr) : D := .tuple [.int (sizeT o : Nat), .int (levT o : Nat)]
noncomputable section
end
end Mir
set_option Elab.async false
set_option linter.all false
set_option maxRecDepth 100000
set_option maxHeartbeats 4000000
namespace Mir
open PySem PySem.Spec L2
/-- the calls of a term fit branches of these kinds -/
def FitT (t : Trn) (ks : List Str) (T : Trm) : Prop := ∀ c ∈ callsM T, 0 ≤ c.1 ∧ 0 ≤ c.2 ∧ ∃ p, t.modes[c.1.toNat]? = some p ∧ ks[c.2.toNat]? = some p.1
structure GoodM (B : Nat) (T : Trm) : Prop where
  ok : okM T
  lev : levM T ≤ B
  few : sizeM T ≤ 1000
structure SndT (t : Trn) (B : Nat) : Prop where
  few : t.modes.length ≤ 1000
  wide : ∀ k nm ks, brOf (rowsOf t.wood k) nm = some ks → ks.length ≤ 1000
  lens : ∀ p ∈ t.modes, p.2.length = (rowsOf t.wood p.1).length
  fits : ∀ p ∈ t.modes, ∀ (i : Nat) (row : Rw) (T : Trm), (rowsOf t.wood p.1)[i]? = some row → p.2[i]? = some T → FitT t row.br T ∧ GoodM B T
theorem sizeMs_memM : ∀ {ps : List Trm} {p : Trm}, p ∈ ps → sizeM p ≤ sizeMs ps
  | q :: ps, p, h => by
    rw [sizeMs]
    rcases List.mem_cons.mp h with rfl | h
    · omega
    · have := sizeMs_memM h
      omega
/-- what below_of tells -/
def prsB (t : Trn) (Ts : List Trm) (i : Nat) (b : Tr) : List (D × D) := (modesOn (i : Int) Ts).map fun m => (PyData.int m, mesD (madT t b (ruleF t m (trNm b))))
def belL (t : Trn) (Ts : List Trm) : Nat → List Tr → List D
  | _, [] => []
  | i, b :: bs => .dict (prsB t Ts i b) :: belL t Ts (i + 1) bs
noncomputable section
end
end Mir
set_option Elab.async false
set_option linter.all false
set_option maxRecDepth 100000
set_option maxHeartbeats 4000000
namespace Mir
open PySem PySem.Spec L2
noncomputable section
@[simp] theorem R.map_exc {α β : Type} (f : α → β) (c : Str) : R.map f (.ex c) = .ex c := rfl
@[simp] theorem R.bind_exc {α β : Type} (f : α → R β) (c : Str) : R.bind (.ex c) f = .ex c := rfl
@[simp] theorem R.st_exc {α : Type} (env : Ev) (f : α → SR) (c : Str) : (R.ex c : R α).st env f = .ex c env := rfl
@[simp] theorem andThen_exc (c : Str) (env : Ev) (g : Ev → SR) : (SR.ex c env).andThen g = .ex c env := rfl
@[simp] theorem finR_exc (c : Str) (env : Ev) : finR (.ex c env) = .ex c := rfl
/-- what the walk of a branch needs -/
structure BrOk (t : Trn) (Ts : List Trm) (f5 f9 f10 f11 : List D → R Ow) (j : Nat) (b : Tr) : Prop where
  few : (modesOn (j : Int) Ts).length ≤ 1000
  h9 : f9 [trsD Ts, .int (j : Nat)] = .ok (.l ((modesOn (j : Int) Ts).map fun m => .d (.int m)))
  h5 : ∀ m ∈ modesOn (j : Int) Ts, f5 [encTn t, .int m, .str (trNm b)] = .ok (.d (encM (ruleF t m (trNm b))))
  h11 : f11 [encTn t, trsD ((modesOn (j : Int) Ts).map fun m => ruleF t m (trNm b)), encT b] = .ok (.l ((belL t ((modesOn (j : Int) Ts).map fun m => ruleF t m (trNm b)) 0 (trBs b)).map Ow.d))
  h10 : ∀ m ∈ modesOn (j : Int) Ts, f10 [encM (ruleF t m (trNm b)), .list (belL t ((modesOn (j : Int) Ts).map fun m => ruleF t m (trNm b)) 0 (trBs b))] = .ok (.d (mesD (madT t b (ruleF t m (trNm b)))))
end
end Mir
set_option Elab.async false
set_option linter.all false
set_option maxRecDepth 100000
set_option maxHeartbeats 4000000
namespace Mir
open PySem PySem.Spec L2
/-- a tree laid out: name, mark, blanks ahead of its mark (where it is told), ahead of (, behind it, between, ahead of ) -/
inductive LN where
  | mk (nm : List Nat) (k : Int) (mb : Option Nat) (o i g c : Nat) (bs : List LN)
end Mir
set_option Elab.async false
set_option linter.all false
set_option maxRecDepth 100000
set_option maxHeartbeats 4000000
namespace Mir
open PySem PySem.Spec L2
def glue (s : List Nat) : List (List Nat) → List Nat
  | [] => []
  | a :: r => a ++ (r.map fun b => s ++ b).flatten
theorem foldl_glue (s : List Nat) : ∀ (r : List (List Nat)) (a : Array Nat), (r.map tx).foldl (fun acc p => acc ++ (tx s).cps ++ p.cps) a = ⟨a.toList ++ (r.map fun b => s ++ b).flatten⟩
  | [], a => by simp
  | b :: r, a => by
    rw [List.map_cons, List.foldl_cons, foldl_glue s r]
    simp [tx]
theorem join_tx (s : List Nat) (l : List (List Nat)) : Txt.join (tx s) (l.map tx) = tx (glue s l) := by
  show Builtin.Str.glued _ _ = _
  rw [PySem.StrLaws.glued_eq_join]
  cases l with
  | nil => rfl
  | cons a r =>
    rw [List.map_cons, ← PySem.StrLaws.glued_cons, foldl_glue]
    simp [glue, tx]
theorem sum_len (l : List (List Nat)) : ((l.map tx).map fun x : Str => x.length).sum = (l.map List.length).sum := by
  rw [List.map_map]
  congr 1
theorem gJoin_tx (s : List Nat) (l : List (List Nat)) (h : (l.map List.length).sum + l.length * s.length ≤ 16777216) : gJoin (.str (tx s)) (.list (l.map fun w => .str (tx w))) = some (.str (tx (glue s l))) := by
  have e : (l.map fun w => PyData.str (tx w)) = (l.map tx).map PyData.str := by rw [List.map_map]; rfl
  rw [e, gJoin_list (by rw [sum_len, List.length_map, tx_len]; exact h), join_tx]
end Mir
set_option Elab.async false
set_option linter.all false
set_option maxRecDepth 100000
set_option maxHeartbeats 4000000
namespace Mir
open PySem PySem.Spec L2
def lets (l : List Nat) : Str := tx (l.map fun d => 97 + d)
theorem lets_inj {a b : List Nat} (h : lets a = lets b) : a = b := by
  have := tx_inj h
  exact (List.map_inj_right (fun x y e => by omega)).mp this
theorem strOk_lets {l : List Nat} (h : ∀ d ∈ l, d < 26) : PyData.strOk (lets l) = true := strOk_tx fun c hc => by
  obtain ⟨d, hd, rfl⟩ := List.mem_map.mp hc
  have := h d hd
  omega
theorem glue_nil (l : List (List Nat)) : glue [] l = l.flatten := by
  cases l with
  | nil => rfl
  | cons a r => unfold glue; simp
theorem join_lets {ds : List Nat} (hl : ds.length ≤ 1000) : gJoin (.str (Str.ofString "")) (.list (ds.map fun d => .str (tx [97 + d]))) = some (.str (lets ds)) := by
  have a := gJoin_tx [] (ds.map fun d => [97 + d]) (by
    rw [List.map_map]
    have : (ds.map (List.length ∘ fun d => [97 + d])).sum = ds.length := by
      induction ds with
      | nil => rfl
      | cons d ds ih => rw [List.map_cons, List.sum_cons, ih (by rw [List.length_cons] at hl; omega), List.length_cons]; simp; omega
    rw [this, List.length_map, List.length_nil]
    omega)
  rw [glue_nil, List.map_map] at a
  rw [empty_is]
  have e : (ds.map fun d => [97 + d]).flatten = ds.map fun d => 97 + d := by
    clear a hl
    induction ds with
    | nil => rfl
    | cons d ds ih => rw [List.map_cons, List.flatten_cons, ih]; rfl
  rw [e] at a
  exact a
def mixI (c j : Int) : Int :=
  let n1 := c % 2147483647 + 48271 * (j + 1)
  let n2 := (n1 * n1 + 69621 * j) % 2147483647
  (n2 * n2 + 16807 * j + 1) % 2147483647
noncomputable section
abbrev bMixed : Ev → SR := (sSeq (sSet 2 (eM (eM (eBinO gAdd (eBin gMod (eVar 0) (eC (.int 2147483647))) (eBin gMul (eC (.int 48271)) (eM (eBinO gAdd (eVar 1) (eC (.int 1))) viewD))) viewD) Ow.d))
    (sSeq (sSet 2 (eM (eBin gMod (eM (eBinO gAdd (eBin gMul (eVar 2) (eVar 2)) (eBin gMul (eC (.int 69621)) (eVar 1))) viewD) (eC (.int 2147483647))) Ow.d))
    (sRet (eM (eBin gMod (eM (eBinO gAdd (eB (eBinO gAdd (eBin gMul (eVar 2) (eVar 2)) (eBin gMul (eC (.int 16807)) (eVar 1))) shD) (eC (.int 1))) viewD) (eC (.int 2147483647))) Ow.d))))
theorem mixed_fin (c : Int) (j : Nat) (hj : j ≤ 1000) : finR (bMixed (envOf 1 [.int c, .int (j : Nat)])) = .ok (.d (.int (mixI c (j : Nat)))) := by
  have he : envOf 1 [.int c, .int (j : Nat)] = [some (.d (.int c)), some (.d (.int (j : Nat))), none] := rfl
  rw [he]
  have m1 : gMod (.int c) (.int 2147483647) = some (.int (c % 2147483647)) := gMod_int (by decide)
  have big : (10000000000 : Nat) < 2 ^ 250 := by decide
  have sm : ∀ i : Int, 0 ≤ i → i < 10000000000 → i.natAbs < 2 ^ 250 := fun i h0 h1 => by omega
  have m2 : gMul (.int 48271) (.int ((j : Int) + 1)) = some (.int (48271 * ((j : Int) + 1))) := gMul_small (sm _ (by decide) (by decide)) (sm _ (by omega) (by omega))
  have c0 := Int.emod_nonneg c (b := 2147483647) (by decide)
  have c1 := Int.emod_lt_of_pos c (b := 2147483647) (by decide)
  unfold mixI
  simp only
  generalize c % 2147483647 = C at m1 c0 c1
  obtain ⟨n1, hn1⟩ : ∃ n1, n1 = C + 48271 * ((j : Int) + 1) := ⟨_, rfl⟩
  rw [← hn1]
  have n10 : 0 ≤ n1 := by omega
  have n11 : n1 < 10000000000 := by omega
  have m3 : gMul (.int n1) (.int n1) = some (.int (n1 * n1)) := gMul_small (sm _ n10 n11) (sm _ n10 n11)
  have m4 : gMul (.int 69621) (.int (j : Nat)) = some (.int (69621 * (j : Int))) := gMul_small (sm _ (by decide) (by decide)) (sm _ (by omega) (by omega))
  have m5 : gMod (.int (n1 * n1 + 69621 * (j : Int))) (.int 2147483647) = some (.int ((n1 * n1 + 69621 * (j : Int)) % 2147483647)) := gMod_int (by decide)
  have d0 := Int.emod_nonneg (n1 * n1 + 69621 * (j : Int)) (b := 2147483647) (by decide)
  have d1 := Int.emod_lt_of_pos (n1 * n1 + 69621 * (j : Int)) (b := 2147483647) (by decide)
  refine fin_step (env1 := [some (.d (.int c)), some (.d (.int (j : Nat))), some (.d (.int n1))]) (by simp [m1, m2, hn1]) ?_
  refine fin_step (env1 := [some (.d (.int c)), some (.d (.int (j : Nat))), some (.d (.int ((n1 * n1 + 69621 * (j : Int)) % 2147483647)))]) (by
    generalize ((n1 * n1 + 69621 * (j : Int)) % 2147483647) = N2 at m5
    simp [m3, m4, m5]) ?_
  generalize ((n1 * n1 + 69621 * (j : Int)) % 2147483647) = n2 at d0 d1
  have m6 : gMul (.int n2) (.int n2) = some (.int (n2 * n2)) := gMul_small (sm _ d0 (by omega)) (sm _ d0 (by omega))
  have m7 : gMul (.int 16807) (.int (j : Nat)) = some (.int (16807 * (j : Int))) := gMul_small (sm _ (by decide) (by decide)) (sm _ (by omega) (by omega))
  have m8 : gMod (.int (n2 * n2 + 16807 * (j : Int) + 1)) (.int 2147483647) = some (.int ((n2 * n2 + 16807 * (j : Int) + 1) % 2147483647)) := gMod_int (by decide)
  generalize ((n2 * n2 + 16807 * (j : Int) + 1) % 2147483647) = R at m8
  simp [m6, m7, m8]
abbrev nmBase (f18 : List D → R Ow) : Ev → R Ow := (eLc (eB (aCons (eC (.int 8)) aNil) rg1) (gtName 3) cYes (eM (eBin gMod (eM (eB (aCons (eVar 0) (aCons (eVar 3) aNil)) f18) viewD) (eC (.int 26))) Ow.d) (List.map (·.2) ([("_law_j", 3)] : List (Str × Nat))))
abbrev nmRow : Ev → R Ow := (eLc (eB (aCons (eC (.int 8)) aNil) rg1) (gtName 4) cYes (eM (eJoin (eC (.str "")) (eB (eLc (eB (eM (eSl (eVar 2) oNone (eB (eM (eBinO gAdd (eVar 4) (eC (.int 1))) viewD) asI)) viewD) itD) (gtName 3) cYes (eM (eBin gIx (eVar 1) (eVar 3)) Ow.d) (List.map (·.2) ([("_law_j", 3)] : List (Str × Nat)))) shD)) Ow.d) (List.map (·.2) ([("_law_k", 4)] : List (Str × Nat))))
abbrev nmStep : Ev → SR := (sSeq (sSet 8 (eSl (eVar 2) oNone (eB (eVar 5) asI)))
    (sSeq (sPut 8 (eM (eBin gMod (eM (eBinO gAdd (eBin gIx (eB (eVarO 8) shD) (eVar 6)) (eVar 4)) viewD) (eC (.int 26))) Ow.d) (eVar 6))
    (sFrz 8 (sApp 7 (eM (eJoin (eC (.str "")) (eB (eLc (eB (eVar 8) itD) (gtName 3) cYes (eM (eBin gIx (eVar 1) (eVar 3)) Ow.d) (List.map (·.2) ([("_law_j", 3)] : List (Str × Nat)))) shD)) Ow.d)))))
abbrev bNames8 (f18 : List D → R Ow) : Ev → SR := (sSeq (sSet 1 (eM (eC (.str "abcdefghijklmnopqrstuvwxyz")) Ow.d))
    (sSeq (sSet 2 (eM (eM (nmBase f18) viewD) Ow.d))
    (sSeq (sIf (eB (eBin gEq (eBin gMod (eBin gDiv (eVar 0) (eC (.int 64))) (eC (.int 4))) (eC (.int 1))) asB)
    (sRet nmRow)
    sSkip)
    (sSeq (sSet 5 (eM (eM (eBinO gAdd (eC (.int 1)) (eBin gMod (eVar 0) (eC (.int 8)))) viewD) Ow.d))
    (sSeq (sSet 6 (eM (eBin gMod (eBin gDiv (eVar 0) (eC (.int 8))) (eVar 5)) Ow.d))
    (sSeq (sSet 7 (eLst aNil))
    (sSeq (sFor (eB (aCons (eC (.int 8)) aNil) rg1) (gtName 4)
    nmStep)
    (sRetV 7))))))))
/-- eight names, all unlike -/
structure Names8 (ls : List (List Nat)) : Prop where
  eight : ls.length = 8
  nd : ls.Nodup
  lets : ∀ l ∈ ls, ∀ d ∈ l, d < 26
  some : ∀ l ∈ ls, 1 ≤ l.length ∧ l.length ≤ 8
def nmO (ls : List (List Nat)) : Ow := .l (ls.map fun l => .d (.str (lets l)))
def nsD (ls : List (List Nat)) : D := .list (ls.map fun l => .str (lets l))
theorem viewD_nmO (ls : List (List Nat)) : viewD (nmO ls) = nsD ls := viewD_of (fun l => PyData.str (lets l)) ls
theorem abc_ch {d : Nat} (h : d < 26) : gIx (.str abc) (.int (d : Nat)) = some (.str (tx [97 + d])) := abc_ix h
theorem rg1_8 : rg1 [.int 8] = .ok ((List.range 8).map fun k : Nat => PyData.int (k : Nat)) := by rw [← rangeD_map]; exact rg1_nat 8 (by decide)
def upRow (bs : List Nat) : List (List Nat) := (List.range 8).map fun k => bs.take (k + 1)
def moved (bs : List Nat) (s b k : Nat) : List Nat := bs.set s ((b + k) % 26)
theorem upRow_ok {bs : List Nat} (h8 : bs.length = 8) (hb : ∀ d ∈ bs, d < 26) : Names8 (upRow bs) where
  eight := by unfold upRow; simp
  nd := by
    unfold upRow
    rw [List.nodup_iff_pairwise_ne, List.pairwise_map]
    refine List.Pairwise.imp_of_mem ?_ (List.pairwise_lt_range)
    intro i j hi hj hlt e
    have := congrArg List.length e
    rw [List.length_take, List.length_take, h8] at this
    rw [List.mem_range] at hi hj
    omega
  lets := fun l hl d hd => by
    obtain ⟨k, _, rfl⟩ := List.mem_map.mp hl
    exact hb d (List.mem_of_mem_take hd)
  some := fun l hl => by
    obtain ⟨k, hk, rfl⟩ := List.mem_map.mp hl
    rw [List.mem_range] at hk
    rw [List.length_take, h8]
    omega
theorem moved_ok {bs : List Nat} {s b : Nat} (h8 : bs.length ≤ 8) (hs : s < bs.length) (hb : ∀ d ∈ bs, d < 26) : Names8 ((List.range 8).map fun k => moved bs s b k) where
  eight := by simp
  nd := by
    rw [List.nodup_iff_pairwise_ne, List.pairwise_map]
    refine List.Pairwise.imp_of_mem ?_ (List.pairwise_lt_range)
    intro i j hi hj hlt e
    have := congrArg (fun l : List Nat => l[s]?) e
    simp only [moved] at this
    rw [List.getElem?_set_self hs, List.getElem?_set_self hs] at this
    have := Option.some.inj this
    rw [List.mem_range] at hi hj
    omega
  lets := fun l hl d hd => by
    obtain ⟨k, _, rfl⟩ := List.mem_map.mp hl
    rcases List.mem_or_eq_of_mem_set hd with h | h
    · exact hb d h
    · subst h; exact Nat.mod_lt _ (by decide)
  some := fun l hl => by
    obtain ⟨k, hk, rfl⟩ := List.mem_map.mp hl
    unfold moved
    rw [List.length_set]
    omega
theorem emod_nat {c : Int} {n : Nat} (h : 0 < n) : ∃ k : Nat, c % (n : Int) = (k : Int) ∧ k < n := ⟨(c % (n : Int)).toNat, by have := Int.emod_nonneg c (show (n : Int) ≠ 0 by omega); omega, by have := Int.emod_lt_of_pos c (show 0 < (n : Int) by omega); have := Int.emod_nonneg c (show (n : Int) ≠ 0 by omega); omega⟩
theorem lets_lc {ls : List Nat} (hl : ∀ d ∈ ls, d < 26) {f : Ev → SR} {c : Int} {x2 x4 x5 x6 x7 x8 : Option Ow} : lcR (gtName 3) cYes (eM (eBin gIx (eVar 1) (eVar 3)) Ow.d) [some (.d (.int c)), some (.d (.str abc)), x2, none, x4, x5, x6, x7, x8] (ls.map fun d : Nat => PyData.int (d : Nat)) = .ok (ls.map fun d => .d (.str (tx [97 + d]))) :=
  lcR_map (fun d : Nat => PyData.int (d : Nat)) (fun d => Ow.d (.str (tx [97 + d]))) ls fun d hd => ⟨[some (.d (.int c)), some (.d (.str abc)), x2, some (.d (.int (d : Nat))), x4, x5, x6, x7, x8], rfl, rfl, by simp [abc_ch (hl d hd)]⟩
theorem names_fin {f18 : List D → R Ow} (c : Int) (h18 : ∀ j : Nat, j < 8 → f18 [.int c, .int (j : Nat)] = .ok (.d (.int (mixI c (j : Nat))))) : ∃ ls, Names8 ls ∧ finR (bNames8 f18 (envOf 8 [.int c])) = .ok (nmO ls) := by
  have he : envOf 8 [.int c] = [some (.d (.int c)), none, none, none, none, none, none, none, none] := rfl
  rw [he]
  obtain ⟨bs, hbs⟩ : ∃ bs : List Nat, bs = (List.range 8).map fun j : Nat => (mixI c (j : Nat) % 26).toNat := ⟨_, rfl⟩
  have b8 : bs.length = 8 := by rw [hbs]; simp
  have b26 : ∀ d ∈ bs, d < 26 := fun d hd => by
    rw [hbs] at hd
    obtain ⟨j, _, rfl⟩ := List.mem_map.mp hd
    have := Int.emod_nonneg (mixI c (j : Nat)) (b := 26) (by decide)
    have := Int.emod_lt_of_pos (mixI c (j : Nat)) (b := 26) (by decide)
    omega
  have lc : nmBase f18 [some (.d (.int c)), some (.d (.str abc)), none, none, none, none, none, none, none] = .ok (.l (bs.map fun d : Nat => Ow.d (.int (d : Nat)))) := by
    show eLc _ _ _ _ _ _ = _
    rw [hbs, List.map_map]
    refine eLc_of (ds := (List.range 8).map fun k : Nat => PyData.int (k : Nat)) (by simp only [eB_eq, aCons_eq, eC_eq, aNil_eq, R.bind_ok, R.map_ok]; exact rg1_8) (by simp [sizeLine_eq]) (lcR_map _ _ (List.range 8) fun j hj => ?_)
    have h := h18 j (List.mem_range.mp hj)
    have e : ((mixI c (j : Nat) % 26).toNat : Int) = mixI c (j : Nat) % 26 := by have := Int.emod_nonneg (mixI c (j : Nat)) (b := 26) (by decide); omega
    refine ⟨[some (.d (.int c)), some (.d (.str abc)), none, some (.d (.int (j : Nat))), none, none, none, none, none], by simp [wipeE], rfl, ?_⟩
    show _ = R.ok (Ow.d (.int ((mixI c (j : Nat) % 26).toNat : Nat)))
    rw [e]
    generalize mixI c (j : Nat) = M at h
    have md : gMod (.int M) (.int 26) = some (.int (M % 26)) := gMod_int (by decide)
    simp [h, md]
  have vb : viewD (.l (bs.map fun d : Nat => Ow.d (.int (d : Nat)))) = .list (bs.map fun d : Nat => PyData.int (d : Nat)) := viewD_of (fun d : Nat => PyData.int (d : Nat)) bs
  refine ⟨if (c / 64) % 4 = 1 then upRow bs else (List.range 8).map fun k => moved (bs.take (1 + (c % 8).toNat)) ((c / 8) % ((1 + (c % 8).toNat : Nat) : Int)).toNat (bs.getD ((c / 8) % ((1 + (c % 8).toNat : Nat) : Int)).toNat 0) k, ?_, ?_⟩
  · split
    · exact upRow_ok b8 b26
    · obtain ⟨w, hw, w8⟩ := emod_nat (c := c) (n := 8) (by decide)
      obtain ⟨s, hs, s8⟩ := emod_nat (c := c / 8) (n := 1 + (c % 8).toNat) (by omega)
      rw [hs]
      have : (c % 8).toNat = w := by change c % ((8 : Nat) : Int) = _ at hw; omega
      refine moved_ok (by rw [List.length_take]; omega) ?_ (fun d hd => b26 d (List.mem_of_mem_take hd))
      rw [List.length_take, Int.toNat_natCast]
      omega
  refine fin_step (env1 := [some (.d (.int c)), some (.d (.str abc)), none, none, none, none, none, none, none]) rfl ?_
  refine fin_step (env1 := [some (.d (.int c)), some (.d (.str abc)), some (.d (.list (bs.map fun d : Nat => PyData.int (d : Nat)))), none, none, none, none, none, none]) (by
    rw [sSet_eq, eM_eq, eM_eq, lc, R.map_ok, R.map_ok, vb, R.st_ok]
    rfl) ?_
  have d64 : gDiv (.int c) (.int 64) = some (.int (c / 64)) := gDiv_small (by decide) (by decide)
  have m4 : gMod (.int (c / 64)) (.int 4) = some (.int (c / 64 % 4)) := gMod_int (by decide)
  have ct : (eB (eBin gEq (eBin gMod (eBin gDiv (eVar 0) (eC (.int 64))) (eC (.int 4))) (eC (.int 1))) asB) [some (.d (.int c)), some (.d (.str abc)), some (.d (.list (bs.map fun d : Nat => PyData.int (d : Nat)))), none, none, none, none, none, none] = .ok (c / 64 % 4 == 1) := by
    generalize PyData.list (bs.map fun d : Nat => PyData.int (d : Nat)) = BL
    generalize c / 64 % 4 = Z at m4
    generalize c / 64 = Y at d64 m4
    simp [d64, m4]
  show finR (sSeq (sIf _ _ _) _ _) = _
  rw [sSeq_eq, sIf_eq, ct, R.st_ok]
  have it : itD (.list (bs.map fun d : Nat => PyData.int (d : Nat))) = .ok (bs.map fun d : Nat => PyData.int (d : Nat)) := rfl
  by_cases cc : c / 64 % 4 = 1
  · rw [if_pos cc, if_pos (by simpa using cc)]
    have lr : nmRow [some (.d (.int c)), some (.d (.str abc)), some (.d (.list (bs.map fun d : Nat => PyData.int (d : Nat)))), none, none, none, none, none, none] = .ok (nmO (upRow bs)) := by
      show eLc _ _ _ _ _ _ = _
      unfold nmO upRow
      rw [List.map_map]
      refine eLc_of (ds := (List.range 8).map fun k : Nat => PyData.int (k : Nat)) (by simp only [eB_eq, aCons_eq, eC_eq, aNil_eq, R.bind_ok, R.map_ok]; exact rg1_8) (by simp [sizeLine_eq]) (lcR_map _ _ (List.range 8) fun k hk => ?_)
      refine ⟨[some (.d (.int c)), some (.d (.str abc)), some (.d (.list (bs.map fun d : Nat => PyData.int (d : Nat)))), none, some (.d (.int (k : Nat))), none, none, none, none], by
        generalize PyData.list (bs.map fun d : Nat => PyData.int (d : Nat)) = BL
        simp [wipeE], rfl, ?_⟩
      have lin : eLc (eB (eM (eSl (eVar 2) oNone (eB (eM (eBinO gAdd (eVar 4) (eC (.int 1))) viewD) asI)) viewD) itD) (gtName 3) cYes (eM (eBin gIx (eVar 1) (eVar 3)) Ow.d) (List.map (·.2) ([("_law_j", 3)] : List (Str × Nat))) [some (.d (.int c)), some (.d (.str abc)), some (.d (.list (bs.map fun d : Nat => PyData.int (d : Nat)))), none, some (.d (.int (k : Nat))), none, none, none, none] = .ok (.l ((bs.take (k + 1)).map fun d => .d (.str (tx [97 + d])))) := by
        refine eLc_of (ds := (bs.take (k + 1)).map fun d : Nat => PyData.int (d : Nat)) ?_ (by rw [List.length_map, List.length_take, sizeLine_eq]; omega) ?_
        · have sl : gSl (.list (bs.map fun d : Nat => PyData.int (d : Nat))) none (some ((k : Int) + 1)) = some (.l (((bs.take (k + 1)).map fun d : Nat => PyData.int (d : Nat)).map Ow.d)) := by
            rw [show ((k : Int) + 1) = ((k + 1 : Nat) : Int) from by omega, gSl_list, cutL_take, ← List.map_take]
          have vw := vw_ls ((bs.take (k + 1)).map fun d : Nat => PyData.int (d : Nat))
          have i2 : itD (.list ((bs.take (k + 1)).map fun d : Nat => PyData.int (d : Nat))) = .ok ((bs.take (k + 1)).map fun d : Nat => PyData.int (d : Nat)) := rfl
          generalize PyData.list (bs.map fun d : Nat => PyData.int (d : Nat)) = BL at sl
          generalize ((bs.take (k + 1)).map fun d : Nat => PyData.int (d : Nat)) = ds at sl vw i2
          generalize Ow.l (ds.map Ow.d) = OL at sl vw
          generalize PyData.list ds = DL at vw i2
          simp [sl, vw, i2]
        · generalize PyData.list (bs.map fun d : Nat => PyData.int (d : Nat)) = BL
          exact lets_lc (f := sSkip) (fun d hd => b26 d (List.mem_of_mem_take hd))
      have sh : shD (.l ((bs.take (k + 1)).map fun d => .d (.str (tx [97 + d])))) = .ok (.list ((bs.take (k + 1)).map fun d => .str (tx [97 + d]))) := unDs_of (fun d => PyData.str (tx [97 + d])) _
      have jn := join_lets (ds := bs.take (k + 1)) (by rw [List.length_take]; omega)
      rw [eM_eq, eJoin_eq (a := Str.ofString "") rfl (d := .list ((bs.take (k + 1)).map fun d => .str (tx [97 + d]))) (by rw [eB_eq, lin, R.bind_ok, sh]), jn]
      rfl
    generalize PyData.list (bs.map fun d : Nat => PyData.int (d : Nat)) = BL at lr
    rw [sRet_eq, lr]
    rfl
  · rw [if_neg cc, if_neg (by simpa using cc)]
    simp only [sSkip_eq, SR.andThen]
    obtain ⟨w, hw, w8⟩ := emod_nat (c := c) (n := 8) (by decide)
    change c % 8 = _ at hw
    rw [hw, Int.toNat_natCast]
    obtain ⟨s, hs, s8⟩ := emod_nat (c := c / 8) (n := 1 + w) (by omega)
    rw [hs, Int.toNat_natCast]
    have g8 : gMod (.int c) (.int 8) = some (.int (c % 8)) := gMod_int (by decide)
    have gd : gDiv (.int c) (.int 8) = some (.int (c / 8)) := gDiv_small (by decide) (by decide)
    have gs : gMod (.int (c / 8)) (.int ((1 + w : Nat) : Int)) = some (.int (s : Nat)) := by rw [gMod_int (by omega), hs]
    rw [hw] at g8
    have w1 : (1 : Int) + (w : Nat) = ((1 + w : Nat) : Int) := by omega
    have sl : gSl (.list (bs.map fun d : Nat => PyData.int (d : Nat))) none (some ((1 + w : Nat) : Int)) = some (.l ((bs.take (1 + w)).map fun d : Nat => .d (.int (d : Nat)))) := by
      rw [gSl_list, cutL_take, ← List.map_take, List.map_map]; rfl
    obtain ⟨B, hB⟩ : ∃ B, B = bs.take (1 + w) := ⟨_, rfl⟩
    have Bl : B.length = 1 + w := by rw [hB, List.length_take]; omega
    have B26 : ∀ d ∈ B, d < 26 := fun d hd => b26 d (List.mem_of_mem_take (hB ▸ hd))
    have Bs : B[s]? = some (bs.getD s 0) := by
      rw [hB, List.getElem?_take, if_pos s8, List.getD_eq_getElem?_getD, List.getElem?_eq_getElem (by omega)]
      rfl
    rw [← hB] at sl ⊢
    generalize bs.getD s 0 = b at Bs
    refine fin_step (env1 := [some (.d (.int c)), some (.d (.str abc)), some (.d (.list (bs.map fun d : Nat => PyData.int (d : Nat)))), none, none, some (.d (.int ((1 + w : Nat) : Int))), none, none, none]) (by
      rw [← w1]
      generalize PyData.list (bs.map fun d : Nat => PyData.int (d : Nat)) = BL
      simp [g8]) ?_
    refine fin_step (env1 := [some (.d (.int c)), some (.d (.str abc)), some (.d (.list (bs.map fun d : Nat => PyData.int (d : Nat)))), none, none, some (.d (.int ((1 + w : Nat) : Int))), some (.d (.int (s : Nat))), none, none]) (by
      generalize PyData.list (bs.map fun d : Nat => PyData.int (d : Nat)) = BL
      generalize ((1 + w : Nat) : Int) = W at gs
      simp [gd, gs]) ?_
    refine fin_step (env1 := [some (.d (.int c)), some (.d (.str abc)), some (.d (.list (bs.map fun d : Nat => PyData.int (d : Nat)))), none, none, some (.d (.int ((1 + w : Nat) : Int))), some (.d (.int (s : Nat))), some (.l []), none]) (by
      generalize PyData.list (bs.map fun d : Nat => PyData.int (d : Nat)) = BL
      simp [sizeLine_eq]) ?_
    obtain ⟨env', e1, x4, x8, e2⟩ := forL_map (g := gtName 4) (f := nmStep) (fun k : Nat => PyData.int (k : Nat)) (List.range 8)
      (fun i env => ∃ x4 x8, env = [some (.d (.int c)), some (.d (.str abc)), some (.d (.list (bs.map fun d : Nat => PyData.int (d : Nat)))), none, x4, some (.d (.int ((1 + w : Nat) : Int))), some (.d (.int (s : Nat))), some (nmO (((List.range 8).take i).map fun k => moved B s b k)), x8]) (fun i k env hk ⟨x4, x8, e⟩ => by
        subst e
        refine ⟨[some (.d (.int c)), some (.d (.str abc)), some (.d (.list (bs.map fun d : Nat => PyData.int (d : Nat)))), none, some (.d (.int (k : Nat))), some (.d (.int ((1 + w : Nat) : Int))), some (.d (.int (s : Nat))), some (nmO (((List.range 8).take i).map fun k => moved B s b k)), x8], rfl, [some (.d (.int c)), some (.d (.str abc)), some (.d (.list (bs.map fun d : Nat => PyData.int (d : Nat)))), none, some (.d (.int (k : Nat))), some (.d (.int ((1 + w : Nat) : Int))), some (.d (.int (s : Nat))), some (nmO (((List.range 8).take (i + 1)).map fun k => moved B s b k)), some (.d (.list ((moved B s b k).map fun d : Nat => PyData.int (d : Nat))))], .inl ?_, _, _, rfl⟩
        have tk : nmO (((List.range 8).take (i + 1)).map fun k => moved B s b k) = .l ((((List.range 8).take i).map fun k => moved B s b k).map (fun l => .d (.str (lets l))) ++ [.d (.str (lets (moved B s b k)))]) := by unfold nmO; rw [List.take_add_one, hk, List.map_append, List.map_append]; rfl
        have ll : ((((List.range 8).take i).map fun k => moved B s b k).map fun l => Ow.d (.str (lets l))).length < 16777216 := by rw [List.length_map, List.length_map, List.length_take, List.length_range]; omega
        have nm : nmO (((List.range 8).take i).map fun k => moved B s b k) = .l ((((List.range 8).take i).map fun k => moved B s b k).map fun l => .d (.str (lets l))) := rfl
        rw [tk, nm]
        generalize ((((List.range 8).take i).map fun k => moved B s b k).map fun l => Ow.d (.str (lets l))) = OS at ll
        have mv : (moved B s b k).length = B.length := by unfold moved; rw [List.length_set]
        have mv26 : ∀ d ∈ moved B s b k, d < 26 := fun d hd => by
          rcases List.mem_or_eq_of_mem_set hd with h | h
          · exact B26 d h
          · subst h; exact Nat.mod_lt _ (by decide)
        refine seq_nx (env1 := [some (.d (.int c)), some (.d (.str abc)), some (.d (.list (bs.map fun d : Nat => PyData.int (d : Nat)))), none, some (.d (.int (k : Nat))), some (.d (.int ((1 + w : Nat) : Int))), some (.d (.int (s : Nat))), some (.l OS), some (.l (B.map fun d : Nat => .d (.int (d : Nat))))]) (by
          generalize PyData.list (bs.map fun d : Nat => PyData.int (d : Nat)) = BL at sl
          generalize ((1 + w : Nat) : Int) = W at sl
          simp [sl]) ?_
        refine seq_nx (env1 := [some (.d (.int c)), some (.d (.str abc)), some (.d (.list (bs.map fun d : Nat => PyData.int (d : Nat)))), none, some (.d (.int (k : Nat))), some (.d (.int ((1 + w : Nat) : Int))), some (.d (.int (s : Nat))), some (.l OS), some (.l ((moved B s b k).map fun d : Nat => .d (.int (d : Nat))))]) (by
          have sh : shD (.l (B.map fun d : Nat => .d (.int (d : Nat)))) = .ok (.list (B.map fun d : Nat => .int (d : Nat))) := unDs_of (fun d : Nat => PyData.int (d : Nat)) B
          have ix : gIx (.list (B.map fun d : Nat => .int (d : Nat))) (.int (s : Nat)) = some (.int (b : Nat)) := by
            show atI (B.map fun d : Nat => PyData.int (d : Nat)) _ = _
            exact atI_natD (by rw [List.getElem?_map, Bs]; rfl)
          have md : gMod (.int ((b : Int) + (k : Nat))) (.int 26) = some (.int (((b + k) % 26 : Nat) : Int)) := by
            rw [gMod_int (by decide)]
            congr 2
          have ixn : ixN (B.map fun d : Nat => Ow.d (.int (d : Nat))).length ((s : Nat) : Int) = some s := ixN_nat (by rw [List.length_map]; omega)
          have st : (moved B s b k).map (fun d : Nat => Ow.d (.int (d : Nat))) = (B.map fun d : Nat => Ow.d (.int (d : Nat))).set s (.d (.int (((b + k) % 26 : Nat) : Int))) := by unfold moved; rw [List.map_set]
          rw [st]
          have e3 : (eM (eBin gMod (eM (eBinO gAdd (eBin gIx (eB (eVarO 8) shD) (eVar 6)) (eVar 4)) viewD) (eC (.int 26))) Ow.d) [some (.d (.int c)), some (.d (.str abc)), some (.d (.list (bs.map fun d : Nat => PyData.int (d : Nat)))), none, some (.d (.int (k : Nat))), some (.d (.int ((1 + w : Nat) : Int))), some (.d (.int (s : Nat))), some (.l OS), some (.l (B.map fun d : Nat => .d (.int (d : Nat))))] = .ok (.d (.int (((b + k) % 26 : Nat) : Int))) := by
            generalize PyData.list (bs.map fun d : Nat => PyData.int (d : Nat)) = BL
            generalize Ow.l (B.map fun d : Nat => .d (.int (d : Nat))) = OB at sh
            generalize PyData.list (B.map fun d : Nat => .int (d : Nat)) = LB at sh ix
            generalize ((1 + w : Nat) : Int) = W
            generalize (((b + k) % 26 : Nat) : Int) = Z at md
            simp [sh, ix, md]
          rw [sPut_eq, e3, R.st_ok]
          show ownL 8 _ _ = _
          rw [ownL_8]
          show R.st _ (eVar 6 _) _ = _
          rw [eVar_6, R.st_ok]
          show (match ixN (B.map fun d : Nat => Ow.d (.int (d : Nat))).length ((s : Nat) : Int) with
            | some j => SR.nx _
            | none => SR.no) = _
          rw [ixn]
          rfl) ?_
        have vm : viewD (.l ((moved B s b k).map fun d : Nat => .d (.int (d : Nat)))) = .list ((moved B s b k).map fun d : Nat => .int (d : Nat)) := viewD_of (fun d : Nat => PyData.int (d : Nat)) _
        have fz : frzV 8 [some (.d (.int c)), some (.d (.str abc)), some (.d (.list (bs.map fun d : Nat => PyData.int (d : Nat)))), none, some (.d (.int (k : Nat))), some (.d (.int ((1 + w : Nat) : Int))), some (.d (.int (s : Nat))), some (.l OS), some (.l ((moved B s b k).map fun d : Nat => .d (.int (d : Nat))))] = [some (.d (.int c)), some (.d (.str abc)), some (.d (.list (bs.map fun d : Nat => PyData.int (d : Nat)))), none, some (.d (.int (k : Nat))), some (.d (.int ((1 + w : Nat) : Int))), some (.d (.int (s : Nat))), some (.l OS), some (.d (.list ((moved B s b k).map fun d : Nat => .int (d : Nat))))] := by
          rw [← vm]
          rfl
        show sApp 7 _ (frzV 8 _) = _
        rw [fz]
        have lin : eLc (eB (eVar 8) itD) (gtName 3) cYes (eM (eBin gIx (eVar 1) (eVar 3)) Ow.d) (List.map (·.2) ([("_law_j", 3)] : List (Str × Nat))) [some (.d (.int c)), some (.d (.str abc)), some (.d (.list (bs.map fun d : Nat => PyData.int (d : Nat)))), none, some (.d (.int (k : Nat))), some (.d (.int ((1 + w : Nat) : Int))), some (.d (.int (s : Nat))), some (.l OS), some (.d (.list ((moved B s b k).map fun d : Nat => .int (d : Nat))))] = .ok (.l ((moved B s b k).map fun d => .d (.str (tx [97 + d])))) := by
          refine eLc_of (ds := (moved B s b k).map fun d : Nat => PyData.int (d : Nat)) ?_ (by rw [List.length_map, mv, Bl, sizeLine_eq]; omega) ?_
          · have i2 : itD (.list ((moved B s b k).map fun d : Nat => PyData.int (d : Nat))) = .ok ((moved B s b k).map fun d : Nat => PyData.int (d : Nat)) := rfl
            generalize PyData.list (bs.map fun d : Nat => PyData.int (d : Nat)) = BL
            generalize PyData.list ((moved B s b k).map fun d : Nat => PyData.int (d : Nat)) = ML at i2
            generalize ((1 + w : Nat) : Int) = W
            simp [i2]
          · exact lets_lc (f := sSkip) mv26
        have sh : shD (.l ((moved B s b k).map fun d => .d (.str (tx [97 + d])))) = .ok (.list ((moved B s b k).map fun d => .str (tx [97 + d]))) := unDs_of (fun d => PyData.str (tx [97 + d])) _
        have jn := join_lets (ds := moved B s b k) (by rw [mv, Bl]; omega)
        rw [sApp_eq, ownL_7, eM_eq, eJoin_eq (a := Str.ofString "") rfl (d := .list ((moved B s b k).map fun d => .str (tx [97 + d]))) (by rw [eB_eq, lin, R.bind_ok, sh]), jn]
        show (if OS.length < sizeLine then _ else _) = _
        rw [if_pos (by rw [sizeLine_eq]; exact ll)]
        rfl) [some (.d (.int c)), some (.d (.str abc)), some (.d (.list (bs.map fun d : Nat => PyData.int (d : Nat)))), none, none, some (.d (.int ((1 + w : Nat) : Int))), some (.d (.int (s : Nat))), some (.l []), none] ⟨none, none, rfl⟩
    subst e2
    rw [List.length_range] at e1
    refine fin_step (env1 := [some (.d (.int c)), some (.d (.str abc)), some (.d (.list (bs.map fun d : Nat => PyData.int (d : Nat)))), none, x4, some (.d (.int ((1 + w : Nat) : Int))), some (.d (.int (s : Nat))), some (nmO ((List.range 8).map fun k => moved B s b k)), x8]) (by
      have i8 : (eB (aCons (eC (.int 8)) aNil) rg1) [some (.d (.int c)), some (.d (.str abc)), some (.d (.list (bs.map fun d : Nat => PyData.int (d : Nat)))), none, none, some (.d (.int ((1 + w : Nat) : Int))), some (.d (.int (s : Nat))), some (.l []), none] = .ok ((List.range 8).map fun k : Nat => PyData.int (k : Nat)) := by
        simp only [eB_eq, aCons_eq, eC_eq, aNil_eq, R.bind_ok, R.map_ok]
        exact rg1_8
      rw [sFor_eq, i8, R.st_ok, e1]
      rfl) ?_
    rfl
end
end Mir
set_option Elab.async false
set_option linter.all false
set_option maxRecDepth 100000
set_option maxHeartbeats 4000000
namespace Mir
open PySem PySem.Spec L2
/-- 10 ^ 59, kept shut -/
def T59 : Int := 10 ^ 59
def greatI (z : Int) : Int := z % (2 * T59 + 1) - T59
theorem T59_pos : 0 < T59 := by unfold T59; decide
theorem T59_lt : T59 < 2 ^ 249 := by unfold T59; decide
theorem p59 : gPow (.int 10) (.int 59) = some (.int T59) := gPow10 59 (by decide)
noncomputable section
abbrev bGreat : Ev → SR := (sRet (eM (eBin gSub (eBin gMod (eVar 0) (eM (eBinO gAdd (eBin gMul (eC (.int 2)) (eBin gPow (eC (.int 10)) (eC (.int 59)))) (eC (.int 1))) viewD)) (eBin gPow (eC (.int 10)) (eC (.int 59)))) Ow.d))
theorem great_fin (z : Int) : finR (bGreat (envOf 0 [.int z])) = .ok (.d (.int (greatI z))) := by
  have he : envOf 0 [.int z] = [some (.d (.int z))] := rfl
  rw [he]
  have tp := T59_pos
  have tl := T59_lt
  have p := p59
  unfold greatI
  generalize T59 = T at tp tl p
  have m2 : gMul (.int 2) (.int T) = some (.int (2 * T)) := gMul_small (by decide) (by omega)
  have md : gMod (.int z) (.int (2 * T + 1)) = some (.int (z % (2 * T + 1))) := gMod_int (by omega)
  have sb : gSub (.int (z % (2 * T + 1))) (.int T) = some (.int (z % (2 * T + 1) - T)) := rfl
  generalize z % (2 * T + 1) = M at md sb
  simp [p, m2, md, sb]
abbrev bWhole : Ev → SR := (sRet (eM (eAnd (eB (eVar 0) (gIsi "int")) (eNot (eB (eVar 0) (gIsi "bool")))) Ow.d))
theorem whole_fin (z : Int) : finR (bWhole (envOf 0 [.int z])) = .ok (.d (.bool true)) := by
  have he : envOf 0 [.int z] = [some (.d (.int z))] := rfl
  rw [he]
  simp
end
end Mir
set_option Elab.async false
set_option linter.all false
set_option maxRecDepth 100000
set_option maxHeartbeats 4000000
namespace Mir
open PySem PySem.Spec L2
/-- names at hand: eight, all unlike -/
structure NamesD (NS : D) (N : Nat → Str) : Prop where
  ix : ∀ i : Nat, i < 8 → gIx NS (.int (i : Nat)) = some (.str (N i))
  ne : ∀ i j : Nat, i < 8 → j < 8 → i ≠ j → N i ≠ N j
  ok : ∀ i : Nat, i < 8 → PyData.strOk (N i) = true
theorem names_at {ls : List (List Nat)} (h : Names8 ls) : NamesD (nsD ls) fun i => lets (ls.getD i []) where
  ix := fun i hi => by
    have hl : i < ls.length := by rw [h.eight]; exact hi
    show atI (ls.map fun l => PyData.str (lets l)) _ = _
    refine atI_natD ?_
    rw [List.getElem?_map, List.getElem?_eq_getElem hl, List.getD_eq_getElem?_getD, List.getElem?_eq_getElem hl]
    rfl
  ne := fun i j hi hj n e => by
    have hl : i < ls.length := by rw [h.eight]; exact hi
    have hm : j < ls.length := by rw [h.eight]; exact hj
    have e := lets_inj e
    rw [List.getD_eq_getElem?_getD, List.getElem?_eq_getElem hl, List.getD_eq_getElem?_getD, List.getElem?_eq_getElem hm] at e
    have q := List.pairwise_iff_getElem.mp (List.nodup_iff_pairwise_ne.mp h.nd)
    rcases Nat.lt_or_gt_of_ne n with c | c
    · exact q i j hl hm c e
    · exact q j i hm hl c e.symm
  ok := fun i hi => by
    have hl : i < ls.length := by rw [h.eight]; exact hi
    refine strOk_lets fun d hd => ?_
    rw [List.getD_eq_getElem?_getD, List.getElem?_eq_getElem hl] at hd
    exact h.lets _ (List.getElem_mem hl) d hd
theorem rng_ix {n i : Nat} (f : Nat → D) (h : i < n) : gIx (.list ((List.range n).map f)) (.int (i : Nat)) = some (f i) := by
  show atI ((List.range n).map f) _ = _
  exact atI_natD (by rw [List.getElem?_map, List.getElem?_range h]; rfl)
end Mir
set_option Elab.async false
set_option linter.all false
set_option maxRecDepth 100000
set_option maxHeartbeats 4000000
namespace Mir
open PySem PySem.Spec L2
theorem can_s {z : Str} (h : PyData.strOk z = true) : (PyData.str z).canLay0 = true := by rw [PyData.canLay0]; exact h
theorem dep_s (z : Str) : (PyData.str z).depth = 0 := by rw [PyData.depth]
structure NcTn (t : Trn) (B : Nat) : Prop where
  kinds : ∀ p ∈ t.wood, PyData.strOk p.1 = true
  rows : ∀ p ∈ t.wood, ∀ r ∈ p.2, PyData.strOk r.nm = true ∧ ∀ z ∈ r.br, PyData.strOk z = true
  start : okM t.start ∧ levM t.start ≤ B
  mkinds : ∀ p ∈ t.modes, PyData.strOk p.1 = true
  rules : ∀ p ∈ t.modes, ∀ T ∈ p.2, okM T ∧ levM T ≤ B
theorem nice_rwsD {rs : List Rw} (h : ∀ r ∈ rs, PyData.strOk r.nm = true ∧ ∀ z ∈ r.br, PyData.strOk z = true) : (rwsD rs).canLay0 = true ∧ (rwsD rs).depth ≤ 3 := by
  have e : ∀ d ∈ rs.map encRw, d.canLay0 = true ∧ d.depth ≤ 2 := fun d hd => by
    obtain ⟨r, hr, rfl⟩ := List.mem_map.mp hd
    obtain ⟨a, b⟩ := h r hr
    obtain ⟨c1, c2⟩ := nice_strs b
    have dd : (PyData.tuple (r.br.map PyData.str)).depth ≤ 1 := by
      rw [PyData.depth]
      have := depthAll_of (n := 0) (r.br.map PyData.str) fun d hd => by
        obtain ⟨z, _, rfl⟩ := List.mem_map.mp hd
        rw [dep_s]; omega
      omega
    unfold encRw
    refine ⟨?_, ?_⟩
    · rw [PyData.canLay0, PyData.canLayAll0, PyData.canLayAll0, PyData.canLayAll0, can_s a, c1]
      rfl
    · rw [PyData.depth, PyData.depthAll, PyData.depthAll, PyData.depthAll, dep_s]
      omega
  unfold rwsD
  refine ⟨?_, ?_⟩
  · rw [PyData.canLay0]
    exact canAll_of _ fun d hd => (e d hd).1
  · rw [PyData.depth]
    have := depthAll_of (n := 2) (rs.map encRw) fun d hd => (e d hd).2
    omega
theorem nice_trsD {ts : List Trm} {B : Nat} (h : ∀ T ∈ ts, okM T ∧ levM T ≤ B) : (trsD ts).canLay0 = true ∧ (trsD ts).depth ≤ 2 * B + 1 := by
  unfold trsD
  refine ⟨?_, ?_⟩
  · rw [PyData.canLay0]
    exact canAll_of _ fun d hd => by
      obtain ⟨t, ht, rfl⟩ := List.mem_map.mp hd
      exact can_encM t (h t ht).1
  · rw [PyData.depth]
    have := depthAll_of (n := 2 * B) (ts.map encM) fun d hd => by
      obtain ⟨t, ht, rfl⟩ := List.mem_map.mp hd
      have := depth_encM t
      have := (h t ht).2
      omega
    omega
theorem nice_tnD {t : Trn} {B : Nat} (h : NcTn t B) (hB : B ≤ 55) : Nice (encTn t) := by
  have w1 : (encWd t.wood).canLay0 = true ∧ (encWd t.wood).depth ≤ 5 := by
    have e : ∀ d ∈ t.wood.map encKd, d.canLay0 = true ∧ d.depth ≤ 4 := fun d hd => by
      obtain ⟨p, hp, rfl⟩ := List.mem_map.mp hd
      obtain ⟨a1, a2⟩ := nice_rwsD (h.rows p hp)
      rw [encKd_tup]
      refine ⟨?_, ?_⟩
      · rw [PyData.canLay0, PyData.canLayAll0, PyData.canLayAll0, PyData.canLayAll0, can_s (h.kinds p hp), a1]
        rfl
      · rw [PyData.depth, PyData.depthAll, PyData.depthAll, PyData.depthAll, dep_s]
        omega
    unfold encWd
    refine ⟨?_, ?_⟩
    · rw [PyData.canLay0]
      exact canAll_of _ fun d hd => (e d hd).1
    · rw [PyData.depth]
      have := depthAll_of (n := 4) _ fun d hd => (e d hd).2
      omega
  have m1 : (moD t.modes).canLay0 = true ∧ (moD t.modes).depth ≤ 2 * B + 3 := by
    have e : ∀ d ∈ t.modes.map encMo, d.canLay0 = true ∧ d.depth ≤ 2 * B + 2 := fun d hd => by
      obtain ⟨p, hp, rfl⟩ := List.mem_map.mp hd
      obtain ⟨a1, a2⟩ := nice_trsD (h.rules p hp)
      rw [encMo_tup]
      refine ⟨?_, ?_⟩
      · rw [PyData.canLay0, PyData.canLayAll0, PyData.canLayAll0, PyData.canLayAll0, can_s (h.mkinds p hp), a1]
        rfl
      · rw [PyData.depth, PyData.depthAll, PyData.depthAll, PyData.depthAll, dep_s]
        omega
    unfold moD
    refine ⟨?_, ?_⟩
    · rw [PyData.canLay0]
      exact canAll_of _ fun d hd => (e d hd).1
    · rw [PyData.depth]
      have := depthAll_of (n := 2 * B + 2) _ fun d hd => (e d hd).2
      omega
  have e : encTn t = .tuple [encWd t.wood, encM t.start, moD t.modes] := rfl
  have c1 := can_encM t.start h.start.1
  have c2 := depth_encM t.start
  have c3 := h.start.2
  rw [e]
  refine ⟨?_, ?_⟩
  · rw [PyData.canLay0, PyData.canLayAll0, PyData.canLayAll0, PyData.canLayAll0, PyData.canLayAll0, w1.1, c1, m1.1]
    rfl
  · rw [PyData.depth, PyData.depthAll, PyData.depthAll, PyData.depthAll, PyData.depthAll]
    omega
end Mir
set_option Elab.async false
set_option linter.all false
set_option maxRecDepth 100000
set_option maxHeartbeats 4000000
namespace Mir
open PySem PySem.Spec L2
noncomputable section
end
end Mir
set_option Elab.async false
set_option linter.all false
set_option maxRecDepth 100000
set_option maxHeartbeats 4000000
namespace Mir
open PySem PySem.Spec L2
/-- a wood whose kinds and rows are told apart, each kind with a row without branches -/
structure WoodOk (w : Wood) : Prop where
  some : 1 ≤ w.length ∧ w.length ≤ 3
  kinds : (w.map (·.1)).Nodup
  kok : ∀ p ∈ w, PyData.strOk p.1 = true
  few : ∀ p ∈ w, p.2.length ≤ 3
  dist : ∀ p ∈ w, (p.2.map (·.nm)).Nodup
  rok : ∀ p ∈ w, ∀ r ∈ p.2, PyData.strOk r.nm = true ∧ r.br.length ≤ 3 ∧ ∀ z ∈ r.br, z ∈ w.map (·.1)
  leaf : ∀ p ∈ w, ∃ r ∈ p.2, r.br = []
def wideAt (num : Int) (r : Nat) : Nat := if r = 0 then 0 else if r = 1 then (1 + num % 2).toNat else (num % 4).toNat
def rowAt (N : Nat → Str) (n : Nat) (c : Int) (i r : Nat) : Rw := ⟨N ((mixI c (i : Nat) / 16 + (r : Nat)) % 8).toNat, (List.range (wideAt (mixI c ((8 + 4 * i + r : Nat) : Int)) r)).map fun j => N (mixI (mixI c ((8 + 4 * i + r : Nat) : Int)) (j : Nat) % (n : Int)).toNat⟩
def cntAt (c : Int) (i : Nat) : Nat := (2 + mixI c (i : Nat) % 2 - (if (decide (0 < i) && (mixI c (i : Nat) / 2 % 3 == 0)) = true then 1 else 0)).toNat
def rowsRaw (N : Nat → Str) (n : Nat) (c : Int) (i : Nat) : List Rw := (List.range (cntAt c i)).map (rowAt N n c i)
noncomputable def srtR (rs : List Rw) : List Rw := (sorted_rows rs).choose
theorem srtR_perm (rs : List Rw) : (srtR rs).Perm rs := (sorted_rows rs).choose_spec.1
theorem srtR_eq (rs : List Rw) : gSorted [.list (rs.map encRw)] = some (.l ((srtR rs).map fun r => .d (encRw r))) := (sorted_rows rs).choose_spec.2
noncomputable def woodOf (N : Nat → Str) (n : Nat) (c : Int) : Wood := (List.range n).map fun i => (N i, srtR (rowsRaw N n c i))
theorem mixI_pos (c j : Int) : 0 ≤ mixI c j := Int.emod_nonneg _ (by decide)
theorem cntAt_b (c : Int) (i : Nat) : 1 ≤ cntAt c i ∧ cntAt c i ≤ 3 := by
  unfold cntAt
  have := Int.emod_nonneg (mixI c (i : Nat)) (b := 2) (by decide)
  have := Int.emod_lt_of_pos (mixI c (i : Nat)) (b := 2) (by decide)
  split <;> omega
theorem wideAt_b (num : Int) (r : Nat) : wideAt num r ≤ 3 := by
  unfold wideAt
  have := Int.emod_nonneg num (b := 2) (by decide)
  have := Int.emod_lt_of_pos num (b := 2) (by decide)
  have := Int.emod_nonneg num (b := 4) (by decide)
  have := Int.emod_lt_of_pos num (b := 4) (by decide)
  split
  · omega
  · split <;> omega
theorem woodOf_ok {N : Nat → Str} {NS : PyData} (hN : NamesD NS N) {n : Nat} (hn : 1 ≤ n ∧ n ≤ 3) (c : Int) : WoodOk (woodOf N n c) where
  some := by unfold woodOf; rw [List.length_map, List.length_range]; exact hn
  kinds := by
    unfold woodOf
    rw [List.map_map, List.nodup_iff_pairwise_ne, List.pairwise_map]
    refine List.Pairwise.imp_of_mem ?_ List.pairwise_lt_range
    intro i j hi hj hlt
    rw [List.mem_range] at hi hj
    exact hN.ne i j (by omega) (by omega) (by omega)
  kok := fun p hp => by
    obtain ⟨i, hi, rfl⟩ := List.mem_map.mp hp
    rw [List.mem_range] at hi
    exact hN.ok i (by omega)
  few := fun p hp => by
    obtain ⟨i, hi, rfl⟩ := List.mem_map.mp hp
    have := (srtR_perm (rowsRaw N n c i)).length_eq
    have e : (rowsRaw N n c i).length = cntAt c i := by unfold rowsRaw; rw [List.length_map, List.length_range]
    have := cntAt_b c i
    show (srtR (rowsRaw N n c i)).length ≤ 3
    omega
  dist := fun p hp => by
    obtain ⟨i, hi, rfl⟩ := List.mem_map.mp hp
    rw [((srtR_perm (rowsRaw N n c i)).map (·.nm)).nodup_iff]
    unfold rowsRaw
    rw [List.map_map, List.nodup_iff_pairwise_ne, List.pairwise_map]
    refine List.Pairwise.imp_of_mem ?_ List.pairwise_lt_range
    intro r s hr hs hlt
    rw [List.mem_range] at hr hs
    have := cntAt_b c i
    show N ((mixI c (i : Nat) / 16 + (r : Nat)) % 8).toNat ≠ N ((mixI c (i : Nat) / 16 + (s : Nat)) % 8).toNat
    refine hN.ne _ _ ?_ ?_ ?_ <;> omega
  rok := fun p hp r hr => by
    obtain ⟨i, hi, rfl⟩ := List.mem_map.mp hp
    have hr' := (srtR_perm (rowsRaw N n c i)).mem_iff.mp hr
    obtain ⟨k, hk, rfl⟩ := List.mem_map.mp hr'
    refine ⟨hN.ok _ (by omega), ?_, fun z hz => ?_⟩
    · unfold rowAt
      rw [List.length_map, List.length_range]
      exact wideAt_b _ _
    · unfold rowAt at hz
      obtain ⟨j, _, rfl⟩ := List.mem_map.mp hz
      obtain ⟨x, hx, xl⟩ := emod_nat (c := mixI (mixI c ((8 + 4 * i + k : Nat) : Int)) (j : Nat)) (n := n) (by omega)
      rw [hx, Int.toNat_natCast]
      unfold woodOf
      rw [List.map_map, List.mem_map]
      exact ⟨x, List.mem_range.mpr xl, rfl⟩
  leaf := fun p hp => by
    obtain ⟨i, hi, rfl⟩ := List.mem_map.mp hp
    refine ⟨rowAt N n c i 0, (srtR_perm (rowsRaw N n c i)).mem_iff.mpr ?_, ?_⟩
    · unfold rowsRaw
      exact List.mem_map.mpr ⟨0, List.mem_range.mpr (by have := cntAt_b c i; omega), rfl⟩
    · unfold rowAt wideAt
      rfl
noncomputable section
def ksD (N : Nat → Str) (n : Nat) : PyData := .list ((List.range n).map fun i => .str (N i))
theorem ks_ix {N : Nat → Str} {n i : Nat} (h : i < n) : gIx (ksD N n) (.int (i : Nat)) = some (.str (N i)) := rng_ix _ h
theorem ks_len (N : Nat → Str) (n : Nat) : gLen [ksD N n] = some (.d (.int (n : Nat))) := by
  show some (Ow.d (.int ((List.range n).map _).length)) = _
  rw [List.length_map, List.length_range]
theorem ks_cut {ls : List (List Nat)} (h : Names8 ls) {n : Nat} (hn : n ≤ 8) : gSl (nsD ls) none (some (n : Int)) = some (.l (((List.range n).map fun i => PyData.str (lets (ls.getD i []))).map Ow.d)) := by
  unfold nsD
  rw [gSl_list, cutL_take]
  congr 2
  congr 1
  refine List.ext_getElem ?_ fun i h1 h2 => ?_
  · rw [List.length_take, List.length_map, List.length_map, List.length_range, h.eight]; omega
  · rw [List.length_take, List.length_map, h.eight] at h1
    have : i < ls.length := by rw [h.eight]; omega
    rw [List.getElem_take, List.getElem_map, List.getElem_map, List.getElem_range, List.getD_eq_getElem?_getD, List.getElem?_eq_getElem this]
    rfl
abbrev wdRow (f13 : List D → R Ow) : Ev → SR := (sSeq (sSet 8 (eM (eM (eB (aCons (eVar 0) (aCons (eM (eBinO gAdd (eB (eBinO gAdd (eC (.int 8)) (eBin gMul (eC (.int 4)) (eVar 4))) shD) (eVar 7)) viewD) aNil)) f13) viewD) Ow.d))
    (sSeq (sSet 9 (eM (eBin gIx (eB (eLst (aCons (eC (.int 0)) (aCons (eM (eBinO gAdd (eC (.int 1)) (eBin gMod (eVar 8) (eC (.int 2)))) viewD) (aCons (eBin gMod (eVar 8) (eC (.int 4))) aNil)))) shD) (eVar 7)) Ow.d))
    (sSeq (sSet 10 (eM (eM (eLc (eB (aCons (eVar 9) aNil) rg1) (gtName 11) cYes (eM (eBin gIx (eVar 2) (eBin gMod (eM (eB (aCons (eVar 8) (aCons (eVar 11) aNil)) f13) viewD) (eM (eCa gLen (aCons (eVar 2) aNil)) viewD))) Ow.d) (List.map (·.2) ([("_law_j", 11)] : List (Str × Nat)))) viewD) Ow.d))
    (sApp 6 (eM (eTup (aCons (eBin gIx (eVar 1) (eBin gMod (eM (eBinO gAdd (eBin gDiv (eVar 5) (eC (.int 16))) (eVar 7)) viewD) (eC (.int 8)))) (aCons (eM (eCa gTuple (aCons (eVar 10) aNil)) viewD) aNil))) Ow.d)))))
abbrev wdKind (f13 : List D → R Ow) : Ev → SR := (sSeq (sSet 5 (eM (eM (eB (aCons (eVar 0) (aCons (eVar 4) aNil)) f13) viewD) Ow.d))
    (sSeq (sSet 6 (eLst aNil))
    (sSeq (sFor (eB (aCons (eBin gSub (eM (eBinO gAdd (eC (.int 2)) (eBin gMod (eVar 5) (eC (.int 2)))) viewD) (eM (eCa gInt (aCons (eAnd (eBin gGt (eVar 4) (eC (.int 0))) (eBin gEq (eBin gMod (eBin gDiv (eVar 5) (eC (.int 2))) (eC (.int 3))) (eC (.int 0)))) aNil)) viewD)) aNil) rg1) (gtName 7)
    (wdRow f13))
    (sApp 3 (eM (eTup (aCons (eBin gIx (eVar 2) (eVar 4)) (aCons (eM (eCa gSorted (aCons (eB (eVarO 6) shD) aNil)) viewD) aNil))) Ow.d)))))
abbrev bWood8 (f13 : List D → R Ow) : Ev → SR := (sSeq (sSet 2 (eM (eM (eSl (eVar 1) oNone (eB (eM (eBinO gAdd (eC (.int 1)) (eBin gMod (eVar 0) (eC (.int 3)))) viewD) asI)) viewD) Ow.d))
    (sSeq (sSet 3 (eLst aNil))
    (sSeq (sFor (eB (aCons (eM (eCa gLen (aCons (eVar 2) aNil)) viewD) aNil) rg1) (gtName 4)
    (wdKind f13))
    (sRetV 3))))
section
variable {f13 : List D → R Ow} (h13 : ∀ (c : Int) (j : Nat), j ≤ 1000 → f13 [.int c, .int (j : Nat)] = .ok (.d (.int (mixI c (j : Nat))))) {N : Nat → Str} {NS : PyData} (hN : NamesD NS N) {n : Nat} (hn : 1 ≤ n ∧ n ≤ 3) (c : Int)
include h13 hN hn
theorem wdRow_ok (i r : Nat) (hi : i < 3) (hr : r < 3) (WO : Option Ow) (os : List Ow) (hl : os.length < 1000) (x8 x9 x10 : Option Ow) : ∃ y8 y9 y10, wdRow f13 [some (.d (.int c)), some (.d NS), some (.d (ksD N n)), WO, some (.d (.int (i : Nat))), some (.d (.int (mixI c (i : Nat)))), some (.l os), some (.d (.int (r : Nat))), x8, x9, x10, none] = .nx [some (.d (.int c)), some (.d NS), some (.d (ksD N n)), WO, some (.d (.int (i : Nat))), some (.d (.int (mixI c (i : Nat)))), some (.l (os ++ [.d (encRw (rowAt N n c i r))])), some (.d (.int (r : Nat))), y8, y9, y10, none] := by
  have m1 := h13 c (8 + 4 * i + r) (by omega)
  have e4 : gMul (.int 4) (.int (i : Nat)) = some (.int (4 * (i : Nat))) := gMul_small (by decide) (Nat.lt_trans (show ((i : Nat) : Int).natAbs < 100 by omega) (by decide))
  rw [show ((8 + 4 * i + r : Nat) : Int) = 8 + 4 * (i : Nat) + (r : Nat) from by omega] at m1
  unfold rowAt
  rw [show ((8 + 4 * i + r : Nat) : Int) = 8 + 4 * (i : Nat) + (r : Nat) from by omega]
  have F0 := mixI_pos c (i : Nat)
  generalize mixI c (8 + 4 * (i : Nat) + (r : Nat)) = num at m1
  generalize mixI c (i : Nat) = FI at F0
  have g2 : gMod (.int num) (.int 2) = some (.int (num % 2)) := gMod_int (by decide)
  have g4 : gMod (.int num) (.int 4) = some (.int (num % 4)) := gMod_int (by decide)
  have b20 := Int.emod_nonneg num (b := 2) (by decide)
  have b40 := Int.emod_nonneg num (b := 4) (by decide)
  have wd : gIx (.list [.int 0, .int (1 + num % 2), .int (num % 4)]) (.int (r : Nat)) = some (.int (wideAt num r : Nat)) := by
    unfold wideAt
    match r, hr with
    | 0, _ => rfl
    | 1, _ =>
      show some (PyData.int (1 + num % 2)) = _
      simp only [if_neg (show ¬ (1 : Nat) = 0 by decide), if_pos]
      rw [show (((1 + num % 2).toNat : Nat) : Int) = 1 + num % 2 from by omega]
    | 2, _ =>
      show some (PyData.int (num % 4)) = _
      simp only [if_neg (show ¬ (2 : Nat) = 0 by decide), if_neg (show ¬ (2 : Nat) = 1 by decide)]
      rw [show (((num % 4).toNat : Nat) : Int) = num % 4 from by omega]
  have wb := wideAt_b num r
  generalize wideAt num r = wide at wd wb
  have kl := ks_len N n
  have lc : eLc (eB (aCons (eVar 9) aNil) rg1) (gtName 11) cYes (eM (eBin gIx (eVar 2) (eBin gMod (eM (eB (aCons (eVar 8) (aCons (eVar 11) aNil)) f13) viewD) (eM (eCa gLen (aCons (eVar 2) aNil)) viewD))) Ow.d) (List.map (·.2) ([("_law_j", 11)] : List (Str × Nat))) [some (.d (.int c)), some (.d NS), some (.d (ksD N n)), WO, some (.d (.int (i : Nat))), some (.d (.int FI)), some (.l os), some (.d (.int (r : Nat))), some (.d (.int num)), some (.d (.int (wide : Nat))), x10, none] = .ok (.l ((List.range wide).map fun j => .d (.str (N (mixI num (j : Nat) % (n : Int)).toNat)))) := by
    refine eLc_of (ds := (List.range wide).map fun k : Nat => PyData.int (k : Nat)) (by
      have rg := rg1_nat wide (by omega)
      rw [rangeD_map] at rg
      generalize ksD N n = KS
      simp [rg]) (by rw [List.length_map, List.length_range, sizeLine_eq]; omega) (lcR_map _ _ (List.range wide) fun j hj => ?_)
    rw [List.mem_range] at hj
    have mj := h13 num j (by omega)
    obtain ⟨x, hx, xl⟩ := emod_nat (c := mixI num (j : Nat)) (n := n) (by omega)
    have gm : gMod (.int (mixI num (j : Nat))) (.int (n : Nat)) = some (.int (x : Nat)) := by rw [gMod_int (by omega), hx]
    have ix := ks_ix (N := N) xl
    refine ⟨[some (.d (.int c)), some (.d NS), some (.d (ksD N n)), WO, some (.d (.int (i : Nat))), some (.d (.int FI)), some (.l os), some (.d (.int (r : Nat))), some (.d (.int num)), some (.d (.int (wide : Nat))), x10, some (.d (.int (j : Nat)))], by
      generalize ksD N n = KS
      simp [wipeE], rfl, ?_⟩
    rw [hx, Int.toNat_natCast]
    generalize mixI num (j : Nat) = MJ at mj gm
    generalize ksD N n = KS at ix kl
    simp [mj, kl, gm, ix]
  have vc : viewD (.l ((List.range wide).map fun j => .d (.str (N (mixI num (j : Nat) % (n : Int)).toNat)))) = .list ((List.range wide).map fun j => .str (N (mixI num (j : Nat) % (n : Int)).toNat)) := viewD_of _ _
  refine ⟨some (.d (.int num)), some (.d (.int (wide : Nat))), some (.d (.list ((List.range wide).map fun j => .str (N (mixI num (j : Nat) % (n : Int)).toNat)))), ?_⟩
  refine seq_nx (env1 := [some (.d (.int c)), some (.d NS), some (.d (ksD N n)), WO, some (.d (.int (i : Nat))), some (.d (.int FI)), some (.l os), some (.d (.int (r : Nat))), some (.d (.int num)), x9, x10, none]) (by
    generalize ksD N n = KS
    simp [e4, m1]) ?_
  refine seq_nx (env1 := [some (.d (.int c)), some (.d NS), some (.d (ksD N n)), WO, some (.d (.int (i : Nat))), some (.d (.int FI)), some (.l os), some (.d (.int (r : Nat))), some (.d (.int num)), some (.d (.int (wide : Nat))), x10, none]) (by
    have s3 := shl3 (.int 0) (.int (1 + num % 2)) (.int (num % 4))
    generalize ksD N n = KS
    generalize num % 2 = X2 at g2 wd s3
    generalize num % 4 = X4 at g4 wd s3
    generalize PyData.list [.int 0, .int (1 + X2), .int X4] = LL at wd s3
    simp [g2, g4, s3, wd, sizeLine_eq]) ?_
  refine seq_nx (env1 := [some (.d (.int c)), some (.d NS), some (.d (ksD N n)), WO, some (.d (.int (i : Nat))), some (.d (.int FI)), some (.l os), some (.d (.int (r : Nat))), some (.d (.int num)), some (.d (.int (wide : Nat))), some (.d (.list ((List.range wide).map fun j => .str (N (mixI num (j : Nat) % (n : Int)).toNat)))), none]) (by
    rw [sSet_eq, eM_eq, eM_eq]
    refine (congrArg (fun r => R.st _ (R.map Ow.d (R.map viewD r)) _) lc).trans ?_
    rw [R.map_ok, R.map_ok, vc, R.st_ok]
    rfl) ?_
  have d16 : gDiv (.int FI) (.int 16) = some (.int (FI / 16)) := gDiv_small (by decide) (by decide)
  obtain ⟨q, hq, ql⟩ := emod_nat (c := FI / 16 + (r : Nat)) (n := 8) (by decide)
  have m8 : gMod (.int (FI / 16 + (r : Nat))) (.int 8) = some (.int (q : Nat)) := by rw [gMod_int (by decide)]; exact congrArg (fun z => some (PyData.int z)) hq
  have nq := hN.ix q ql
  have gt : gTuple [.list ((List.range wide).map fun j => .str (N (mixI num (j : Nat) % (n : Int)).toNat))] = some (.d (.tuple ((List.range wide).map fun j => .str (N (mixI num (j : Nat) % (n : Int)).toNat)))) := rfl
  have er : encRw ⟨N ((FI / 16 + (r : Nat)) % 8).toNat, (List.range wide).map fun j => N (mixI num (j : Nat) % (n : Int)).toNat⟩ = .tuple [.str (N q), .tuple ((List.range wide).map fun j => .str (N (mixI num (j : Nat) % (n : Int)).toNat))] := by
    have : ((FI / 16 + (r : Nat)) % 8).toNat = q := by rw [show (FI / 16 + (r : Nat)) % 8 = (q : Int) from hq, Int.toNat_natCast]
    unfold encRw
    rw [this, List.map_map]
    rfl
  rw [er]
  have hl2 : os.length < 16777216 := by omega
  generalize PyData.tuple ((List.range wide).map fun j => .str (N (mixI num (j : Nat) % (n : Int)).toNat)) = TB at gt
  generalize PyData.list ((List.range wide).map fun j => .str (N (mixI num (j : Nat) % (n : Int)).toNat)) = LB at gt
  generalize ksD N n = KS
  generalize FI / 16 = FD at d16 m8
  simp [d16, m8, nq, gt, sizeLine_eq, hl2]
theorem wdKind_ok (i : Nat) (hi : i < n) (w : List Ow) (hw : w.length < 1000) (x5 x6 x7 x8 x9 x10 : Option Ow) : ∃ y7 y8 y9 y10, wdKind f13 [some (.d (.int c)), some (.d NS), some (.d (ksD N n)), some (.l w), some (.d (.int (i : Nat))), x5, x6, x7, x8, x9, x10, none] = .nx [some (.d (.int c)), some (.d NS), some (.d (ksD N n)), some (.l (w ++ [.d (encKd (N i, srtR (rowsRaw N n c i)))])), some (.d (.int (i : Nat))), some (.d (.int (mixI c (i : Nat)))), some (.l ((rowsRaw N n c i).map fun r => .d (encRw r))), y7, y8, y9, y10, none] := by
  have mi := h13 c i (by omega)
  have cb := cntAt_b c i
  have F0 := mixI_pos c (i : Nat)
  have rl : (rowsRaw N n c i).length = cntAt c i := by unfold rowsRaw; rw [List.length_map, List.length_range]
  obtain ⟨env', e1, x7', y8, y9, y10, e2⟩ := forL_map (g := gtName 7) (f := wdRow f13) (fun k : Nat => PyData.int (k : Nat)) (List.range (cntAt c i))
    (fun j env => ∃ x7 x8 x9 x10, env = [some (.d (.int c)), some (.d NS), some (.d (ksD N n)), some (.l w), some (.d (.int (i : Nat))), some (.d (.int (mixI c (i : Nat)))), some (.l (((rowsRaw N n c i).take j).map fun r => .d (encRw r))), x7, x8, x9, x10, none]) (fun j r env hj ⟨x7, x8, x9, x10, e⟩ => by
      subst e
      obtain ⟨h1, h2⟩ := List.getElem?_eq_some_iff.mp hj
      rw [List.length_range] at h1
      rw [List.getElem_range] at h2
      subst h2
      obtain ⟨y8, y9, y10, q⟩ := wdRow_ok h13 hN hn c i j (by omega) (by omega) (some (.l w)) (((rowsRaw N n c i).take j).map fun r => .d (encRw r)) (by rw [List.length_map, List.length_take]; omega) x8 x9 x10
      refine ⟨_, rfl, _, .inl q, some (.d (.int (j : Nat))), y8, y9, y10, ?_⟩
      have tk : ((rowsRaw N n c i).take (j + 1)).map (fun r => Ow.d (encRw r)) = (((rowsRaw N n c i).take j).map fun r => .d (encRw r)) ++ [.d (encRw (rowAt N n c i j))] := by
        have : (rowsRaw N n c i)[j]? = some (rowAt N n c i j) := by unfold rowsRaw; rw [List.getElem?_map, List.getElem?_range h1]; rfl
        rw [List.take_add_one, this, List.map_append]
        rfl
      rw [tk]) [some (.d (.int c)), some (.d NS), some (.d (ksD N n)), some (.l w), some (.d (.int (i : Nat))), some (.d (.int (mixI c (i : Nat)))), some (.l []), x7, x8, x9, x10, none] ⟨x7, x8, x9, x10, rfl⟩
  subst e2
  rw [List.length_range, List.take_of_length_le (by omega)] at e1
  refine ⟨x7', y8, y9, y10, ?_⟩
  refine seq_nx (env1 := [some (.d (.int c)), some (.d NS), some (.d (ksD N n)), some (.l w), some (.d (.int (i : Nat))), some (.d (.int (mixI c (i : Nat)))), x6, x7, x8, x9, x10, none]) (by
    generalize ksD N n = KS
    generalize mixI c (i : Nat) = FI at mi
    simp [mi]) ?_
  refine seq_nx (env1 := [some (.d (.int c)), some (.d NS), some (.d (ksD N n)), some (.l w), some (.d (.int (i : Nat))), some (.d (.int (mixI c (i : Nat)))), some (.l []), x7, x8, x9, x10, none]) (by
    generalize ksD N n = KS
    simp [sizeLine_eq]) ?_
  refine seq_nx (env1 := [some (.d (.int c)), some (.d NS), some (.d (ksD N n)), some (.l w), some (.d (.int (i : Nat))), some (.d (.int (mixI c (i : Nat)))), some (.l ((rowsRaw N n c i).map fun r => .d (encRw r))), x7', y8, y9, y10, none]) (by
    have it : (eB (aCons (eBin gSub (eM (eBinO gAdd (eC (.int 2)) (eBin gMod (eVar 5) (eC (.int 2)))) viewD) (eM (eCa gInt (aCons (eAnd (eBin gGt (eVar 4) (eC (.int 0))) (eBin gEq (eBin gMod (eBin gDiv (eVar 5) (eC (.int 2))) (eC (.int 3))) (eC (.int 0)))) aNil)) viewD)) aNil) rg1) [some (.d (.int c)), some (.d NS), some (.d (ksD N n)), some (.l w), some (.d (.int (i : Nat))), some (.d (.int (mixI c (i : Nat)))), some (.l []), x7, x8, x9, x10, none] = .ok ((List.range (cntAt c i)).map fun k : Nat => PyData.int (k : Nat)) := by
      have rg := rg1_nat (cntAt c i) (by omega)
      rw [rangeD_map] at rg
      have ce : ((cntAt c i : Nat) : Int) = 2 + mixI c (i : Nat) % 2 - (if (decide (0 < i) && (mixI c (i : Nat) / 2 % 3 == 0)) = true then 1 else 0) := by
        unfold cntAt
        have := Int.emod_nonneg (mixI c (i : Nat)) (b := 2) (by decide)
        split <;> omega
      rw [ce] at rg
      have g2 : gMod (.int (mixI c (i : Nat))) (.int 2) = some (.int (mixI c (i : Nat) % 2)) := gMod_int (by decide)
      have d2 : gDiv (.int (mixI c (i : Nat))) (.int 2) = some (.int (mixI c (i : Nat) / 2)) := gDiv_small (by decide) (by decide)
      have g3 : gMod (.int (mixI c (i : Nat) / 2)) (.int 3) = some (.int (mixI c (i : Nat) / 2 % 3)) := gMod_int (by decide)
      have gg : gGt (.int (i : Nat)) (.int 0) = some (.bool (decide (0 < i))) := by
        show some (PyData.bool (decide ((0 : Int) < (i : Nat)))) = _
        congr 2
        simp
      generalize mixI c (i : Nat) / 2 % 3 = Z3 at g3 rg
      generalize mixI c (i : Nat) / 2 = Z2 at d2 g3
      generalize mixI c (i : Nat) % 2 = Y2 at g2 rg
      generalize decide (0 < i) = B at gg rg
      generalize ksD N n = KS
      generalize mixI c (i : Nat) = FI at g2 d2
      have gs : ∀ a b : Int, gSub (.int a) (.int b) = some (.int (a - b)) := fun a b => rfl
      cases B with
      | false =>
        simp only [Bool.false_and, Bool.false_eq_true, if_false, Int.sub_zero] at rg
        simp [g2, gg, gs]
        exact rg
      | true =>
        simp only [Bool.true_and, beq_iff_eq] at rg
        simp [g2, gg, d2, g3, gs]
        exact rg
    rw [sFor_eq, it, R.st_ok, e1]) ?_
  have ki := ks_ix (N := N) hi
  have sh : shD (.l ((rowsRaw N n c i).map fun r => .d (encRw r))) = .ok (.list ((rowsRaw N n c i).map encRw)) := unDs_of encRw _
  have sr := srtR_eq (rowsRaw N n c i)
  have sv : viewD (.l ((srtR (rowsRaw N n c i)).map fun r => .d (encRw r))) = rwsD (srtR (rowsRaw N n c i)) := viewD_of encRw _
  have ek : encKd (N i, srtR (rowsRaw N n c i)) = .tuple [.str (N i), rwsD (srtR (rowsRaw N n c i))] := rfl
  rw [ek]
  have hw2 : w.length < 16777216 := by omega
  generalize rwsD (srtR (rowsRaw N n c i)) = RW at sv
  generalize Ow.l ((srtR (rowsRaw N n c i)).map fun r => .d (encRw r)) = RO at sr sv
  generalize PyData.list ((rowsRaw N n c i).map encRw) = RL at sh sr
  generalize Ow.l ((rowsRaw N n c i).map fun r => .d (encRw r)) = RR at sh
  generalize ksD N n = KS at ki
  simp [ki, sh, sr, sv, sizeLine_eq, hw2]
end
theorem wood8_fin {f13 : List D → R Ow} (h13 : ∀ (c : Int) (j : Nat), j ≤ 1000 → f13 [.int c, .int (j : Nat)] = .ok (.d (.int (mixI c (j : Nat))))) {ls : List (List Nat)} (h8 : Names8 ls) {N : Nat → Str} (hNe : N = fun i => lets (ls.getD i [])) (c : Int) : ∃ n, (1 ≤ n ∧ n ≤ 3) ∧ finR (bWood8 f13 (envOf 10 [.int c, nsD ls])) = .ok (.l ((woodOf N n c).map fun p => .d (encKd p))) := by
  have hN : NamesD (nsD ls) N := by rw [hNe]; exact names_at h8
  obtain ⟨m, hm, ml⟩ := emod_nat (c := c) (n := 3) (by decide)
  change c % 3 = _ at hm
  refine ⟨1 + m, by omega, ?_⟩
  have hn : 1 ≤ 1 + m ∧ 1 + m ≤ 3 := by omega
  have g3 : gMod (.int c) (.int 3) = some (.int (m : Nat)) := by rw [gMod_int (by decide), hm]
  have cut := ks_cut h8 (n := 1 + m) (by omega)
  rw [show ((1 + m : Nat) : Int) = 1 + (m : Nat) from by omega] at cut
  have vk : viewD (.l (((List.range (1 + m)).map fun i => PyData.str (lets (ls.getD i []))).map Ow.d)) = ksD N (1 + m) := by rw [hNe]; exact vw_ls _
  generalize Ow.l (((List.range (1 + m)).map fun i => PyData.str (lets (ls.getD i []))).map Ow.d) = KO at cut vk
  generalize nsD ls = NS at cut hN
  have he : envOf 10 [.int c, NS] = [some (.d (.int c)), some (.d NS), none, none, none, none, none, none, none, none, none, none] := rfl
  rw [he]
  refine fin_step (env1 := [some (.d (.int c)), some (.d NS), some (.d (ksD N (1 + m))), none, none, none, none, none, none, none, none, none]) (by
    generalize ksD N (1 + m) = KS at vk
    simp [g3, cut, vk]) ?_
  refine fin_step (env1 := [some (.d (.int c)), some (.d NS), some (.d (ksD N (1 + m))), some (.l []), none, none, none, none, none, none, none, none]) (by
    generalize ksD N (1 + m) = KS
    simp [sizeLine_eq]) ?_
  have wl : (woodOf N (1 + m) c).length = 1 + m := by unfold woodOf; rw [List.length_map, List.length_range]
  obtain ⟨env', e1, x4, x5, x6, x7, x8, x9, x10, e2⟩ := forL_map (g := gtName 4) (f := wdKind f13) (fun k : Nat => PyData.int (k : Nat)) (List.range (1 + m))
    (fun j env => ∃ x4 x5 x6 x7 x8 x9 x10, env = [some (.d (.int c)), some (.d NS), some (.d (ksD N (1 + m))), some (.l (((woodOf N (1 + m) c).take j).map fun p => .d (encKd p))), x4, x5, x6, x7, x8, x9, x10, none]) (fun j r env hj ⟨x4, x5, x6, x7, x8, x9, x10, e⟩ => by
      subst e
      obtain ⟨h1, h2⟩ := List.getElem?_eq_some_iff.mp hj
      rw [List.length_range] at h1
      rw [List.getElem_range] at h2
      subst h2
      obtain ⟨y7, y8, y9, y10, q⟩ := wdKind_ok h13 hN hn c j h1 (((woodOf N (1 + m) c).take j).map fun p => .d (encKd p)) (by rw [List.length_map, List.length_take]; omega) x5 x6 x7 x8 x9 x10
      refine ⟨_, rfl, _, .inl q, some (.d (.int (j : Nat))), some (.d (.int (mixI c (j : Nat)))), some (.l ((rowsRaw N (1 + m) c j).map fun r => .d (encRw r))), y7, y8, y9, y10, ?_⟩
      have tk : ((woodOf N (1 + m) c).take (j + 1)).map (fun p => Ow.d (encKd p)) = (((woodOf N (1 + m) c).take j).map fun p => .d (encKd p)) ++ [.d (encKd (N j, srtR (rowsRaw N (1 + m) c j)))] := by
        have : (woodOf N (1 + m) c)[j]? = some (N j, srtR (rowsRaw N (1 + m) c j)) := by unfold woodOf; rw [List.getElem?_map, List.getElem?_range h1]; rfl
        rw [List.take_add_one, this, List.map_append]
        rfl
      rw [tk]) [some (.d (.int c)), some (.d NS), some (.d (ksD N (1 + m))), some (.l []), none, none, none, none, none, none, none, none] ⟨none, none, none, none, none, none, none, rfl⟩
  subst e2
  rw [List.length_range, List.take_of_length_le (by omega)] at e1
  refine fin_step (env1 := [some (.d (.int c)), some (.d NS), some (.d (ksD N (1 + m))), some (.l ((woodOf N (1 + m) c).map fun p => .d (encKd p))), x4, x5, x6, x7, x8, x9, x10, none]) (by
    have kl := ks_len N (1 + m)
    have it : (eB (aCons (eM (eCa gLen (aCons (eVar 2) aNil)) viewD) aNil) rg1) [some (.d (.int c)), some (.d NS), some (.d (ksD N (1 + m))), some (.l []), none, none, none, none, none, none, none, none] = .ok ((List.range (1 + m)).map fun k : Nat => PyData.int (k : Nat)) := by
      have rg := rg1_nat (1 + m) (by omega)
      rw [rangeD_map] at rg
      generalize ksD N (1 + m) = KS at kl
      simp only [eB_eq, aCons_eq, eM_eq, eCa_eq, eVar_2, aNil_eq, R.bind_ok, R.map_ok, kl, R.of_some, viewD_d]
      exact rg
    rw [sFor_eq, it, R.st_ok, e1]) ?_
  rfl
end
end Mir
set_option Elab.async false
set_option linter.all false
set_option maxRecDepth 100000
set_option maxHeartbeats 4000000
namespace Mir.W3
open PySem PySem.Spec L2
def wideAt (num : Int) (r : Nat) : Nat := if r = 0 then 0 else if r = 1 then (1 + num % 2).toNat else (num % 3).toNat
def rowAt (N : Nat → Str) (n : Nat) (c : Int) (i r : Nat) : Rw := ⟨N ((mixI c (i : Nat) / 16 + (r : Nat)) % 8).toNat, (List.range (wideAt (mixI c ((8 + 4 * i + r : Nat) : Int)) r)).map fun j => N (mixI (mixI c ((8 + 4 * i + r : Nat) : Int)) (j : Nat) % (n : Int)).toNat⟩
def cntAt (c : Int) (i : Nat) : Nat := (2 + mixI c (i : Nat) % 2 - (if (decide (0 < i) && (mixI c (i : Nat) / 2 % 3 == 0)) = true then 1 else 0)).toNat
def rowsRaw (N : Nat → Str) (n : Nat) (c : Int) (i : Nat) : List Rw := (List.range (cntAt c i)).map (rowAt N n c i)
noncomputable def srtR (rs : List Rw) : List Rw := (sorted_rows rs).choose
theorem srtR_perm (rs : List Rw) : (srtR rs).Perm rs := (sorted_rows rs).choose_spec.1
theorem srtR_eq (rs : List Rw) : gSorted [.list (rs.map encRw)] = some (.l ((srtR rs).map fun r => .d (encRw r))) := (sorted_rows rs).choose_spec.2
noncomputable def woodOf (N : Nat → Str) (n : Nat) (c : Int) : Wood := (List.range n).map fun i => (N i, srtR (rowsRaw N n c i))
theorem mixI_pos (c j : Int) : 0 ≤ mixI c j := Int.emod_nonneg _ (by decide)
theorem cntAt_b (c : Int) (i : Nat) : 1 ≤ cntAt c i ∧ cntAt c i ≤ 3 := by
  unfold cntAt
  have := Int.emod_nonneg (mixI c (i : Nat)) (b := 2) (by decide)
  have := Int.emod_lt_of_pos (mixI c (i : Nat)) (b := 2) (by decide)
  split <;> omega
theorem wideAt_b (num : Int) (r : Nat) : wideAt num r ≤ 3 := by
  unfold wideAt
  have := Int.emod_nonneg num (b := 2) (by decide)
  have := Int.emod_lt_of_pos num (b := 2) (by decide)
  have := Int.emod_nonneg num (b := 3) (by decide)
  have := Int.emod_lt_of_pos num (b := 3) (by decide)
  split
  · omega
  · split <;> omega
theorem woodOf_ok {N : Nat → Str} {NS : PyData} (hN : NamesD NS N) {n : Nat} (hn : 1 ≤ n ∧ n ≤ 3) (c : Int) : WoodOk (woodOf N n c) where
  some := by unfold woodOf; rw [List.length_map, List.length_range]; exact hn
  kinds := by
    unfold woodOf
    rw [List.map_map, List.nodup_iff_pairwise_ne, List.pairwise_map]
    refine List.Pairwise.imp_of_mem ?_ List.pairwise_lt_range
    intro i j hi hj hlt
    rw [List.mem_range] at hi hj
    exact hN.ne i j (by omega) (by omega) (by omega)
  kok := fun p hp => by
    obtain ⟨i, hi, rfl⟩ := List.mem_map.mp hp
    rw [List.mem_range] at hi
    exact hN.ok i (by omega)
  few := fun p hp => by
    obtain ⟨i, hi, rfl⟩ := List.mem_map.mp hp
    have := (srtR_perm (rowsRaw N n c i)).length_eq
    have e : (rowsRaw N n c i).length = cntAt c i := by unfold rowsRaw; rw [List.length_map, List.length_range]
    have := cntAt_b c i
    show (srtR (rowsRaw N n c i)).length ≤ 3
    omega
  dist := fun p hp => by
    obtain ⟨i, hi, rfl⟩ := List.mem_map.mp hp
    rw [((srtR_perm (rowsRaw N n c i)).map (·.nm)).nodup_iff]
    unfold rowsRaw
    rw [List.map_map, List.nodup_iff_pairwise_ne, List.pairwise_map]
    refine List.Pairwise.imp_of_mem ?_ List.pairwise_lt_range
    intro r s hr hs hlt
    rw [List.mem_range] at hr hs
    have := cntAt_b c i
    show N ((mixI c (i : Nat) / 16 + (r : Nat)) % 8).toNat ≠ N ((mixI c (i : Nat) / 16 + (s : Nat)) % 8).toNat
    refine hN.ne _ _ ?_ ?_ ?_ <;> omega
  rok := fun p hp r hr => by
    obtain ⟨i, hi, rfl⟩ := List.mem_map.mp hp
    have hr' := (srtR_perm (rowsRaw N n c i)).mem_iff.mp hr
    obtain ⟨k, hk, rfl⟩ := List.mem_map.mp hr'
    refine ⟨hN.ok _ (by omega), ?_, fun z hz => ?_⟩
    · unfold rowAt
      rw [List.length_map, List.length_range]
      exact wideAt_b _ _
    · unfold rowAt at hz
      obtain ⟨j, _, rfl⟩ := List.mem_map.mp hz
      obtain ⟨x, hx, xl⟩ := emod_nat (c := mixI (mixI c ((8 + 4 * i + k : Nat) : Int)) (j : Nat)) (n := n) (by omega)
      rw [hx, Int.toNat_natCast]
      unfold woodOf
      rw [List.map_map, List.mem_map]
      exact ⟨x, List.mem_range.mpr xl, rfl⟩
  leaf := fun p hp => by
    obtain ⟨i, hi, rfl⟩ := List.mem_map.mp hp
    refine ⟨rowAt N n c i 0, (srtR_perm (rowsRaw N n c i)).mem_iff.mpr ?_, ?_⟩
    · unfold rowsRaw
      exact List.mem_map.mpr ⟨0, List.mem_range.mpr (by have := cntAt_b c i; omega), rfl⟩
    · unfold rowAt wideAt
      rfl
noncomputable section
def ksD (N : Nat → Str) (n : Nat) : PyData := .list ((List.range n).map fun i => .str (N i))
theorem ks_ix {N : Nat → Str} {n i : Nat} (h : i < n) : gIx (ksD N n) (.int (i : Nat)) = some (.str (N i)) := rng_ix _ h
theorem ks_len (N : Nat → Str) (n : Nat) : gLen [ksD N n] = some (.d (.int (n : Nat))) := by
  show some (Ow.d (.int ((List.range n).map _).length)) = _
  rw [List.length_map, List.length_range]
theorem ks_cut {ls : List (List Nat)} (h : Names8 ls) {n : Nat} (hn : n ≤ 8) : gSl (nsD ls) none (some (n : Int)) = some (.l (((List.range n).map fun i => PyData.str (lets (ls.getD i []))).map Ow.d)) := by
  unfold nsD
  rw [gSl_list, cutL_take]
  congr 2
  congr 1
  refine List.ext_getElem ?_ fun i h1 h2 => ?_
  · rw [List.length_take, List.length_map, List.length_map, List.length_range, h.eight]; omega
  · rw [List.length_take, List.length_map, h.eight] at h1
    have : i < ls.length := by rw [h.eight]; omega
    rw [List.getElem_take, List.getElem_map, List.getElem_map, List.getElem_range, List.getD_eq_getElem?_getD, List.getElem?_eq_getElem this]
    rfl
abbrev wdRow (f13 : List D → R Ow) : Ev → SR := (sSeq (sSet 8 (eM (eM (eB (aCons (eVar 0) (aCons (eM (eBinO gAdd (eB (eBinO gAdd (eC (.int 8)) (eBin gMul (eC (.int 4)) (eVar 4))) shD) (eVar 7)) viewD) aNil)) f13) viewD) Ow.d))
    (sSeq (sSet 9 (eM (eBin gIx (eB (eLst (aCons (eC (.int 0)) (aCons (eM (eBinO gAdd (eC (.int 1)) (eBin gMod (eVar 8) (eC (.int 2)))) viewD) (aCons (eBin gMod (eVar 8) (eC (.int 3))) aNil)))) shD) (eVar 7)) Ow.d))
    (sSeq (sSet 10 (eM (eM (eLc (eB (aCons (eVar 9) aNil) rg1) (gtName 11) cYes (eM (eBin gIx (eVar 2) (eBin gMod (eM (eB (aCons (eVar 8) (aCons (eVar 11) aNil)) f13) viewD) (eM (eCa gLen (aCons (eVar 2) aNil)) viewD))) Ow.d) (List.map (·.2) ([("_law_j", 11)] : List (Str × Nat)))) viewD) Ow.d))
    (sApp 6 (eM (eTup (aCons (eBin gIx (eVar 1) (eBin gMod (eM (eBinO gAdd (eBin gDiv (eVar 5) (eC (.int 16))) (eVar 7)) viewD) (eC (.int 8)))) (aCons (eM (eCa gTuple (aCons (eVar 10) aNil)) viewD) aNil))) Ow.d)))))
abbrev wdKind (f13 : List D → R Ow) : Ev → SR := (sSeq (sSet 5 (eM (eM (eB (aCons (eVar 0) (aCons (eVar 4) aNil)) f13) viewD) Ow.d))
    (sSeq (sSet 6 (eLst aNil))
    (sSeq (sFor (eB (aCons (eBin gSub (eM (eBinO gAdd (eC (.int 2)) (eBin gMod (eVar 5) (eC (.int 2)))) viewD) (eM (eCa gInt (aCons (eAnd (eBin gGt (eVar 4) (eC (.int 0))) (eBin gEq (eBin gMod (eBin gDiv (eVar 5) (eC (.int 2))) (eC (.int 3))) (eC (.int 0)))) aNil)) viewD)) aNil) rg1) (gtName 7)
    (wdRow f13))
    (sApp 3 (eM (eTup (aCons (eBin gIx (eVar 2) (eVar 4)) (aCons (eM (eCa gSorted (aCons (eB (eVarO 6) shD) aNil)) viewD) aNil))) Ow.d)))))
abbrev bWood8 (f13 : List D → R Ow) : Ev → SR := (sSeq (sSet 2 (eM (eM (eSl (eVar 1) oNone (eB (eM (eBinO gAdd (eC (.int 1)) (eBin gMod (eVar 0) (eC (.int 3)))) viewD) asI)) viewD) Ow.d))
    (sSeq (sSet 3 (eLst aNil))
    (sSeq (sFor (eB (aCons (eM (eCa gLen (aCons (eVar 2) aNil)) viewD) aNil) rg1) (gtName 4)
    (wdKind f13))
    (sRetV 3))))
section
variable {f13 : List D → R Ow} (h13 : ∀ (c : Int) (j : Nat), j ≤ 1000 → f13 [.int c, .int (j : Nat)] = .ok (.d (.int (mixI c (j : Nat))))) {N : Nat → Str} {NS : PyData} (hN : NamesD NS N) {n : Nat} (hn : 1 ≤ n ∧ n ≤ 3) (c : Int)
include h13 hN hn
theorem wdRow_ok (i r : Nat) (hi : i < 3) (hr : r < 3) (WO : Option Ow) (os : List Ow) (hl : os.length < 1000) (x8 x9 x10 : Option Ow) : ∃ y8 y9 y10, wdRow f13 [some (.d (.int c)), some (.d NS), some (.d (ksD N n)), WO, some (.d (.int (i : Nat))), some (.d (.int (mixI c (i : Nat)))), some (.l os), some (.d (.int (r : Nat))), x8, x9, x10, none] = .nx [some (.d (.int c)), some (.d NS), some (.d (ksD N n)), WO, some (.d (.int (i : Nat))), some (.d (.int (mixI c (i : Nat)))), some (.l (os ++ [.d (encRw (rowAt N n c i r))])), some (.d (.int (r : Nat))), y8, y9, y10, none] := by
  have m1 := h13 c (8 + 4 * i + r) (by omega)
  have e4 : gMul (.int 4) (.int (i : Nat)) = some (.int (4 * (i : Nat))) := gMul_small (by decide) (Nat.lt_trans (show ((i : Nat) : Int).natAbs < 100 by omega) (by decide))
  rw [show ((8 + 4 * i + r : Nat) : Int) = 8 + 4 * (i : Nat) + (r : Nat) from by omega] at m1
  unfold rowAt
  rw [show ((8 + 4 * i + r : Nat) : Int) = 8 + 4 * (i : Nat) + (r : Nat) from by omega]
  have F0 := mixI_pos c (i : Nat)
  generalize mixI c (8 + 4 * (i : Nat) + (r : Nat)) = num at m1
  generalize mixI c (i : Nat) = FI at F0
  have g2 : gMod (.int num) (.int 2) = some (.int (num % 2)) := gMod_int (by decide)
  have g4 : gMod (.int num) (.int 3) = some (.int (num % 3)) := gMod_int (by decide)
  have b20 := Int.emod_nonneg num (b := 2) (by decide)
  have b40 := Int.emod_nonneg num (b := 3) (by decide)
  have wd : gIx (.list [.int 0, .int (1 + num % 2), .int (num % 3)]) (.int (r : Nat)) = some (.int (wideAt num r : Nat)) := by
    unfold wideAt
    match r, hr with
    | 0, _ => rfl
    | 1, _ =>
      show some (PyData.int (1 + num % 2)) = _
      simp only [if_neg (show ¬ (1 : Nat) = 0 by decide), if_pos]
      rw [show (((1 + num % 2).toNat : Nat) : Int) = 1 + num % 2 from by omega]
    | 2, _ =>
      show some (PyData.int (num % 3)) = _
      simp only [if_neg (show ¬ (2 : Nat) = 0 by decide), if_neg (show ¬ (2 : Nat) = 1 by decide)]
      rw [show (((num % 3).toNat : Nat) : Int) = num % 3 from by omega]
  have wb := wideAt_b num r
  generalize wideAt num r = wide at wd wb
  have kl := ks_len N n
  have lc : eLc (eB (aCons (eVar 9) aNil) rg1) (gtName 11) cYes (eM (eBin gIx (eVar 2) (eBin gMod (eM (eB (aCons (eVar 8) (aCons (eVar 11) aNil)) f13) viewD) (eM (eCa gLen (aCons (eVar 2) aNil)) viewD))) Ow.d) (List.map (·.2) ([("_law_j", 11)] : List (Str × Nat))) [some (.d (.int c)), some (.d NS), some (.d (ksD N n)), WO, some (.d (.int (i : Nat))), some (.d (.int FI)), some (.l os), some (.d (.int (r : Nat))), some (.d (.int num)), some (.d (.int (wide : Nat))), x10, none] = .ok (.l ((List.range wide).map fun j => .d (.str (N (mixI num (j : Nat) % (n : Int)).toNat)))) := by
    refine eLc_of (ds := (List.range wide).map fun k : Nat => PyData.int (k : Nat)) (by
      have rg := rg1_nat wide (by omega)
      rw [rangeD_map] at rg
      generalize ksD N n = KS
      simp [rg]) (by rw [List.length_map, List.length_range, sizeLine_eq]; omega) (lcR_map _ _ (List.range wide) fun j hj => ?_)
    rw [List.mem_range] at hj
    have mj := h13 num j (by omega)
    obtain ⟨x, hx, xl⟩ := emod_nat (c := mixI num (j : Nat)) (n := n) (by omega)
    have gm : gMod (.int (mixI num (j : Nat))) (.int (n : Nat)) = some (.int (x : Nat)) := by rw [gMod_int (by omega), hx]
    have ix := ks_ix (N := N) xl
    refine ⟨[some (.d (.int c)), some (.d NS), some (.d (ksD N n)), WO, some (.d (.int (i : Nat))), some (.d (.int FI)), some (.l os), some (.d (.int (r : Nat))), some (.d (.int num)), some (.d (.int (wide : Nat))), x10, some (.d (.int (j : Nat)))], by
      generalize ksD N n = KS
      simp [wipeE], rfl, ?_⟩
    rw [hx, Int.toNat_natCast]
    generalize mixI num (j : Nat) = MJ at mj gm
    generalize ksD N n = KS at ix kl
    simp [mj, kl, gm, ix]
  have vc : viewD (.l ((List.range wide).map fun j => .d (.str (N (mixI num (j : Nat) % (n : Int)).toNat)))) = .list ((List.range wide).map fun j => .str (N (mixI num (j : Nat) % (n : Int)).toNat)) := viewD_of _ _
  refine ⟨some (.d (.int num)), some (.d (.int (wide : Nat))), some (.d (.list ((List.range wide).map fun j => .str (N (mixI num (j : Nat) % (n : Int)).toNat)))), ?_⟩
  refine seq_nx (env1 := [some (.d (.int c)), some (.d NS), some (.d (ksD N n)), WO, some (.d (.int (i : Nat))), some (.d (.int FI)), some (.l os), some (.d (.int (r : Nat))), some (.d (.int num)), x9, x10, none]) (by
    generalize ksD N n = KS
    simp [e4, m1]) ?_
  refine seq_nx (env1 := [some (.d (.int c)), some (.d NS), some (.d (ksD N n)), WO, some (.d (.int (i : Nat))), some (.d (.int FI)), some (.l os), some (.d (.int (r : Nat))), some (.d (.int num)), some (.d (.int (wide : Nat))), x10, none]) (by
    have s3 := shl3 (.int 0) (.int (1 + num % 2)) (.int (num % 3))
    generalize ksD N n = KS
    generalize num % 2 = X2 at g2 wd s3
    generalize num % 3 = X4 at g4 wd s3
    generalize PyData.list [.int 0, .int (1 + X2), .int X4] = LL at wd s3
    simp [g2, g4, s3, wd, sizeLine_eq]) ?_
  refine seq_nx (env1 := [some (.d (.int c)), some (.d NS), some (.d (ksD N n)), WO, some (.d (.int (i : Nat))), some (.d (.int FI)), some (.l os), some (.d (.int (r : Nat))), some (.d (.int num)), some (.d (.int (wide : Nat))), some (.d (.list ((List.range wide).map fun j => .str (N (mixI num (j : Nat) % (n : Int)).toNat)))), none]) (by
    rw [sSet_eq, eM_eq, eM_eq]
    refine (congrArg (fun r => R.st _ (R.map Ow.d (R.map viewD r)) _) lc).trans ?_
    rw [R.map_ok, R.map_ok, vc, R.st_ok]
    rfl) ?_
  have d16 : gDiv (.int FI) (.int 16) = some (.int (FI / 16)) := gDiv_small (by decide) (by decide)
  obtain ⟨q, hq, ql⟩ := emod_nat (c := FI / 16 + (r : Nat)) (n := 8) (by decide)
  have m8 : gMod (.int (FI / 16 + (r : Nat))) (.int 8) = some (.int (q : Nat)) := by rw [gMod_int (by decide)]; exact congrArg (fun z => some (PyData.int z)) hq
  have nq := hN.ix q ql
  have gt : gTuple [.list ((List.range wide).map fun j => .str (N (mixI num (j : Nat) % (n : Int)).toNat))] = some (.d (.tuple ((List.range wide).map fun j => .str (N (mixI num (j : Nat) % (n : Int)).toNat)))) := rfl
  have er : encRw ⟨N ((FI / 16 + (r : Nat)) % 8).toNat, (List.range wide).map fun j => N (mixI num (j : Nat) % (n : Int)).toNat⟩ = .tuple [.str (N q), .tuple ((List.range wide).map fun j => .str (N (mixI num (j : Nat) % (n : Int)).toNat))] := by
    have : ((FI / 16 + (r : Nat)) % 8).toNat = q := by rw [show (FI / 16 + (r : Nat)) % 8 = (q : Int) from hq, Int.toNat_natCast]
    unfold encRw
    rw [this, List.map_map]
    rfl
  rw [er]
  have hl2 : os.length < 16777216 := by omega
  generalize PyData.tuple ((List.range wide).map fun j => .str (N (mixI num (j : Nat) % (n : Int)).toNat)) = TB at gt
  generalize PyData.list ((List.range wide).map fun j => .str (N (mixI num (j : Nat) % (n : Int)).toNat)) = LB at gt
  generalize ksD N n = KS
  generalize FI / 16 = FD at d16 m8
  simp [d16, m8, nq, gt, sizeLine_eq, hl2]
theorem wdKind_ok (i : Nat) (hi : i < n) (w : List Ow) (hw : w.length < 1000) (x5 x6 x7 x8 x9 x10 : Option Ow) : ∃ y7 y8 y9 y10, wdKind f13 [some (.d (.int c)), some (.d NS), some (.d (ksD N n)), some (.l w), some (.d (.int (i : Nat))), x5, x6, x7, x8, x9, x10, none] = .nx [some (.d (.int c)), some (.d NS), some (.d (ksD N n)), some (.l (w ++ [.d (encKd (N i, srtR (rowsRaw N n c i)))])), some (.d (.int (i : Nat))), some (.d (.int (mixI c (i : Nat)))), some (.l ((rowsRaw N n c i).map fun r => .d (encRw r))), y7, y8, y9, y10, none] := by
  have mi := h13 c i (by omega)
  have cb := cntAt_b c i
  have F0 := mixI_pos c (i : Nat)
  have rl : (rowsRaw N n c i).length = cntAt c i := by unfold rowsRaw; rw [List.length_map, List.length_range]
  obtain ⟨env', e1, x7', y8, y9, y10, e2⟩ := forL_map (g := gtName 7) (f := wdRow f13) (fun k : Nat => PyData.int (k : Nat)) (List.range (cntAt c i))
    (fun j env => ∃ x7 x8 x9 x10, env = [some (.d (.int c)), some (.d NS), some (.d (ksD N n)), some (.l w), some (.d (.int (i : Nat))), some (.d (.int (mixI c (i : Nat)))), some (.l (((rowsRaw N n c i).take j).map fun r => .d (encRw r))), x7, x8, x9, x10, none]) (fun j r env hj ⟨x7, x8, x9, x10, e⟩ => by
      subst e
      obtain ⟨h1, h2⟩ := List.getElem?_eq_some_iff.mp hj
      rw [List.length_range] at h1
      rw [List.getElem_range] at h2
      subst h2
      obtain ⟨y8, y9, y10, q⟩ := wdRow_ok h13 hN hn c i j (by omega) (by omega) (some (.l w)) (((rowsRaw N n c i).take j).map fun r => .d (encRw r)) (by rw [List.length_map, List.length_take]; omega) x8 x9 x10
      refine ⟨_, rfl, _, .inl q, some (.d (.int (j : Nat))), y8, y9, y10, ?_⟩
      have tk : ((rowsRaw N n c i).take (j + 1)).map (fun r => Ow.d (encRw r)) = (((rowsRaw N n c i).take j).map fun r => .d (encRw r)) ++ [.d (encRw (rowAt N n c i j))] := by
        have : (rowsRaw N n c i)[j]? = some (rowAt N n c i j) := by unfold rowsRaw; rw [List.getElem?_map, List.getElem?_range h1]; rfl
        rw [List.take_add_one, this, List.map_append]
        rfl
      rw [tk]) [some (.d (.int c)), some (.d NS), some (.d (ksD N n)), some (.l w), some (.d (.int (i : Nat))), some (.d (.int (mixI c (i : Nat)))), some (.l []), x7, x8, x9, x10, none] ⟨x7, x8, x9, x10, rfl⟩
  subst e2
  rw [List.length_range, List.take_of_length_le (by omega)] at e1
  refine ⟨x7', y8, y9, y10, ?_⟩
  refine seq_nx (env1 := [some (.d (.int c)), some (.d NS), some (.d (ksD N n)), some (.l w), some (.d (.int (i : Nat))), some (.d (.int (mixI c (i : Nat)))), x6, x7, x8, x9, x10, none]) (by
    generalize ksD N n = KS
    generalize mixI c (i : Nat) = FI at mi
    simp [mi]) ?_
  refine seq_nx (env1 := [some (.d (.int c)), some (.d NS), some (.d (ksD N n)), some (.l w), some (.d (.int (i : Nat))), some (.d (.int (mixI c (i : Nat)))), some (.l []), x7, x8, x9, x10, none]) (by
    generalize ksD N n = KS
    simp [sizeLine_eq]) ?_
  refine seq_nx (env1 := [some (.d (.int c)), some (.d NS), some (.d (ksD N n)), some (.l w), some (.d (.int (i : Nat))), some (.d (.int (mixI c (i : Nat)))), some (.l ((rowsRaw N n c i).map fun r => .d (encRw r))), x7', y8, y9, y10, none]) (by
    have it : (eB (aCons (eBin gSub (eM (eBinO gAdd (eC (.int 2)) (eBin gMod (eVar 5) (eC (.int 2)))) viewD) (eM (eCa gInt (aCons (eAnd (eBin gGt (eVar 4) (eC (.int 0))) (eBin gEq (eBin gMod (eBin gDiv (eVar 5) (eC (.int 2))) (eC (.int 3))) (eC (.int 0)))) aNil)) viewD)) aNil) rg1) [some (.d (.int c)), some (.d NS), some (.d (ksD N n)), some (.l w), some (.d (.int (i : Nat))), some (.d (.int (mixI c (i : Nat)))), some (.l []), x7, x8, x9, x10, none] = .ok ((List.range (cntAt c i)).map fun k : Nat => PyData.int (k : Nat)) := by
      have rg := rg1_nat (cntAt c i) (by omega)
      rw [rangeD_map] at rg
      have ce : ((cntAt c i : Nat) : Int) = 2 + mixI c (i : Nat) % 2 - (if (decide (0 < i) && (mixI c (i : Nat) / 2 % 3 == 0)) = true then 1 else 0) := by
        unfold cntAt
        have := Int.emod_nonneg (mixI c (i : Nat)) (b := 2) (by decide)
        split <;> omega
      rw [ce] at rg
      have g2 : gMod (.int (mixI c (i : Nat))) (.int 2) = some (.int (mixI c (i : Nat) % 2)) := gMod_int (by decide)
      have d2 : gDiv (.int (mixI c (i : Nat))) (.int 2) = some (.int (mixI c (i : Nat) / 2)) := gDiv_small (by decide) (by decide)
      have g3 : gMod (.int (mixI c (i : Nat) / 2)) (.int 3) = some (.int (mixI c (i : Nat) / 2 % 3)) := gMod_int (by decide)
      have gg : gGt (.int (i : Nat)) (.int 0) = some (.bool (decide (0 < i))) := by
        show some (PyData.bool (decide ((0 : Int) < (i : Nat)))) = _
        congr 2
        simp
      generalize mixI c (i : Nat) / 2 % 3 = Z3 at g3 rg
      generalize mixI c (i : Nat) / 2 = Z2 at d2 g3
      generalize mixI c (i : Nat) % 2 = Y2 at g2 rg
      generalize decide (0 < i) = B at gg rg
      generalize ksD N n = KS
      generalize mixI c (i : Nat) = FI at g2 d2
      have gs : ∀ a b : Int, gSub (.int a) (.int b) = some (.int (a - b)) := fun a b => rfl
      cases B with
      | false =>
        simp only [Bool.false_and, Bool.false_eq_true, if_false, Int.sub_zero] at rg
        simp [g2, gg, gs]
        exact rg
      | true =>
        simp only [Bool.true_and, beq_iff_eq] at rg
        simp [g2, gg, d2, g3, gs]
        exact rg
    rw [sFor_eq, it, R.st_ok, e1]) ?_
  have ki := ks_ix (N := N) hi
  have sh : shD (.l ((rowsRaw N n c i).map fun r => .d (encRw r))) = .ok (.list ((rowsRaw N n c i).map encRw)) := unDs_of encRw _
  have sr := srtR_eq (rowsRaw N n c i)
  have sv : viewD (.l ((srtR (rowsRaw N n c i)).map fun r => .d (encRw r))) = rwsD (srtR (rowsRaw N n c i)) := viewD_of encRw _
  have ek : encKd (N i, srtR (rowsRaw N n c i)) = .tuple [.str (N i), rwsD (srtR (rowsRaw N n c i))] := rfl
  rw [ek]
  have hw2 : w.length < 16777216 := by omega
  generalize rwsD (srtR (rowsRaw N n c i)) = RW at sv
  generalize Ow.l ((srtR (rowsRaw N n c i)).map fun r => .d (encRw r)) = RO at sr sv
  generalize PyData.list ((rowsRaw N n c i).map encRw) = RL at sh sr
  generalize Ow.l ((rowsRaw N n c i).map fun r => .d (encRw r)) = RR at sh
  generalize ksD N n = KS at ki
  simp [ki, sh, sr, sv, sizeLine_eq, hw2]
end
theorem wood8_fin {f13 : List D → R Ow} (h13 : ∀ (c : Int) (j : Nat), j ≤ 1000 → f13 [.int c, .int (j : Nat)] = .ok (.d (.int (mixI c (j : Nat))))) {ls : List (List Nat)} (h8 : Names8 ls) {N : Nat → Str} (hNe : N = fun i => lets (ls.getD i [])) (c : Int) : ∃ n, (1 ≤ n ∧ n ≤ 3) ∧ finR (bWood8 f13 (envOf 10 [.int c, nsD ls])) = .ok (.l ((woodOf N n c).map fun p => .d (encKd p))) := by
  have hN : NamesD (nsD ls) N := by rw [hNe]; exact names_at h8
  obtain ⟨m, hm, ml⟩ := emod_nat (c := c) (n := 3) (by decide)
  change c % 3 = _ at hm
  refine ⟨1 + m, by omega, ?_⟩
  have hn : 1 ≤ 1 + m ∧ 1 + m ≤ 3 := by omega
  have g3 : gMod (.int c) (.int 3) = some (.int (m : Nat)) := by rw [gMod_int (by decide), hm]
  have cut := ks_cut h8 (n := 1 + m) (by omega)
  rw [show ((1 + m : Nat) : Int) = 1 + (m : Nat) from by omega] at cut
  have vk : viewD (.l (((List.range (1 + m)).map fun i => PyData.str (lets (ls.getD i []))).map Ow.d)) = ksD N (1 + m) := by rw [hNe]; exact vw_ls _
  generalize Ow.l (((List.range (1 + m)).map fun i => PyData.str (lets (ls.getD i []))).map Ow.d) = KO at cut vk
  generalize nsD ls = NS at cut hN
  have he : envOf 10 [.int c, NS] = [some (.d (.int c)), some (.d NS), none, none, none, none, none, none, none, none, none, none] := rfl
  rw [he]
  refine fin_step (env1 := [some (.d (.int c)), some (.d NS), some (.d (ksD N (1 + m))), none, none, none, none, none, none, none, none, none]) (by
    generalize ksD N (1 + m) = KS at vk
    simp [g3, cut, vk]) ?_
  refine fin_step (env1 := [some (.d (.int c)), some (.d NS), some (.d (ksD N (1 + m))), some (.l []), none, none, none, none, none, none, none, none]) (by
    generalize ksD N (1 + m) = KS
    simp [sizeLine_eq]) ?_
  have wl : (woodOf N (1 + m) c).length = 1 + m := by unfold woodOf; rw [List.length_map, List.length_range]
  obtain ⟨env', e1, x4, x5, x6, x7, x8, x9, x10, e2⟩ := forL_map (g := gtName 4) (f := wdKind f13) (fun k : Nat => PyData.int (k : Nat)) (List.range (1 + m))
    (fun j env => ∃ x4 x5 x6 x7 x8 x9 x10, env = [some (.d (.int c)), some (.d NS), some (.d (ksD N (1 + m))), some (.l (((woodOf N (1 + m) c).take j).map fun p => .d (encKd p))), x4, x5, x6, x7, x8, x9, x10, none]) (fun j r env hj ⟨x4, x5, x6, x7, x8, x9, x10, e⟩ => by
      subst e
      obtain ⟨h1, h2⟩ := List.getElem?_eq_some_iff.mp hj
      rw [List.length_range] at h1
      rw [List.getElem_range] at h2
      subst h2
      obtain ⟨y7, y8, y9, y10, q⟩ := wdKind_ok h13 hN hn c j h1 (((woodOf N (1 + m) c).take j).map fun p => .d (encKd p)) (by rw [List.length_map, List.length_take]; omega) x5 x6 x7 x8 x9 x10
      refine ⟨_, rfl, _, .inl q, some (.d (.int (j : Nat))), some (.d (.int (mixI c (j : Nat)))), some (.l ((rowsRaw N (1 + m) c j).map fun r => .d (encRw r))), y7, y8, y9, y10, ?_⟩
      have tk : ((woodOf N (1 + m) c).take (j + 1)).map (fun p => Ow.d (encKd p)) = (((woodOf N (1 + m) c).take j).map fun p => .d (encKd p)) ++ [.d (encKd (N j, srtR (rowsRaw N (1 + m) c j)))] := by
        have : (woodOf N (1 + m) c)[j]? = some (N j, srtR (rowsRaw N (1 + m) c j)) := by unfold woodOf; rw [List.getElem?_map, List.getElem?_range h1]; rfl
        rw [List.take_add_one, this, List.map_append]
        rfl
      rw [tk]) [some (.d (.int c)), some (.d NS), some (.d (ksD N (1 + m))), some (.l []), none, none, none, none, none, none, none, none] ⟨none, none, none, none, none, none, none, rfl⟩
  subst e2
  rw [List.length_range, List.take_of_length_le (by omega)] at e1
  refine fin_step (env1 := [some (.d (.int c)), some (.d NS), some (.d (ksD N (1 + m))), some (.l ((woodOf N (1 + m) c).map fun p => .d (encKd p))), x4, x5, x6, x7, x8, x9, x10, none]) (by
    have kl := ks_len N (1 + m)
    have it : (eB (aCons (eM (eCa gLen (aCons (eVar 2) aNil)) viewD) aNil) rg1) [some (.d (.int c)), some (.d NS), some (.d (ksD N (1 + m))), some (.l []), none, none, none, none, none, none, none, none] = .ok ((List.range (1 + m)).map fun k : Nat => PyData.int (k : Nat)) := by
      have rg := rg1_nat (1 + m) (by omega)
      rw [rangeD_map] at rg
      generalize ksD N (1 + m) = KS at kl
      simp only [eB_eq, aCons_eq, eM_eq, eCa_eq, eVar_2, aNil_eq, R.bind_ok, R.map_ok, kl, R.of_some, viewD_d]
      exact rg
    rw [sFor_eq, it, R.st_ok, e1]) ?_
  rfl
end
end Mir.W3
set_option Elab.async false
set_option linter.all false
set_option maxRecDepth 100000
set_option maxHeartbeats 4000000
namespace Mir
open PySem PySem.Spec L2
theorem choose_below {α : Type} [Inhabited α] {P : Nat → α → Prop} {n : Nat} (h : ∀ j, j < n → ∃ T, P j T) : ∃ g : Nat → α, ∀ j, j < n → P j (g j) := by
  classical
  exact ⟨fun j => if c : j < n then (h j c).choose else default, fun j c => by show P j (if c : j < n then (h j c).choose else default); rw [dif_pos c]; exact (h j c).choose_spec⟩
instance : Inhabited Trm := ⟨noTm⟩
structure DrawnM (cs : List (Int × Int)) (d : Nat) (T : Trm) : Prop where
  ok : okM T
  lev : levM T ≤ d + 1
  size : sizeM T + 1 ≤ 2 ^ (d + 1)
  calls : ∀ c ∈ callsM T, c ∈ cs
def csD (cs : List (Int × Int)) : PyData := .list (cs.map encC)
noncomputable section
theorem pick3 (a b c : Int) (z : Int) : ∃ x : Int, gIx (.list [.int a, .int b, .int c]) (.int (z % 3)) = some (.int x) := by
  obtain ⟨k, hk, kl⟩ := emod_nat (c := z) (n := 3) (by decide)
  change z % 3 = _ at hk
  rw [hk]
  match k, kl with
  | 0, _ => exact ⟨a, rfl⟩
  | 1, _ => exact ⟨b, rfl⟩
  | 2, _ => exact ⟨c, rfl⟩
end
end Mir
set_option Elab.async false
set_option linter.all false
set_option maxRecDepth 100000
set_option maxHeartbeats 4000000
namespace Mir
open PySem PySem.Spec L2
def clsAt (bs os : List Str) (b : Nat) : List (Int × Int) := ((List.range os.length).filter fun m => os.getD m "" == bs.getD b "").map fun m : Nat => ((m : Int), (b : Int))
def clsOf (bs os : List Str) : List (Int × Int) := ((List.range bs.length).map (clsAt bs os)).flatten
noncomputable section
def osD (os : List Str) : PyData := .list (os.map PyData.str)
/-- branches, as a list or a tuple -/
structure IsBr (BD : D) (bs : List Str) : Prop where
  len : gLen [BD] = some (.d (.int (bs.length : Nat)))
  ix : ∀ b, b < bs.length → gIx BD (.int (b : Nat)) = some (.str (bs.getD b ""))
def small250 (x : Int) : Prop := x.natAbs < 2 ^ 250
end
end Mir
set_option Elab.async false
set_option linter.all false
set_option maxRecDepth 100000
set_option maxHeartbeats 4000000
namespace Mir
open PySem PySem.Spec L2
structure TnDrawn (t : Trn) (os : List Str) : Prop where
  cnt : 1 ≤ os.length ∧ os.length ≤ 4
  kinds : ∀ z ∈ os, z ∈ t.wood.map (·.1)
  len : t.modes.length = os.length
  mode : ∀ (m : Nat) (p : Str × List Trm), t.modes[m]? = some p → p.1 = os.getD m "" ∧ p.2.length = (rowsOf t.wood p.1).length ∧ ∀ (i : Nat) (row : Rw) (T : Trm), (rowsOf t.wood p.1)[i]? = some row → p.2[i]? = some T → DrawnM (clsOf row.br os) 2 T
  start : DrawnM (clsOf [(t.wood.map (·.1)).getD 0 ""] os) 2 t.start
theorem rowsOf_kind {w : Wood} (hw : (w.map (·.1)).Nodup) {p : Str × List Rw} (hp : p ∈ w) : rowsOf w p.1 = p.2 := by
  induction w with
  | nil => cases hp
  | cons q w ih =>
    rw [List.map_cons, List.nodup_cons] at hw
    rw [rowsOf]
    rcases List.mem_cons.mp hp with rfl | h
    · rw [beq_self_eq_true]; rfl
    · have : (q.1 == p.1) = false := by
        rw [beq_eq_false_iff_ne]
        intro e
        exact hw.1 (e ▸ List.mem_map.mpr ⟨p, h, rfl⟩)
      rw [this]
      exact ih hw.2 h
theorem brOf_mem {nm : Str} : ∀ {rs : List Rw} {ks : List Str}, brOf rs nm = some ks → ∃ r ∈ rs, r.nm = nm ∧ r.br = ks
  | [], ks, h => by cases h
  | r :: rs, ks, h => by
    rw [brOf] at h
    split at h
    · rename_i c
      cases h
      exact ⟨r, List.mem_cons_self, beq_iff_eq.mp c, rfl⟩
    · obtain ⟨s, h1, h2, h3⟩ := brOf_mem h
      exact ⟨s, List.mem_cons_of_mem _ h1, h2, h3⟩
theorem brOf_row {rs : List Rw} (hd : (rs.map (·.nm)).Nodup) {r : Rw} (hr : r ∈ rs) : brOf rs r.nm = some r.br := by
  induction rs with
  | nil => cases hr
  | cons q rs ih =>
    rw [List.map_cons, List.nodup_cons] at hd
    rw [brOf]
    rcases List.mem_cons.mp hr with rfl | h
    · rw [beq_self_eq_true]; rfl
    · have : (q.nm == r.nm) = false := by
        rw [beq_eq_false_iff_ne]
        intro e
        exact hd.1 (e ▸ List.mem_map.mpr ⟨r, h, rfl⟩)
      rw [this]
      exact ih hd.2 h
noncomputable section
section
variable {f12 f13 f17 f18 : List D → R Ow} {SC NS : PyData} {cell : Nat → Int} (h12 : ∀ k : Nat, f12 [SC, .int (k : Nat)] = .ok (.d (.int (cell k))))
  (h17 : ∀ (c : Int) (cs : List (Int × Int)) (kp : Bool), ∃ T, DrawnM cs 2 T ∧ f17 [.int c, .int 0, .int 2, csD cs, NS, .bool kp] = .ok (.d (encM T)))
  (h18 : ∀ (BD : D) (bs os : List Str), IsBr BD bs → bs.length ≤ 3 → os.length ≤ 10 → f18 [BD, osD os] = .ok (.l ((clsOf bs os).map fun c => .d (encC c))))
include h12 h17 h18
variable (h13 : ∀ (c : Int) (j : Nat), j ≤ 1000 → f13 [.int c, .int (j : Nat)] = .ok (.d (.int (mixI c (j : Nat)))))
include h13
end
end
end Mir
set_option Elab.async false
set_option linter.all false
set_option maxRecDepth 100000
set_option maxHeartbeats 4000000
namespace Mir
open PySem PySem.Spec L2
structure Nd where
  kind : Str
  lev : Nat
  row : Option Rw
  mark : Int
  kids : List Nat
structure NdOk (w : Wood) (top : Nat) (ns : List Nd) (i : Nat) (n : Nd) : Prop where
  kind : n.kind ∈ w.map (·.1)
  lev : 1 ≤ n.lev ∧ n.lev ≤ top
  mark : small250 n.mark
  bare : n.row = none → n.kids = []
  full : ∀ r, n.row = some r → r ∈ rowsOf w n.kind ∧ r.br ≠ [] ∧ n.kids.length = r.br.length ∧ ∀ (j k : Nat), n.kids[j]? = some k → i < k ∧ ∃ c, ns[k]? = some c ∧ r.br[j]? = some c.kind ∧ c.lev = n.lev + 1
structure GInv (w : Wood) (top : Nat) (ns : List Nd) (bare : List Nat) : Prop where
  root : ∃ n0, ns[0]? = some n0 ∧ n0.kind = (w.map (·.1)).getD 0 ("" : Str)
  each : ∀ (i : Nat) (n : Nd), ns[i]? = some n → NdOk w top ns i n
  bnd : bare.Nodup
  bare : ∀ b ∈ bare, ∃ n, ns[b]? = some n ∧ n.row = none
noncomputable section
end
end Mir
set_option Elab.async false
set_option linter.all false
set_option maxRecDepth 100000
set_option maxHeartbeats 4000000
namespace Mir
open PySem PySem.Spec L2
noncomputable section
end
end Mir
set_option Elab.async false
set_option linter.all false
set_option maxRecDepth 100000
set_option maxHeartbeats 4000000
namespace Mir
open PySem PySem.Spec L2
noncomputable section
section
variable {w : Wood} (hw : WoodOk w) (CE : D) (top : Nat)
include hw
variable {f13 f20 : List D → R Ow} (h13 : ∀ (c : Int) (j : Nat), j ≤ 1000 → f13 [.int c, .int (j : Nat)] = .ok (.d (.int (mixI c (j : Nat))))) (h20 : ∀ c z : Int, ∃ x : Int, small250 x ∧ f20 [.int c, .int z] = .ok (.d (.int x)))
include h13 h20
end
end
end Mir
set_option Elab.async false
set_option linter.all false
set_option maxRecDepth 100000
set_option maxHeartbeats 4000000
namespace Mir
open PySem PySem.Spec L2
mutual
def smallT : Tr → Prop
  | .mk _ k bs => small250 k ∧ smallTs bs
def smallTs : List Tr → Prop
  | [] => True
  | b :: bs => smallT b ∧ smallTs bs
end
structure GoodT (w : Wood) (top : Nat) (n : Nd) (t : Tr) : Prop where
  is : isOf w t n.kind = true
  lev : levT t + n.lev ≤ top + 1
  small : smallT t
  ok : okT t
noncomputable section
section
variable {w : Wood} (hw : WoodOk w) {top : Nat} {ns : List Nd} {bare : List Nat} (hI : GInv w top ns bare) (hl : ns.length ≤ 200) {f13 : List D → R Ow} (h13 : ∀ (c : Int) (j : Nat), j ≤ 1000 → f13 [.int c, .int (j : Nat)] = .ok (.d (.int (mixI c (j : Nat)))))
include hw hI hl h13
end
end
end Mir
set_option Elab.async false
set_option linter.all false
set_option maxRecDepth 100000
set_option maxHeartbeats 4000000
namespace Mir
open PySem PySem.Spec L2
noncomputable section
end
end Mir
set_option Elab.async false
set_option linter.all false
set_option maxRecDepth 100000
set_option maxHeartbeats 4000000
namespace Mir
open PySem PySem.Spec L2
/-- names below sixteen, told apart -/
def KnInj (kn : Nat → Str) : Prop := ∀ i j, i < 16 → j < 16 → kn i = kn j → i = j
theorem WdOk.kinds {w : Wood} {kn : Nat → Str} (h : WdOk w kn) (hk : KnInj kn) : (w.map (·.1)).Nodup := by
  unfold List.Nodup
  rw [List.pairwise_iff_getElem]
  intro i j hi hj hij e
  rw [List.length_map] at hi hj
  have hf := h.few
  rw [List.getElem_map, List.getElem_map] at e
  have a := h.at_ i _ (List.getElem?_eq_getElem hi)
  have b := h.at_ j _ (List.getElem?_eq_getElem hj)
  have e2 : w[i].1 = w[j].1 := e
  rw [a, b] at e2
  have := hk i j (by omega) (by omega) e2
  omega
theorem RwNm.nodup {kn : Nat → Str} {rs : List Rw} (h : RwNm kn rs) (hl : rs.length ≤ 3) (hk : KnInj kn) : (rs.map (·.nm)).Nodup := by
  obtain ⟨b, hb, hp⟩ := h
  rw [hp.nodup_iff]
  unfold List.Nodup
  rw [List.pairwise_iff_getElem]
  intro i j hi hj hij e
  rw [List.length_map, List.length_range] at hi hj
  rw [List.getElem_map, List.getElem_map, List.getElem_range, List.getElem_range] at e
  have := hk _ _ (by omega) (by omega) e
  omega
theorem rowsK_or (w : Wood) (k : Str) : rowsOf w k = [] ∨ ∃ p ∈ w, p.1 = k ∧ rowsOf w k = p.2 := by
  induction w with
  | nil => exact .inl rfl
  | cons p w ih =>
    rw [rowsOf]
    cases c : p.1 == k with
    | true => exact .inr ⟨p, List.mem_cons_self, by simpa using c, rfl⟩
    | false =>
      rcases ih with h | ⟨q, h1, h2, h3⟩
      · exact .inl h
      · exact .inr ⟨q, List.mem_cons_of_mem _ h1, h2, h3⟩
theorem brOf_in {nm : Str} : ∀ {rs : List Rw} {ks : List Str}, brOf rs nm = some ks → ∃ r ∈ rs, r.nm = nm ∧ r.br = ks
  | [], ks, h => by cases h
  | r :: rs, ks, h => by
    rw [brOf] at h
    split at h
    · rename_i c
      exact ⟨r, List.mem_cons_self, by simpa using c, Option.some.inj h⟩
    · obtain ⟨q, h1, h2⟩ := brOf_in h
      exact ⟨q, List.mem_cons_of_mem _ h1, h2⟩
theorem brOf_of {rs : List Rw} (hd : (rs.map (·.nm)).Nodup) {r : Rw} (hr : r ∈ rs) : brOf rs r.nm = some r.br := by
  induction rs with
  | nil => cases hr
  | cons q rs ih =>
    rw [List.map_cons, List.nodup_cons] at hd
    rw [brOf]
    rcases List.mem_cons.mp hr with e | e
    · rw [e, beq_self_eq_true, if_pos rfl]
    · rw [if_neg, ih hd.2 e]
      intro c
      have c : q.nm = r.nm := by simpa using c
      exact hd.1 (List.mem_map.mpr ⟨r, e, c.symm⟩)
/-- what the later laws need of a drawn turning -/
structure TnGd (t : Trn) : Prop where
  snd : SndT t 3
  ok : TnOk t
  kinds : (t.wood.map (·.1)).Nodup
  rows : ∀ p ∈ t.wood, (p.2.map (·.nm)).Nodup ∧ (∃ r ∈ p.2, r.br = []) ∧ ∀ r ∈ p.2, PyData.strOk r.nm = true ∧ r.br.length ≤ 4 ∧ ∀ z ∈ r.br, ∃ q ∈ t.wood, q.1 = z
  mkind : ∀ p ∈ t.modes, ∃ q ∈ t.wood, q.1 = p.1
  some : 1 ≤ t.wood.length
  stop : ∃ N, N ≤ 36 ∧ tab (mds t) (N + 1) = tab (mds t) N ∧ ∀ i, i < N → tab (mds t) (i + 1) ≠ tab (mds t) i
theorem TnMade.gd {t : Trn} {kn : Nat → Str} (m : TnMade t) (hw : WdOk t.wood kn) (hk : KnInj kn) : TnGd t := by
  have ok := m.ok hw
  refine ⟨⟨by have := m.few; omega, fun k nm ks h => ?_, fun p hp => (m.rules p hp).1, fun p hp i row T hr hT => ?_⟩, ok, hw.kinds hk, fun p hp => ?_, m.kind, hw.one, ?_⟩
  · obtain ⟨r, hr, _, e⟩ := brOf_in h
    rcases rowsK_or t.wood k with z | ⟨p, hp, _, e2⟩
    · rw [z] at hr; cases hr
    · rw [e2] at hr
      have := ((hw.rows p hp).2.2 r hr).2.1
      rw [← e]
      omega
  · obtain ⟨a, b, c, d⟩ := (m.rules p hp).2 i row T hr hT
    refine ⟨fun z hz => ?_, a, b, by omega⟩
    obtain ⟨x, y, e, q, h1, h2⟩ := d z hz
    subst e
    rw [List.getElem?_map] at h1
    cases hx : t.modes[x]? with
    | none => rw [hx] at h1; cases h1
    | some p' =>
      rw [hx] at h1
      have e : p'.1 = q := Option.some.inj h1
      exact ⟨by show (0 : Int) ≤ (x : Nat); omega, by show (0 : Int) ≤ (y : Nat); omega, p', by rw [Int.toNat_natCast]; exact hx, by rw [Int.toNat_natCast, e]; exact h2⟩
  · obtain ⟨a, b, c⟩ := hw.rows p hp
    refine ⟨(hw.rnm p hp).nodup a hk, b, fun r hr => ?_⟩
    obtain ⟨c1, c2, c3⟩ := c r hr
    refine ⟨c1, c2, fun z hz => ?_⟩
    obtain ⟨j, hj, e⟩ := c3 z hz
    exact ⟨t.wood[j], List.getElem_mem hj, by rw [e]; exact hw.at_ j _ (List.getElem?_eq_getElem hj)⟩
  · obtain ⟨N, h1, h2, h3⟩ := tab_stop (mds t) (mds_ok ok)
    refine ⟨N, ?_, h2, h3⟩
    have each : ∀ s ∈ tab (mds t) 0, cS s ≤ 9 := fun s hs => by
      obtain ⟨md, hm, rfl⟩ := List.mem_map.mp (show s ∈ (mds t).map fun m => metOf ((bares m).map (stIn [])) from hs)
      obtain ⟨p, hp, rfl⟩ := List.mem_map.mp hm
      obtain ⟨h1, _⟩ := ok.bare p hp
      obtain ⟨r, rest, e⟩ : ∃ r rest, bares (mdOf t.wood p) = r :: rest := by
        cases e : bares (mdOf t.wood p) with
        | nil => exact absurd e h1
        | cons r rest => exact ⟨r, rest, rfl⟩
      have le : leS (metOf ((bares (mdOf t.wood p)).map (stIn []))) (stIn [] r) := metOf_le (by rw [e]; simp)
      have hr : r ∈ p.2 := bares_in r (by rw [e]; simp)
      obtain ⟨i, hi, ei⟩ := List.mem_iff_getElem.mp hr
      obtain ⟨q1, q2⟩ := m.rules p hp
      have := (q2 i _ r (List.getElem?_eq_getElem (by omega)) (by rw [List.getElem?_eq_getElem hi, ei])).2.2.1
      have a := (leS_c le).1
      have b := stIn_c r
      omega
    have := cSs_le (n := 9) (ss := tab (mds t) 0) each
    rw [tab_len] at this
    have l : (mds t).length = t.modes.length := List.length_map _
    rw [l] at this
    have := m.few
    have : 9 * t.modes.length ≤ 9 * 4 := Nat.mul_le_mul_left _ this
    omega
end Mir
set_option Elab.async false
set_option linter.all false
set_option maxRecDepth 100000
set_option maxHeartbeats 4000000
namespace Mir
open PySem PySem.Spec L2
section
variable {t : Trn} (gd : TnGd t)
include gd
theorem rows_nd (k : Str) : ((rowsOf t.wood k).map (·.nm)).Nodup := by
  rcases rowsK_or t.wood k with z | ⟨p, hp, _, e⟩
  · rw [z]; exact List.nodup_nil
  · rw [e]; exact (gd.rows p hp).1
theorem isOf_row {k : Str} {row : Rw} (hr : row ∈ rowsOf t.wood k) (mk : Int) (bs : List Tr) (hl : row.br.length = bs.length) (hb : isOfs t.wood bs row.br = true) : isOf t.wood (.mk row.nm mk bs) k = true := by
  rw [isOf_mk, brOf_of (rows_nd gd k) hr]
  show (decide (row.br.length = bs.length) && isOfs t.wood bs row.br) = true
  rw [decide_eq_true hl, hb]
  rfl
end
/-- the kind's leaf -/
def leafT (w : Wood) (k : Str) : Tr := .mk ((((rowsOf w k).filter fun r => r.br.isEmpty).map (·.nm)).getD 0 "") 0 []
section
variable {t : Trn} (gd : TnGd t)
include gd
theorem leaf_row {k : Str} (hk : ∃ q ∈ t.wood, q.1 = k) : ∃ (i : Nat) (row : Rw), (rowsOf t.wood k)[i]? = some row ∧ row.br = [] ∧ leafT t.wood k = .mk row.nm 0 [] := by
  obtain ⟨q, hq, hqr⟩ := rowsOf_mem hk
  obtain ⟨r0, hr0, hb0⟩ := (gd.rows q hq).2.1
  rw [hqr] at hr0
  have ne : 0 < ((rowsOf t.wood k).filter fun r => r.br.isEmpty).length := List.length_pos_of_mem (List.mem_filter.mpr ⟨hr0, by rw [hb0]; rfl⟩)
  have h0 := List.getElem?_eq_getElem ne
  have hm := List.getElem_mem ne
  rw [List.mem_filter] at hm
  obtain ⟨i, hi, e⟩ := List.mem_iff_getElem.mp hm.1
  refine ⟨i, _, by rw [List.getElem?_eq_getElem hi, e], List.isEmpty_iff.mp hm.2, ?_⟩
  unfold leafT
  rw [List.getD_eq_getElem?_getD, List.getElem?_map, h0]
  rfl
theorem leaf_of {k : Str} (hk : ∃ q ∈ t.wood, q.1 = k) : isOf t.wood (leafT t.wood k) k = true := by
  obtain ⟨i, row, h1, h2, h3⟩ := leaf_row gd hk
  rw [h3]
  exact isOf_row gd (List.mem_of_getElem? h1) 0 [] (by rw [h2]; rfl) (by rw [h2, isOfs])
end
/-- what a mode makes of a tree -/
def outT (t : Trn) (m : Nat) (u : Tr) : Tr := madT t u (ruleF t (m : Int) (trNm u))
def trAt : Tr → List Nat → Option Tr
  | u, [] => some u
  | .mk _ _ bs, j :: q => match bs[j]? with
    | some b => trAt b q
    | none => none
abbrev Lab := Str × Int × Nat
def labT : Tr → Lab
  | .mk nm k bs => (nm, k, bs.length)
end Mir
set_option Elab.async false
set_option linter.all false
set_option maxRecDepth 100000
set_option maxHeartbeats 4000000
namespace Mir
open PySem PySem.Spec L2
section
variable {t : Trn} (gd : TnGd t)
include gd
end
section
variable {t : Trn} (gd : TnGd t)
include gd
end
end Mir
set_option Elab.async false
set_option linter.all false
set_option maxRecDepth 100000
set_option maxHeartbeats 4000000
namespace Mir
open PySem PySem.Spec L2
noncomputable section
abbrev bLeafOf (f3 : List D → R Ow) : Ev → SR := (sSeq (sSet 2 (eM (eM (eLc (eB (eM (eB (aCons (eVar 0) (aCons (eVar 1) aNil)) f3) viewD) itD) (gtTup 2 (gtCons (gtName 3) (gtCons (gtName 4) gtNil))) (eB (eBin gEq (eVar 4) (eTup aNil)) asB) (eM (eVar 3) Ow.d) (List.map (·.2) ([("name", 3), ("branches", 4)] : List (Str × Nat)))) viewD) Ow.d))
    (sRet (eM (eTup (aCons (eBin gIx (eVar 2) (eC (.int 0))) (aCons (eC (.int 0)) (aCons (eTup aNil) aNil)))) Ow.d)))
theorem leafOf_fin {w : Wood} {k : Str} {f3 : List D → R Ow} (h3 : ∃ o, f3 [encWd w, .str k] = .ok o ∧ viewD o = .list ((rowsOf w k).map encRw)) (hl : (rowsOf w k).length ≤ 1000) (hok : ∀ r ∈ rowsOf w k, ∀ z ∈ r.br, PyData.strOk z = true) (hb : ∃ r ∈ rowsOf w k, r.br = []) : finR (bLeafOf f3 (envOf 3 [encWd w, .str k])) = .ok (.d (encT (leafT w k))) := by
  have he : envOf 3 [encWd w, .str k] = [some (.d (encWd w)), some (.d (.str k)), none, none, none] := rfl
  rw [he]
  obtain ⟨o, o1, o2⟩ := h3
  have lc : (eLc (eB (eM (eB (aCons (eVar 0) (aCons (eVar 1) aNil)) f3) viewD) itD) (gtTup 2 (gtCons (gtName 3) (gtCons (gtName 4) gtNil))) (eB (eBin gEq (eVar 4) (eTup aNil)) asB) (eM (eVar 3) Ow.d) (List.map (·.2) ([("name", 3), ("branches", 4)] : List (Str × Nat)))) [some (.d (encWd w)), some (.d (.str k)), none, none, none] = .ok (.l (((rowsOf w k).filter fun r => r.br.isEmpty).map fun r => .d (.str r.nm))) := by
    refine eLc_of (ds := (rowsOf w k).map encRw) ?_ (by rw [List.length_map, sizeLine_eq]; omega) (lcR_filt encRw (fun r => r.br.isEmpty) _ (rowsOf w k) fun r hr => ?_)
    · have it : itD (.list ((rowsOf w k).map encRw)) = .ok ((rowsOf w k).map encRw) := rfl
      generalize PyData.list ((rowsOf w k).map encRw) = L at o2 it
      generalize encWd w = W at o1
      simp [o1, o2, it]
    · refine ⟨[some (.d (encWd w)), some (.d (.str k)), none, some (.d (.str r.nm)), some (.d (.tuple (r.br.map PyData.str)))], rfl, ?_, fun _ => rfl⟩
      have be := bare_eq (hok r hr)
      generalize PyData.tuple (r.br.map PyData.str) = B at be
      generalize encWd w = W
      simp [be, sizeLine_eq]
  have vw : viewD (.l (((rowsOf w k).filter fun r => r.br.isEmpty).map fun r => .d (.str r.nm))) = .list (((rowsOf w k).filter fun r => r.br.isEmpty).map fun r => .str r.nm) := viewD_of _ _
  refine fin_step (env1 := [some (.d (encWd w)), some (.d (.str k)), some (.d (.list (((rowsOf w k).filter fun r => r.br.isEmpty).map fun r => .str r.nm))), none, none]) (by
    rw [sSet_eq, eM_eq, eM_eq]
    refine (congrArg (fun r => R.st _ (R.map Ow.d (R.map viewD r)) _) lc).trans ?_
    rw [R.map_ok, R.map_ok, vw, R.st_ok]
    rfl) ?_
  have ne : 0 < ((rowsOf w k).filter fun r => r.br.isEmpty).length := by
    obtain ⟨r, hr, hb⟩ := hb
    exact List.length_pos_of_mem (List.mem_filter.mpr ⟨hr, by rw [hb]; rfl⟩)
  have h0 := List.getElem?_eq_getElem ne
  have i0 : gIx (.list (((rowsOf w k).filter fun r => r.br.isEmpty).map fun r => PyData.str r.nm)) (.int 0) = some (.str ((((rowsOf w k).filter fun r => r.br.isEmpty).map (·.nm)).getD 0 "")) := by
    show atI _ _ = _
    rw [List.getD_eq_getElem?_getD, List.getElem?_map, h0]
    exact atI_natD (k := 0) (by rw [List.getElem?_map, h0]; rfl)
  have e : encT (leafT w k) = .tuple [.str ((((rowsOf w k).filter fun r => r.br.isEmpty).map (·.nm)).getD 0 ""), .int 0, .tuple []] := by
    unfold leafT
    rw [encT_mk]
    rfl
  rw [e]
  generalize PyData.list (((rowsOf w k).filter fun r => r.br.isEmpty).map fun r => PyData.str r.nm) = L at i0
  generalize encWd w = W
  simp [i0, sizeLine_eq]
end
end Mir
set_option Elab.async false
set_option linter.all false
set_option maxRecDepth 100000
set_option maxHeartbeats 4000000
namespace Mir
open PySem PySem.Spec L2
noncomputable section
end
end Mir
set_option Elab.async false
set_option linter.all false
set_option maxRecDepth 100000
set_option maxHeartbeats 4000000
namespace Mir
open PySem PySem.Spec L2
noncomputable section
section
variable {t : Trn} {m N : Nat} {f0 f9 f11 f20 : List D → R Ow}
end
end
end Mir
set_option Elab.async false
set_option linter.all false
set_option maxRecDepth 100000
set_option maxHeartbeats 4000000
namespace Mir
open PySem PySem.Spec L2
noncomputable section
end
end Mir
set_option Elab.async false
set_option linter.all false
set_option maxRecDepth 100000
set_option maxHeartbeats 4000000
namespace Mir
open PySem PySem.Spec L2
noncomputable section
end
end Mir
set_option Elab.async false
set_option linter.all false
set_option maxRecDepth 100000
set_option maxHeartbeats 4000000
namespace Mir
open PySem PySem.Spec L2
section
variable {t : Trn} (gd : TnGd t)
include gd
theorem row_of {k : Str} {r : Rw} (hr : r ∈ rowsOf t.wood k) : PyData.strOk r.nm = true ∧ r.br.length ≤ 4 ∧ (∀ z ∈ r.br, ∃ q ∈ t.wood, q.1 = z) ∧ ∀ z ∈ r.br, PyData.strOk z = true := by
  obtain ⟨p, hp, h⟩ := rowsOf_in r hr
  obtain ⟨a, b, c⟩ := (gd.rows p hp).2.2 r h
  exact ⟨a, b, c, ((gd.ok.names p hp).2.2 r h).2.2⟩
end
/-- what a split must be -/
structure SplitAt (t : Trn) (m : Nat) (q : List Nat) (k : Nat) (v u : Tr) : Prop where
  kind : ∀ p, t.modes[m]? = some p → isOf t.wood v p.1 = true ∧ isOf t.wood u p.1 = true
  lev : levT v = 1 ∧ levT u ≤ k + 1 ∧ (if levT v < levT u then levT u else levT v) = k + 1
  part : ∃ y z, trAt (outT t m v) q = some y ∧ trAt (outT t m u) q = some z ∧ labT y ≠ labT z
section
variable {t : Trn} (gd : TnGd t)
include gd
end
end Mir
set_option Elab.async false
set_option linter.all false
set_option maxRecDepth 100000
set_option maxHeartbeats 4000000
namespace Mir
open PySem PySem.Spec L2
section
variable {t : Trn} (gd : TnGd t)
include gd
end
end Mir
set_option Elab.async false
set_option linter.all false
set_option maxRecDepth 100000
set_option maxHeartbeats 4000000
namespace Mir
open PySem PySem.Spec L2
noncomputable section
end
end Mir
set_option Elab.async false
set_option linter.all false
set_option maxRecDepth 100000
set_option maxHeartbeats 4000000
namespace Mir
open PySem PySem.Spec L2
abbrev Cp := List Nat × Int × Int
noncomputable section
def encCP (c : Cp) : D := .tuple [encP c.1, encM (.call c.2.1 c.2.2)]
abbrev cpO (cs : List Cp) : Ow := .l (cs.map fun c => .d (encCP c))
end
end Mir
set_option Elab.async false
set_option linter.all false
set_option maxRecDepth 100000
set_option maxHeartbeats 4000000
namespace Mir
open PySem PySem.Spec L2
structure Dm where
  pl : List Nat
  tm : Option (Int × Int)
  kd : Str
def tmD : Option (Int × Int) → D
  | none => .none
  | some c => encM (.call c.1 c.2)
def encDm (d : Dm) : D := .tuple [encP d.pl, tmD d.tm, .str d.kd]
mutual
def dems (w : Wood) : Trm → Str → List Nat → List Dm
  | .call m b, k, pl => [⟨pl, some (m, b), k⟩]
  | .put nm _ _ ps, k, pl => match brOf (rowsOf w k) nm with
    | none => [⟨pl, none, k⟩]
    | some bs => if bs.length = ps.length then demss w ps bs pl 0 else [⟨pl, none, k⟩]
def demss (w : Wood) : List Trm → List Str → List Nat → Nat → List Dm
  | [], _, _, _ => []
  | _ :: _, [], _, _ => []
  | p :: ps, b :: bs, pl, i => dems w p b (pl ++ [i]) ++ demss w ps bs pl (i + 1)
end
theorem demss_take {w : Wood} : ∀ {ps : List Trm} {bs : List Str} {pl : List Nat} {o i : Nat} {p : Trm} {b : Str}, ps[i]? = some p → bs[i]? = some b → demss w (ps.take (i + 1)) bs pl o = demss w (ps.take i) bs pl o ++ dems w p b (pl ++ [o + i])
  | [], _, _, _, _, _, _, h, _ => by simp at h
  | _ :: _, [], _, _, _, _, _, _, h => by simp at h
  | q :: ps, c :: bs, pl, o, 0, p, b, h, g => by
    have : q = p := by simpa using h
    subst this
    have : c = b := by simpa using g
    subst this
    rw [List.take_succ_cons, List.take_zero, List.take_zero, demss, demss, demss, List.append_nil, Nat.add_zero, List.nil_append]
  | q :: ps, c :: bs, pl, o, i + 1, p, b, h, g => by
    rw [List.take_succ_cons, demss, List.take_succ_cons, demss, demss_take (o := o + 1) (by simpa using h) (by simpa using g), List.append_assoc, show o + 1 + i = o + (i + 1) from by omega]
mutual
theorem dems_few (w : Wood) : ∀ (T : Trm) (k : Str) (pl : List Nat), (dems w T k pl).length ≤ sizeM T
  | .call m b, k, pl => by rw [dems, sizeM]; simp
  | .put nm kp ad ps, k, pl => by
    rw [dems, sizeM]
    split
    · simp
    · split
      · have := demss_few w ps (by assumption) pl 0
        omega
      · simp
theorem demss_few (w : Wood) : ∀ (ps : List Trm) (bs : List Str) (pl : List Nat) (o : Nat), (demss w ps bs pl o).length ≤ sizeMs ps
  | [], _, _, _ => by rw [demss]; simp
  | _ :: _, [], _, _ => by rw [demss]; simp
  | p :: ps, b :: bs, pl, o => by
    rw [demss, List.length_append, sizeMs]
    have := dems_few w p b (pl ++ [o])
    have := demss_few w ps bs pl (o + 1)
    omega
end
theorem sizeMs_take (ps : List Trm) (i : Nat) : sizeMs (ps.take i) ≤ sizeMs ps := by
  have := sizeMs_app (ps.take i) (ps.drop i)
  rw [List.take_append_drop] at this
  omega
noncomputable section
abbrev dmO (ds : List Dm) : Ow := .l (ds.map fun d => .d (encDm d))
abbrev dmD (ds : List Dm) : D := .list (ds.map encDm)
theorem viewD_dmO (ds : List Dm) : viewD (dmO ds) = dmD ds := viewD_of encDm ds
abbrev dmExt (f3 : List D → R Ow) : Ev → SR := (sExt 5 (eB (eB (aCons (eVar 7) (aCons (eBin gIx (eVar 4) (eVar 6)) (aCons (eVar 2) (aCons (eM (eBinO gAdd (eVar 3) (eTup (aCons (eVar 6) aNil))) viewD) aNil)))) f3) shD))
abbrev bDemands (f1 f3 : List D → R Ow) : Ev → SR := (sSeq (sIf (eB (eBin gEq (eBin gIx (eVar 0) (eC (.int 0))) (eC (.str "call"))) asB)
    (sRet (eLst (aCons (eTup (aCons (eVar 3) (aCons (eVar 0) (aCons (eVar 1) aNil)))) aNil)))
    sSkip)
    (sSeq (sSet 4 (eM (eM (eB (aCons (eVar 2) (aCons (eVar 1) (aCons (eBin gIx (eVar 0) (eC (.int 1))) aNil))) f1) viewD) Ow.d))
    (sSeq (sIf (tOrE (eB (eBin gIsN (eVar 4) (eC .none)) asB) (eB (eBin gNe (eM (eCa gLen (aCons (eVar 4) aNil)) viewD) (eM (eCa gLen (aCons (eBin gIx (eVar 0) (eC (.int 4))) aNil)) viewD)) asB))
    (sRet (eLst (aCons (eTup (aCons (eVar 3) (aCons (eC .none) (aCons (eVar 1) aNil)))) aNil)))
    sSkip)
    (sSeq (sSet 5 (eLst aNil))
    (sSeq (sFor (eB (aCons (eBin gIx (eVar 0) (eC (.int 4))) aNil) enArg) (gtTup 2 (gtCons (gtName 6) (gtCons (gtName 7) gtNil)))
    (dmExt f3))
    (sRetV 5))))))
theorem demands_fin {w : Wood} {f1 f3 : List D → R Ow} (T : Trm) (k : Str) (pl : List Nat) (hpl : pl.length ≤ 1000) (hs : sizeM T ≤ 100000) (h1 : ∀ nm, f1 [encWd w, .str k, .str nm] = .ok (.d (obD (brOf (rowsOf w k) nm))))
    (h3 : ∀ nm kp ad ps, T = .put nm kp ad ps → ∀ p ∈ ps, ∀ b i, f3 [encM p, .str b, encWd w, encP (pl ++ [i])] = .ok (dmO (dems w p b (pl ++ [i])))) : finR (bDemands f1 f3 (envOf 4 [encM T, .str k, encWd w, encP pl])) = .ok (dmO (dems w T k pl)) := by
  cases T with
  | call m b =>
    have he : envOf 4 [encM (.call m b), .str k, encWd w, encP pl] = [some (.d (encM (.call m b))), some (.d (.str k)), some (.d (encWd w)), some (.d (encP pl)), none, none, none, none] := rfl
    rw [he, dems]
    have c0 := c_ix0 m b
    have e : dmO [⟨pl, some (m, b), k⟩] = .l [.d (.tuple [encP pl, encM (.call m b), .str k])] := rfl
    rw [e]
    generalize encM (.call m b) = E at c0 ⊢
    generalize encWd w = W
    generalize encP pl = P
    simp [c0, gEq_str, sizeLine_eq]
  | put nm kp ad ps =>
    have he : envOf 4 [encM (.put nm kp ad ps), .str k, encWd w, encP pl] = [some (.d (encM (.put nm kp ad ps))), some (.d (.str k)), some (.d (encWd w)), some (.d (encP pl)), none, none, none, none] := rfl
    have h3' := h3 nm kp ad ps rfl
    clear h3
    rw [he, dems]
    have h1' := h1 nm
    clear h1
    have m0 := m_ix0 nm kp ad ps
    have m1 := m_ix1 nm kp ad ps
    have m4 := m_ix4 nm kp ad ps
    have pc : (Str.ofString "put" == Str.ofString "call") = false := by decide +kernel
    have l4 := tup_len (ps.map encM)
    rw [List.length_map] at l4
    rw [sizeM] at hs
    obtain ⟨E, hE⟩ : ∃ E, E = encM (.put nm kp ad ps) := ⟨_, rfl⟩
    rw [← hE] at m0 m1 m4 ⊢
    refine fin_step (env1 := [some (.d E), some (.d (.str k)), some (.d (encWd w)), some (.d (encP pl)), none, none, none, none]) (by
      generalize encWd w = W
      generalize encP pl = P
      simp [m0, gEq_str, pc]) ?_
    refine fin_step (env1 := [some (.d E), some (.d (.str k)), some (.d (encWd w)), some (.d (encP pl)), some (.d (obD (brOf (rowsOf w k) nm))), none, none, none]) (by
      generalize obD (brOf (rowsOf w k) nm) = O at h1' ⊢
      generalize encWd w = W at h1' ⊢
      generalize encP pl = P
      simp [m1, h1']) ?_
    cases brOf (rowsOf w k) nm with
    | none =>
      have n1 : isNone PyData.none = true := rfl
      have e : dmO [⟨pl, none, k⟩] = .l [.d (.tuple [encP pl, .none, .str k])] := rfl
      show finR _ = .ok (dmO [⟨pl, none, k⟩])
      rw [e]
      generalize encWd w = W
      generalize encP pl = P
      simp [obD, n1, sizeLine_eq]
    | some bs =>
      have n1 : isNone (brD bs) = false := rfl
      have lk := br_len bs
      show finR (sSeq (sIf _ _ _) _ [some (.d E), some (.d (.str k)), some (.d (encWd w)), some (.d (encP pl)), some (.d (brD bs)), none, none, none]) = .ok (dmO (if bs.length = ps.length then demss w ps bs pl 0 else [⟨pl, none, k⟩]))
      by_cases c : bs.length = ps.length
      · rw [if_pos c]
        refine fin_step (env1 := [some (.d E), some (.d (.str k)), some (.d (encWd w)), some (.d (encP pl)), some (.d (brD bs)), none, none, none]) (by
          generalize PyData.tuple (ps.map encM) = TP at m4 l4
          generalize encWd w = W
          generalize encP pl = P
          generalize brD bs = B at n1 lk
          simp [n1, lk, m4, l4, c]) ?_
        refine fin_step (env1 := [some (.d E), some (.d (.str k)), some (.d (encWd w)), some (.d (encP pl)), some (.d (brD bs)), some (dmO []), none, none]) (by
          generalize encWd w = W
          generalize encP pl = P
          generalize brD bs = B
          simp [sizeLine_eq]) ?_
        obtain ⟨env', e1, x6, x7, e2⟩ := forL_ind (g := gtTup 2 (gtCons (gtName 6) (gtCons (gtName 7) gtNil))) (f := dmExt f3) (enumD 0 (ps.map encM))
          (fun i env => ∃ x6 x7, env = [some (.d E), some (.d (.str k)), some (.d (encWd w)), some (.d (encP pl)), some (.d (brD bs)), some (dmO (demss w (ps.take i) bs pl 0)), x6, x7]) (fun i d env hd ⟨x6, x7, e⟩ => by
            obtain ⟨d', hd', rfl⟩ := enumD_at 0 i _ _ hd
            obtain ⟨p, hp, rfl⟩ := map_at hd'
            subst e
            rw [Nat.zero_add]
            have il := (List.getElem?_eq_some_iff.mp hp).1
            obtain ⟨b, hb⟩ : ∃ b, bs[i]? = some b := ⟨_, List.getElem?_eq_getElem (by omega)⟩
            have bi := br_ix hb
            have hm := h3' p (List.mem_of_getElem? hp) b i
            have ga : gAdd (encP pl) (.tuple [.int (i : Nat)]) = some (.d (encP (pl ++ [i]))) := by
              unfold encP
              rw [gAdd_tup (by rw [List.length_map, sizeLine_eq]; simp; omega), List.map_append]
              rfl
            have sh : shD (dmO (dems w p b (pl ++ [i]))) = .ok (dmD (dems w p b (pl ++ [i]))) := unDs_of encDm _
            have as : asL (dmD (dems w p b (pl ++ [i]))) = .ok ((dems w p b (pl ++ [i])).map encDm) := rfl
            have z1 := demss_few w (ps.take i) bs pl 0
            have z2 := sizeMs_take ps i
            have z3 := dems_few w p b (pl ++ [i])
            have z4 := sizeMs_memM (List.mem_of_getElem? hp)
            have hl : ((demss w (ps.take i) bs pl 0).map fun d => Ow.d (encDm d)).length + ((dems w p b (pl ++ [i])).map encDm).length ≤ 16777216 := by
              rw [List.length_map, List.length_map]
              omega
            refine ⟨[some (.d E), some (.d (.str k)), some (.d (encWd w)), some (.d (encP pl)), some (.d (brD bs)), some (dmO (demss w (ps.take i) bs pl 0)), some (.d (.int (i : Nat))), some (.d (encM p))], rfl, [some (.d E), some (.d (.str k)), some (.d (encWd w)), some (.d (encP pl)), some (.d (brD bs)), some (dmO (demss w (ps.take (i + 1)) bs pl 0)), some (.d (.int (i : Nat))), some (.d (encM p))], .inl ?_, _, _, rfl⟩
            rw [demss_take hp hb, Nat.zero_add]
            have ap : dmO (demss w (ps.take i) bs pl 0 ++ dems w p b (pl ++ [i])) = .l (((demss w (ps.take i) bs pl 0).map fun d => Ow.d (encDm d)) ++ ((dems w p b (pl ++ [i])).map encDm).map Ow.d) := by
              unfold dmO
              rw [List.map_append, List.map_map]
              rfl
            rw [ap]
            unfold dmO at sh hm ⊢
            generalize ((demss w (ps.take i) bs pl 0).map fun d => Ow.d (encDm d)) = OS at hl ⊢
            generalize (dems w p b (pl ++ [i])).map (fun d => Ow.d (encDm d)) = DO at sh hm
            generalize dmD (dems w p b (pl ++ [i])) = DD at sh as
            generalize (dems w p b (pl ++ [i])).map encDm = DS at as hl ⊢
            generalize encP (pl ++ [i]) = Q at ga hm
            generalize encP pl = P at ga ⊢
            generalize encM p = M at hm ⊢
            generalize encWd w = W at hm ⊢
            generalize brD bs = B at bi ⊢
            simp [bi, ga, hm, sh, as, sizeLine_eq, hl]) [some (.d E), some (.d (.str k)), some (.d (encWd w)), some (.d (encP pl)), some (.d (brD bs)), some (dmO []), none, none] ⟨none, none, by rw [List.take_zero, demss]⟩
        subst e2
        rw [enumD_len, List.length_map, List.take_length] at e1
        have en : enArg [.tuple (ps.map encM)] = .ok (enumD 0 (ps.map encM)) := rfl
        refine fin_step (env1 := _) (by
          rw [sFor_eq]
          have it : (eB (aCons (eBin gIx (eVar 0) (eC (.int 4))) aNil) enArg) [some (.d E), some (.d (.str k)), some (.d (encWd w)), some (.d (encP pl)), some (.d (brD bs)), some (dmO []), none, none] = .ok (enumD 0 (ps.map encM)) := by
            generalize PyData.tuple (ps.map encM) = TP at m4 en
            generalize encWd w = W
            generalize encP pl = P
            generalize brD bs = B
            simp [m4, en]
          rw [it, R.st_ok]
          exact e1) ?_
        show finR (sRetV 5 _) = _
        rw [sRetV_of _ (o := dmO (demss w ps bs pl 0)) rfl]
        rfl
      · rw [if_neg c]
        have c' : ¬ ((bs.length : Nat) : Int) = (ps.length : Nat) := by omega
        have e : dmO [⟨pl, none, k⟩] = .l [.d (.tuple [encP pl, .none, .str k])] := rfl
        rw [e]
        generalize PyData.tuple (ps.map encM) = TP at m4 l4
        generalize encWd w = W
        generalize encP pl = P
        generalize brD bs = B at n1 lk
        simp [n1, lk, m4, l4, c', sizeLine_eq]
end
end Mir
set_option Elab.async false
set_option linter.all false
set_option maxRecDepth 100000
set_option maxHeartbeats 4000000
namespace Mir
open PySem PySem.Spec L2
theorem brOf_kinds {w : Wood} (hw : WoodOk w) {k nm : Str} (hk : k ∈ w.map (·.1)) {bs : List Str} (h : brOf (rowsOf w k) nm = some bs) : bs.length ≤ 3 ∧ ∀ z ∈ bs, z ∈ w.map (·.1) := by
  obtain ⟨p, hp, rfl⟩ := List.mem_map.mp hk
  rw [rowsOf_kind hw.kinds hp] at h
  obtain ⟨r, hr, _, rfl⟩ := brOf_mem h
  exact (hw.rok p hp r hr).2
noncomputable section
abbrev bRowL : Ev → SR := (sSeq (sFor (eB (eDictIx (eVar 0) (eVar 1)) itD) (gtName 3)
    (sIf (eB (eBin gEq (eBin gIx (eVar 3) (eC (.int 0))) (eVar 2)) asB)
    (sRet (eM (eBin gIx (eVar 3) (eC (.int 1))) Ow.d))
    sSkip))
    (sRet (eM (eC .none) Ow.d)))
theorem rowL_fin {w : Wood} (hw : (w.map (·.1)).Nodup) {k : Str} (hk : k ∈ w.map (·.1)) (nm : Str) : finR (bRowL (envOf 1 [encWd w, .str k, .str nm])) = .ok (.d (obD (brOf (rowsOf w k) nm))) := by
  have he : envOf 1 [encWd w, .str k, .str nm] = [some (.d (encWd w)), some (.d (.str k)), some (.d (.str nm)), none] := rfl
  rw [he]
  obtain ⟨env', ⟨x3, e2⟩, lp⟩ := forL_first (g := gtName 3) (f := sIf (eB (eBin gEq (eBin gIx (eVar 3) (eC (.int 0))) (eVar 2)) asB)
    (sRet (eM (eBin gIx (eVar 3) (eC (.int 1))) Ow.d))
    sSkip) encRw (fun r => if r.nm == nm then some (Ow.d (brD r.br)) else none) (fun env => ∃ x3, env = [some (.d (encWd w)), some (.d (.str k)), some (.d (.str nm)), x3]) (rowsOf w k) (fun r _ env ⟨x3, e⟩ => by
      subst e
      refine ⟨[some (.d (encWd w)), some (.d (.str k)), some (.d (.str nm)), some (.d (encRw r))], rfl, [some (.d (encWd w)), some (.d (.str k)), some (.d (.str nm)), some (.d (encRw r))], ⟨_, rfl⟩, ?_⟩
      have j0 : gIx (encRw r) (.int 0) = some (.str r.nm) := by simp [encRw]
      have j1 : gIx (encRw r) (.int 1) = some (brD r.br) := by simp [encRw, brD]
      generalize encRw r = RR at j0 j1
      generalize brD r.br = B at j1 ⊢
      generalize encWd w = W
      cases c : r.nm == nm <;> simp [j0, j1, gEq_str, c, orRt]) [some (.d (encWd w)), some (.d (.str k)), some (.d (.str nm)), none] ⟨none, rfl⟩
  subst e2
  rw [brOf_find] at lp
  have ap := asPairs_wd w
  have lpp := lastP_wd (k := k) hw
  have an : (w.any fun q => q.1 == k) = true := by
    obtain ⟨p, hp, rfl⟩ := List.mem_map.mp hk
    rw [List.any_eq_true]
    exact ⟨p, hp, beq_self_eq_true _⟩
  rw [an, if_pos rfl] at lpp
  have it : (eB (eDictIx (eVar 0) (eVar 1)) itD) [some (.d (encWd w)), some (.d (.str k)), some (.d (.str nm)), none] = .ok ((rowsOf w k).map encRw) := by
    have i2 : itD (rwsD (rowsOf w k)) = .ok ((rowsOf w k).map encRw) := rfl
    generalize rwsD (rowsOf w k) = RW at lpp i2
    generalize encWd w = W at ap
    simp [ap, lpp, i2]
  show finR (sSeq _ _ _) = _
  rw [sSeq_eq, sFor_eq, it, R.st_ok, lp]
  cases brOf (rowsOf w k) nm with
  | none => simp [orRt, obD]
  | some i => simp [orRt, obD]
def fitsB (w : Wood) (k nm : Str) (n : Nat) : Bool := match brOf (rowsOf w k) nm with
  | none => false
  | some bs => decide (bs.length = n)
abbrev bFitsL (f18 : List D → R Ow) : Ev → SR := (sSeq (sSet 3 (eM (eM (eB (aCons (eVar 0) (aCons (eVar 1) (aCons (eBin gIx (eVar 2) (eC (.int 0))) aNil))) f18) viewD) Ow.d))
    (sRet (eM (eAnd (eBin gNotN (eVar 3) (eC .none)) (eBin gEq (eM (eCa gLen (aCons (eVar 3) aNil)) viewD) (eBin gIx (eVar 2) (eC (.int 2))))) Ow.d)))
theorem fitsL_fin {w : Wood} {f18 : List D → R Ow} (k nm : Str) (n : Nat) (L : D) (h0 : gIx L (.int 0) = some (.str nm)) (h2 : gIx L (.int 2) = some (.int (n : Nat))) (h18 : f18 [encWd w, .str k, .str nm] = .ok (.d (obD (brOf (rowsOf w k) nm)))) : finR (bFitsL f18 (envOf 1 [encWd w, .str k, L])) = .ok (.d (.bool (fitsB w k nm n))) := by
  have he : envOf 1 [encWd w, .str k, L] = [some (.d (encWd w)), some (.d (.str k)), some (.d L), none] := rfl
  rw [he]
  unfold fitsB
  generalize encWd w = W at h18 ⊢
  refine fin_step (env1 := [some (.d W), some (.d (.str k)), some (.d L), some (.d (obD (brOf (rowsOf w k) nm)))]) (by
    generalize obD (brOf (rowsOf w k) nm) = O at h18 ⊢
    simp [h0, h18]) ?_
  cases brOf (rowsOf w k) nm with
  | none =>
    have n1 : isNone PyData.none = true := rfl
    simp [obD, n1]
  | some bs =>
    have n1 : isNone (brD bs) = false := rfl
    have lk := br_len bs
    show finR (sRet _ [some (.d W), some (.d (.str k)), some (.d L), some (.d (brD bs))]) = .ok (.d (.bool (decide (bs.length = n))))
    generalize brD bs = B at n1 lk
    by_cases c : bs.length = n
    · simp [n1, lk, h2, c]
    · have c' : ¬ ((bs.length : Nat) : Int) = (n : Nat) := by omega
      simp [n1, lk, h2, c, c']
mutual
def ofM (w : Wood) : Trm → Str → Bool
  | .call _ _, _ => false
  | .put nm _ _ ps, k => match brOf (rowsOf w k) nm with
    | none => false
    | some bs => decide (bs.length = ps.length) && ofMs w ps bs
def ofMs (w : Wood) : List Trm → List Str → Bool
  | [], _ => true
  | _ :: _, [] => true
  | p :: ps, b :: bs => ofM w p b && ofMs w ps bs
end
theorem ofMs_zip (w : Wood) : ∀ (ps : List Trm) (bs : List Str), ofMs w ps bs = (bs.zip ps).all fun p => ofM w p.2 p.1
  | [], bs => by rw [ofMs]; simp
  | p :: ps, [] => by rw [ofMs]; simp
  | p :: ps, b :: bs => by rw [ofMs, ofMs_zip w ps bs]; simp
abbrev omStep (f21 : List D → R Ow) : Ev → SR := (sIf (tNotE (eB (eM (eB (aCons (eVar 0) (aCons (eVar 3) (aCons (eVar 4) aNil))) f21) viewD) asB))
    (sRet (eM (eC (.bool false)) Ow.d))
    sSkip)
abbrev bOfM (f18 f19 f21 : List D → R Ow) : Ev → SR := (sSeq (sIf (tNotE (eB (eM (eB (aCons (eVar 0) (aCons (eVar 1) (aCons (eTup (aCons (eBin gIx (eVar 2) (eC (.int 1))) (aCons (eC (.int 0)) (aCons (eM (eCa gLen (aCons (eBin gIx (eVar 2) (eC (.int 4))) aNil)) viewD) aNil)))) aNil))) f19) viewD) asB))
    (sRet (eM (eC (.bool false)) Ow.d))
    sSkip)
    (sSeq (sFor (eB (aCons (eM (eB (aCons (eVar 0) (aCons (eVar 1) (aCons (eBin gIx (eVar 2) (eC (.int 1))) aNil))) f18) viewD) (aCons (eBin gIx (eVar 2) (eC (.int 4))) aNil)) zpArg) (gtTup 2 (gtCons (gtName 3) (gtCons (gtName 4) gtNil)))
    (omStep f21))
    (sRet (eM (eC (.bool true)) Ow.d))))
theorem ofM_fin {w : Wood} {f18 f19 f21 : List D → R Ow} (k nm : Str) (kp : Bool) (ad : Int) (ps : List Trm) (h18 : f18 [encWd w, .str k, .str nm] = .ok (.d (obD (brOf (rowsOf w k) nm)))) (h19 : f19 [encWd w, .str k, .tuple [.str nm, .int 0, .int (ps.length : Nat)]] = .ok (.d (.bool (fitsB w k nm ps.length))))
    (h21 : ∀ bs, brOf (rowsOf w k) nm = some bs → ∀ p ∈ ps, ∀ b ∈ bs, f21 [encWd w, .str b, encM p] = .ok (.d (.bool (ofM w p b)))) : finR (bOfM f18 f19 f21 (envOf 2 [encWd w, .str k, encM (.put nm kp ad ps)])) = .ok (.d (.bool (ofM w (.put nm kp ad ps) k))) := by
  have he : envOf 2 [encWd w, .str k, encM (.put nm kp ad ps)] = [some (.d (encWd w)), some (.d (.str k)), some (.d (encM (.put nm kp ad ps))), none, none] := rfl
  rw [he, ofM]
  have m1 := m_ix1 nm kp ad ps
  have m4 := m_ix4 nm kp ad ps
  have l4 := tup_len (ps.map encM)
  rw [List.length_map] at l4
  obtain ⟨E, hE⟩ : ∃ E, E = encM (.put nm kp ad ps) := ⟨_, rfl⟩
  rw [← hE] at m1 m4 ⊢
  have ct : (tNotE (eB (eM (eB (aCons (eVar 0) (aCons (eVar 1) (aCons (eTup (aCons (eBin gIx (eVar 2) (eC (.int 1))) (aCons (eC (.int 0)) (aCons (eM (eCa gLen (aCons (eBin gIx (eVar 2) (eC (.int 4))) aNil)) viewD) aNil)))) aNil))) f19) viewD) asB)) [some (.d (encWd w)), some (.d (.str k)), some (.d E), none, none] = .ok (!fitsB w k nm ps.length) := by
    generalize PyData.tuple (ps.map encM) = TP at m4 l4
    generalize encWd w = W at h19
    generalize fitsB w k nm ps.length = b at h19
    generalize ((ps.length : Nat) : Int) = LN at l4 h19
    cases b <;> simp [m1, m4, l4, h19, sizeLine_eq]
  show finR (sSeq (sIf _ _ _) _ _) = _
  rw [sSeq_eq, sIf_eq, ct, R.st_ok]
  unfold fitsB
  cases hb : brOf (rowsOf w k) nm with
  | none => simp
  | some bs =>
    rw [hb] at h18
    simp only
    by_cases c : bs.length = ps.length
    · simp only [decide_eq_true c, Bool.not_true, Bool.false_eq_true, if_false, sSkip_eq, SR.andThen, Bool.true_and]
      obtain ⟨env', ⟨x3, x4, e2⟩, lp⟩ := forL_first (g := gtTup 2 (gtCons (gtName 3) (gtCons (gtName 4) gtNil))) (f := omStep f21) (fun p : Str × Trm => PyData.tuple [.str p.1, encM p.2]) (fun p => noF (ofM w p.2 p.1)) (fun env => ∃ x3 x4, env = [some (.d (encWd w)), some (.d (.str k)), some (.d E), x3, x4]) (bs.zip ps) (fun q hq env ⟨x3, x4, e⟩ => by
        subst e
        refine ⟨[some (.d (encWd w)), some (.d (.str k)), some (.d E), some (.d (.str q.1)), some (.d (encM q.2))], rfl, [some (.d (encWd w)), some (.d (.str k)), some (.d E), some (.d (.str q.1)), some (.d (encM q.2))], ⟨_, _, rfl⟩, ?_⟩
        have hh := h21 bs hb q.2 (List.of_mem_zip hq).2 q.1 (List.of_mem_zip hq).1
        generalize encM q.2 = T2 at hh ⊢
        generalize encWd w = W at hh
        cases cc : ofM w q.2 q.1 with
        | true => rw [cc] at hh; simp [hh, noF_t, orRt]
        | false => rw [cc] at hh; simp [hh, noF_f, orRt]) [some (.d (encWd w)), some (.d (.str k)), some (.d E), none, none] ⟨none, none, rfl⟩
      subst e2
      rw [find_noF, ← ofMs_zip] at lp
      have zp : zpArg [brD bs, .tuple (ps.map encM)] = .ok ((bs.zip ps).map fun p => .tuple [.str p.1, encM p.2]) := by
        have : zpArg [brD bs, .tuple (ps.map encM)] = .ok (zipD (bs.map PyData.str) (ps.map encM)) := rfl
        rw [this, zipD_zip]
      have e3 : (eB (aCons (eM (eB (aCons (eVar 0) (aCons (eVar 1) (aCons (eBin gIx (eVar 2) (eC (.int 1))) aNil))) f18) viewD) (aCons (eBin gIx (eVar 2) (eC (.int 4))) aNil)) zpArg) [some (.d (encWd w)), some (.d (.str k)), some (.d E), none, none] = .ok ((bs.zip ps).map fun p => .tuple [.str p.1, encM p.2]) := by
        have h18' : f18 [encWd w, .str k, .str nm] = .ok (.d (brD bs)) := h18
        generalize PyData.tuple (ps.map encM) = TP at m4 zp
        generalize encWd w = W at h18'
        generalize brD bs = B at h18' zp
        simp [m1, m4, h18', zp]
      rw [sSeq_eq, sFor_eq, e3, R.st_ok, lp]
      cases ofMs w ps bs with
      | true => simp [noF_t, orRt]
      | false => simp [noF_f, orRt]
    · simp [c]
end
def wrongAt (w : Wood) : List Nat → Trm → Str → Prop
  | [], .put nm _ _ ps, k => fitsB w k nm ps.length = false
  | i :: q, .put nm _ _ ps, k => ∃ bs p b, brOf (rowsOf w k) nm = some bs ∧ bs.length = ps.length ∧ ps[i]? = some p ∧ bs[i]? = some b ∧ wrongAt w q p b
  | _, .call _ _, _ => False
theorem callsMs_nil : ∀ {ps : List Trm}, callsMs ps = [] → ∀ p ∈ ps, callsM p = []
  | [], _, p, h => by cases h
  | q :: ps, h, p, hp => by
    rw [callsMs, List.append_eq_nil_iff] at h
    rcases List.mem_cons.mp hp with rfl | hp
    · exact h.1
    · exact callsMs_nil h.2 p hp
mutual
theorem dems_of (w : Wood) : ∀ (T : Trm) (k : Str) (pl : List Nat), callsM T = [] → (ofM w T k = (dems w T k pl).isEmpty) ∧ ∀ d r, dems w T k pl = d :: r → d.tm = none ∧ ∃ q, d.pl = pl ++ q ∧ wrongAt w q T k
  | .call m b, k, pl, h => by rw [callsM] at h; cases h
  | .put nm kp ad ps, k, pl, h => by
    rw [callsM] at h
    rw [ofM, dems]
    cases hb : brOf (rowsOf w k) nm with
    | none =>
      refine ⟨rfl, fun d r e => ?_⟩
      have : (⟨pl, none, k⟩ : Dm) = d := (List.cons.inj e).1
      subst this
      exact ⟨rfl, [], by simp, by unfold wrongAt fitsB; rw [hb]⟩
    | some bs =>
      simp only
      by_cases c : bs.length = ps.length
      · rw [if_pos c, decide_eq_true c, Bool.true_and]
        obtain ⟨h1, h2⟩ := demss_of w ps bs pl 0 h c
        refine ⟨h1, fun d r e => ?_⟩
        obtain ⟨a, i, p, b, q, g1, g2, g3, g4⟩ := h2 d r e
        refine ⟨a, i :: q, by rw [g3]; simp, ?_⟩
        unfold wrongAt
        exact ⟨bs, p, b, hb, c, g1, g2, g4⟩
      · rw [if_neg c, decide_eq_false c, Bool.false_and]
        refine ⟨rfl, fun d r e => ?_⟩
        have : (⟨pl, none, k⟩ : Dm) = d := (List.cons.inj e).1
        subst this
        exact ⟨rfl, [], by simp, by unfold wrongAt fitsB; rw [hb]; exact decide_eq_false c⟩
theorem demss_of (w : Wood) : ∀ (ps : List Trm) (bs : List Str) (pl : List Nat) (o : Nat), callsMs ps = [] → bs.length = ps.length → (ofMs w ps bs = (demss w ps bs pl o).isEmpty) ∧ ∀ d r, demss w ps bs pl o = d :: r → d.tm = none ∧ ∃ i p b q, ps[i]? = some p ∧ bs[i]? = some b ∧ d.pl = pl ++ (o + i) :: q ∧ wrongAt w q p b
  | [], bs, pl, o, h, c => by rw [ofMs, demss]; exact ⟨rfl, fun d r e => by cases e⟩
  | p :: ps, [], pl, o, h, c => by simp at c
  | p :: ps, b :: bs, pl, o, h, c => by
    rw [callsMs, List.append_eq_nil_iff] at h
    rw [ofMs, demss]
    obtain ⟨a1, a2⟩ := dems_of w p b (pl ++ [o]) h.1
    obtain ⟨b1, b2⟩ := demss_of w ps bs pl (o + 1) h.2 (by simpa using c)
    rw [a1, b1]
    cases hd : dems w p b (pl ++ [o]) with
    | nil =>
      refine ⟨by simp, fun d r e => ?_⟩
      obtain ⟨g0, i, p', b', q, g1, g2, g3, g4⟩ := b2 d r (by simpa using e)
      exact ⟨g0, i + 1, p', b', q, by simpa using g1, by simpa using g2, by rw [g3]; congr 2; omega, g4⟩
    | cons x xs =>
      refine ⟨by simp, fun d r e => ?_⟩
      have : x = d := by
        rw [List.cons_append] at e
        exact (List.cons.inj e).1
      subst this
      obtain ⟨g0, q, g1, g2⟩ := a2 x xs hd
      exact ⟨g0, 0, p, b, q, rfl, rfl, by rw [g1]; simp, g2⟩
end
end Mir
set_option Elab.async false
set_option linter.all false
set_option maxRecDepth 100000
set_option maxHeartbeats 4000000
namespace Mir
open PySem PySem.Spec L2
noncomputable section
abbrev waStep (f18 f19 f20 : List D → R Ow) : Ev → SR := (sSeq (sIf (tOrE (tNotE (eB (eM (eB (aCons (eVar 4) aNil) f20) viewD) asB)) (tOrE (eB (eBin gLt (eVar 4) (eC (.int 0))) asB) (eB (eBin gGe (eVar 4) (eM (eCa gLen (aCons (eBin gIx (eVar 1) (eC (.int 4))) aNil)) viewD)) asB)))
    (sRet (eM (eC (.bool false)) Ow.d))
    sSkip)
    (sSeq (sIf (tNotE (eB (eM (eB (aCons (eVar 0) (aCons (eVar 3) (aCons (eTup (aCons (eBin gIx (eVar 1) (eC (.int 1))) (aCons (eC (.int 0)) (aCons (eM (eCa gLen (aCons (eBin gIx (eVar 1) (eC (.int 4))) aNil)) viewD) aNil)))) aNil))) f19) viewD) asB))
    (sRet (eM (eC (.bool false)) Ow.d))
    sSkip)
    (sSeq (sSet 3 (eM (eBin gIx (eB (eB (aCons (eVar 0) (aCons (eVar 3) (aCons (eBin gIx (eVar 1) (eC (.int 1))) aNil))) f18) shD) (eVar 4)) Ow.d))
    (sSet 1 (eM (eBin gIx (eBin gIx (eVar 1) (eC (.int 4))) (eVar 4)) Ow.d)))))
abbrev bWrongAt (f18 f19 f20 : List D → R Ow) : Ev → SR := (sSeq (sIf (tNotE (eB (eB (eVar 2) (gIsi "tuple")) asB))
    (sRet (eM (eC (.bool false)) Ow.d))
    sSkip)
    (sSeq (sSet 3 (eM (eBin gIx (eBin gIx (eVar 0) (eC (.int 0))) (eC (.int 0))) Ow.d))
    (sSeq (sFor (eB (eVar 2) itD) (gtName 4)
    (waStep f18 f19 f20))
    (sRet (eM (eNot (eM (eB (aCons (eVar 0) (aCons (eVar 3) (aCons (eTup (aCons (eBin gIx (eVar 1) (eC (.int 1))) (aCons (eC (.int 0)) (aCons (eM (eCa gLen (aCons (eBin gIx (eVar 1) (eC (.int 4))) aNil)) viewD) aNil)))) aNil))) f19) viewD)) Ow.d)))))
theorem wa_loop {w : Wood} (hw : WoodOk w) {f18 f19 f20 : List D → R Ow} (h18 : ∀ k ∈ w.map (·.1), ∀ nm, f18 [encWd w, .str k, .str nm] = .ok (.d (obD (brOf (rowsOf w k) nm)))) (h19 : ∀ k ∈ w.map (·.1), ∀ nm (n : Nat), f19 [encWd w, .str k, .tuple [.str nm, .int 0, .int (n : Nat)]] = .ok (.d (.bool (fitsB w k nm n)))) (h20 : ∀ z : Int, f20 [.int z] = .ok (.d (.bool true))) (P : D) :
    ∀ (q : List Nat) (T : Trm) (k : Str) (x4 : Option Ow), k ∈ w.map (·.1) → wrongAt w q T k → ∃ nm kp ad ps k' y4, k' ∈ w.map (·.1) ∧ fitsB w k' nm ps.length = false ∧ forL (gtName 4) (waStep f18 f19 f20) (q.map fun i : Nat => PyData.int (i : Nat)) [some (.d (encWd w)), some (.d (encM T)), some (.d P), some (.d (.str k)), x4] = .nx [some (.d (encWd w)), some (.d (encM (.put nm kp ad ps))), some (.d P), some (.d (.str k')), y4]
  | [], .call m b, k, x4, hk, h => h.elim
  | _ :: _, .call m b, k, x4, hk, h => h.elim
  | [], .put nm kp ad ps, k, x4, hk, h => ⟨nm, kp, ad, ps, k, x4, hk, h, rfl⟩
  | i :: q, .put nm kp ad ps, k, x4, hk, h => by
    obtain ⟨bs, p, b, hb, hl, hp, hbi, hr⟩ := h
    have bk := (brOf_kinds hw hk hb).2 b (List.mem_of_getElem? hbi)
    obtain ⟨nm', kp', ad', ps', k', y4, g1, g2, g3⟩ := wa_loop hw h18 h19 h20 P q p b (some (.d (.int (i : Nat)))) bk hr
    refine ⟨nm', kp', ad', ps', k', y4, g1, g2, ?_⟩
    rw [← g3, List.map_cons]
    have m1 := m_ix1 nm kp ad ps
    have m4 := m_ix4 nm kp ad ps
    have l4 := tup_len (ps.map encM)
    rw [List.length_map] at l4
    have il := (List.getElem?_eq_some_iff.mp hp).1
    have pi : gIx (.tuple (ps.map encM)) (.int (i : Nat)) = some (encM p) := by
      show atI (ps.map encM) _ = _
      exact atI_natD (by rw [List.getElem?_map, hp]; rfl)
    have bi := br_ix hbi
    have e18 := h18 k hk nm
    rw [hb] at e18
    have e18' : f18 [encWd w, .str k, .str nm] = .ok (.d (brD bs)) := e18
    have e19 := h19 k hk nm ps.length
    have fb : fitsB w k nm ps.length = true := by unfold fitsB; rw [hb]; exact decide_eq_true hl
    rw [fb] at e19
    have e20 := h20 (i : Nat)
    have lt0 : gLt (.int (i : Nat)) (.int 0) = some (.bool false) := by
      have : gLt (.int (i : Nat)) (.int 0) = some (.bool (decide (((i : Nat) : Int) < 0))) := rfl
      rw [this, decide_eq_false (by omega)]
    have ge : gGe (.int (i : Nat)) (.int (ps.length : Nat)) = some (.bool false) := by
      have : gGe (.int (i : Nat)) (.int (ps.length : Nat)) = some (.bool (decide (((ps.length : Nat) : Int) ≤ (i : Nat)))) := rfl
      rw [this, decide_eq_false (by omega)]
    have sb : shD (.d (brD bs)) = .ok (brD bs) := rfl
    have st : waStep f18 f19 f20 [some (.d (encWd w)), some (.d (encM (.put nm kp ad ps))), some (.d P), some (.d (.str k)), some (.d (.int (i : Nat)))] = .nx [some (.d (encWd w)), some (.d (encM p)), some (.d P), some (.d (.str b)), some (.d (.int (i : Nat)))] := by
      generalize encM p = E2 at pi ⊢
      generalize encM (.put nm kp ad ps) = E at m1 m4 ⊢
      generalize PyData.tuple (ps.map encM) = TP at m4 l4 pi
      generalize ((ps.length : Nat) : Int) = LN at l4 e19 ge
      generalize ((i : Nat) : Int) = I at pi bi e20 lt0 ge ⊢
      generalize brD bs = B at e18' bi sb
      generalize encWd w = W at e18' e19 ⊢
      simp [e20, lt0, m4, l4, ge, m1, e19, e18', sb, bi, pi, sizeLine_eq]
    have gt : gtName 4 (.int (i : Nat)) [some (.d (encWd w)), some (.d (encM (.put nm kp ad ps))), some (.d P), some (.d (.str k)), x4] = some [some (.d (encWd w)), some (.d (encM (.put nm kp ad ps))), some (.d P), some (.d (.str k)), some (.d (.int (i : Nat)))] := rfl
    rw [forL, gt]
    simp only [st]
theorem wrongAt_fin {w : Wood} (hw : WoodOk w) {f18 f19 f20 : List D → R Ow} (h18 : ∀ k ∈ w.map (·.1), ∀ nm, f18 [encWd w, .str k, .str nm] = .ok (.d (obD (brOf (rowsOf w k) nm)))) (h19 : ∀ k ∈ w.map (·.1), ∀ nm (n : Nat), f19 [encWd w, .str k, .tuple [.str nm, .int 0, .int (n : Nat)]] = .ok (.d (.bool (fitsB w k nm n)))) (h20 : ∀ z : Int, f20 [.int z] = .ok (.d (.bool true)))
    {p0 : Str × List Rw} (hp0 : w[0]? = some p0) (T : Trm) (q : List Nat) (h : wrongAt w q T p0.1) : finR (bWrongAt f18 f19 f20 (envOf 2 [encWd w, encM T, encP q])) = .ok (.d (.bool true)) := by
  have he : envOf 2 [encWd w, encM T, encP q] = [some (.d (encWd w)), some (.d (encM T)), some (.d (encP q)), none, none] := rfl
  rw [he]
  have k0 : p0.1 ∈ w.map (·.1) := List.mem_map.mpr ⟨p0, List.mem_of_getElem? hp0, rfl⟩
  have w0 := wd_ix0 hp0
  have w00 := kd_ix0 p0
  obtain ⟨nm, kp, ad, ps, k', y4, g1, g2, g3⟩ := wa_loop hw h18 h19 h20 (encP q) q T p0.1 none k0 h
  have it : itD (encP q) = .ok (q.map fun i : Nat => PyData.int (i : Nat)) := rfl
  have isi : gIsi "tuple" (encP q) = .ok (.bool true) := rfl
  have e19 := h19 k' g1 nm ps.length
  rw [g2] at e19
  have m1 := m_ix1 nm kp ad ps
  have m4 := m_ix4 nm kp ad ps
  have l4 := tup_len (ps.map encM)
  rw [List.length_map] at l4
  refine fin_step (env1 := [some (.d (encWd w)), some (.d (encM T)), some (.d (encP q)), none, none]) (by
    generalize encP q = Q at isi
    generalize encM T = E
    generalize encWd w = W
    simp [isi]) ?_
  refine fin_step (env1 := [some (.d (encWd w)), some (.d (encM T)), some (.d (encP q)), some (.d (.str p0.1)), none]) (by
    generalize encP q = Q
    generalize encM T = E
    generalize encKd p0 = K0 at w0 w00
    generalize encWd w = W at w0
    simp [w0, w00]) ?_
  refine fin_step (env1 := [some (.d (encWd w)), some (.d (encM (.put nm kp ad ps))), some (.d (encP q)), some (.d (.str k')), y4]) (by
    have e3 : (eB (eVar 2) itD) [some (.d (encWd w)), some (.d (encM T)), some (.d (encP q)), some (.d (.str p0.1)), none] = .ok (q.map fun i : Nat => PyData.int (i : Nat)) := by
      rw [eB_eq]
      show R.bind (.ok (encP q)) itD = _
      rw [R.bind_ok, it]
    rw [sFor_eq, e3, R.st_ok, g3]) ?_
  generalize encM (.put nm kp ad ps) = E at m1 m4
  generalize PyData.tuple (ps.map encM) = TP at m4 l4
  generalize ((ps.length : Nat) : Int) = LN at l4 e19
  generalize encP q = Q
  generalize encWd w = W at e19
  simp [m1, m4, l4, e19, sizeLine_eq]
end
mutual
def plM (c : Nat) : Trm → Prop
  | .call _ _ => False
  | .put nm _ _ ps => PyData.strOk nm = true ∧ ps.length ≤ c ∧ plMs c ps
def plMs (c : Nat) : List Trm → Prop
  | [] => True
  | p :: ps => plM c p ∧ plMs c ps
end
theorem plMs_iff (c : Nat) : ∀ ps : List Trm, plMs c ps ↔ ∀ p ∈ ps, plM c p
  | [] => by rw [plMs]; simp
  | p :: ps => by rw [plMs, plMs_iff c ps]; simp
mutual
theorem plM_mono {c d : Nat} (h : c ≤ d) : ∀ T : Trm, plM c T → plM d T
  | .call _ _, a => by rw [plM] at a; exact a.elim
  | .put nm kp ad ps, a => by
    rw [plM] at a ⊢
    exact ⟨a.1, by omega, plMs_mono h ps a.2.2⟩
theorem plMs_mono {c d : Nat} (h : c ≤ d) : ∀ ps : List Trm, plMs c ps → plMs d ps
  | [], _ => by rw [plMs]; trivial
  | p :: ps, a => by
    rw [plMs] at a ⊢
    exact ⟨plM_mono h p a.1, plMs_mono h ps a.2⟩
end
mutual
theorem plM_calls {c : Nat} : ∀ T : Trm, plM c T → callsM T = []
  | .call _ _, a => by rw [plM] at a; exact a.elim
  | .put nm kp ad ps, a => by
    rw [plM] at a
    rw [callsM]
    exact plMs_calls ps a.2.2
theorem plMs_calls {c : Nat} : ∀ ps : List Trm, plMs c ps → callsMs ps = []
  | [], _ => rfl
  | p :: ps, a => by
    rw [plMs] at a
    rw [callsMs, plM_calls p a.1, plMs_calls ps a.2]
    rfl
end
mutual
theorem plM_ok {c : Nat} (hc : c ≤ 1000) : ∀ T : Trm, plM c T → okM T
  | .call _ _, a => by rw [plM] at a; exact a.elim
  | .put nm kp ad ps, a => by
    rw [plM] at a
    rw [okM]
    exact ⟨a.1, by omega, plMs_ok hc ps a.2.2⟩
theorem plMs_ok {c : Nat} (hc : c ≤ 1000) : ∀ ps : List Trm, plMs c ps → okMs ps
  | [], _ => by rw [okMs]; trivial
  | p :: ps, a => by
    rw [plMs] at a
    rw [okMs]
    exact ⟨plM_ok hc p a.1, plMs_ok hc ps a.2⟩
end
theorem plM_size {c : Nat} : ∀ (n : Nat) (T : Trm), levM T ≤ n → plM c T → sizeM T ≤ (c + 1) ^ n
  | _, .call _ _, _, a => by rw [plM] at a; exact a.elim
  | 0, .put nm kp ad ps, h, a => by rw [levM] at h; omega
  | n + 1, .put nm kp ad ps, h, a => by
    rw [levM] at h
    rw [plM, plMs_iff] at a
    rw [sizeM]
    have := sizeMs_le (n := c) (m := (c + 1) ^ n) a.2.1 fun p hp => plM_size n p (levMs_le (by omega) p hp) (a.2.2 p hp)
    have h1 : 1 ≤ (c + 1) ^ n := Nat.one_le_pow _ _ (by omega)
    rw [Nat.pow_succ, Nat.mul_comm, Nat.add_mul]
    omega
end Mir
set_option Elab.async false
set_option linter.all false
set_option maxRecDepth 100000
set_option maxHeartbeats 4000000
namespace Mir
open PySem PySem.Spec L2
/-- a call that the law has to give: mode, branch, the kind of what comes -/
structure Cl3 where
  m : Nat
  b : Nat
  kd : Str
def encCl3 (c : Cl3) : D := .tuple [.int (c.m : Nat), .int (c.b : Nat), .str c.kd]
def cl3D (cs : List Cl3) : D := .list (cs.map encCl3)
mutual
def typM (w : Wood) (cs : List Cl3) : Trm → Str → Prop
  | .call m b, k => ∃ c ∈ cs, (c.m : Int) = m ∧ (c.b : Int) = b ∧ c.kd = k
  | .put nm _ _ ps, k => ∃ bs, brOf (rowsOf w k) nm = some bs ∧ bs.length = ps.length ∧ typMs w cs ps bs
def typMs (w : Wood) (cs : List Cl3) : List Trm → List Str → Prop
  | [], _ => True
  | _ :: _, [] => True
  | p :: ps, b :: bs => typM w cs p b ∧ typMs w cs ps bs
end
theorem typMs_iff {w : Wood} {cs : List Cl3} : ∀ {ps : List Trm} {bs : List Str}, (∀ (i : Nat) (p : Trm) (b : Str), ps[i]? = some p → bs[i]? = some b → typM w cs p b) → typMs w cs ps bs
  | [], _, _ => by rw [typMs]; trivial
  | _ :: _, [], _ => by rw [typMs]; trivial
  | p :: ps, b :: bs, h => by
    rw [typMs]
    exact ⟨h 0 p b rfl rfl, typMs_iff fun i p b h1 h2 => h (i + 1) p b (by simpa using h1) (by simpa using h2)⟩
mutual
/-- names fit, few parts -/
def fewM (c : Nat) : Trm → Prop
  | .call _ _ => True
  | .put nm _ _ ps => PyData.strOk nm = true ∧ ps.length ≤ c ∧ fewMs c ps
def fewMs (c : Nat) : List Trm → Prop
  | [] => True
  | p :: ps => fewM c p ∧ fewMs c ps
end
theorem fewMs_iff (c : Nat) : ∀ ps : List Trm, fewMs c ps ↔ ∀ p ∈ ps, fewM c p
  | [] => by rw [fewMs]; simp
  | p :: ps => by rw [fewMs, fewMs_iff c ps]; simp
mutual
theorem few_pl {c : Nat} : ∀ T : Trm, fewM c T → callsM T = [] → plM c T
  | .call _ _, _, h => by rw [callsM] at h; cases h
  | .put nm kp ad ps, a, h => by
    rw [fewM] at a
    rw [callsM] at h
    rw [plM]
    exact ⟨a.1, a.2.1, fews_pl ps a.2.2 h⟩
theorem fews_pl {c : Nat} : ∀ ps : List Trm, fewMs c ps → callsMs ps = [] → plMs c ps
  | [], _, _ => by rw [plMs]; trivial
  | p :: ps, a, h => by
    rw [fewMs] at a
    rw [callsMs, List.append_eq_nil_iff] at h
    rw [plMs]
    exact ⟨few_pl p a.1 h.1, fews_pl ps a.2 h.2⟩
end
mutual
theorem typ_nil {w : Wood} : ∀ (T : Trm) (k : Str), typM w [] T k → callsM T = []
  | .call m b, k, h => by
    rw [typM] at h
    obtain ⟨c, hc, _⟩ := h
    cases hc
  | .put nm kp ad ps, k, h => by
    rw [typM] at h
    obtain ⟨bs, _, hl, h⟩ := h
    rw [callsM]
    exact typs_nil ps bs hl h
theorem typs_nil {w : Wood} : ∀ (ps : List Trm) (bs : List Str), bs.length = ps.length → typMs w [] ps bs → callsMs ps = []
  | [], _, _, _ => rfl
  | p :: ps, [], hl, _ => by simp at hl
  | p :: ps, b :: bs, hl, h => by
    rw [typMs] at h
    rw [callsMs, typ_nil p b h.1, typs_nil ps bs (by simpa using hl) h.2]
    rfl
end
noncomputable section
abbrev tyPart (f17 : List D → R Ow) : Ev → SR := (sApp 15 (eB (aCons (eVar 0) (aCons (eM (eBinO gAdd (eB (eBinO gAdd (eBin gMul (eC (.int 3)) (eVar 1)) (eVar 16)) shD) (eC (.int 1))) viewD) (aCons (eBin gSub (eVar 2) (eC (.int 1))) (aCons (eBin gIx (eVar 14) (eVar 16)) (aCons (eVar 4) (aCons (eVar 5) (aCons (eVar 6) aNil))))))) f17))
abbrev bTyped (f13 f15 f17 : List D → R Ow) : Ev → SR := (sSeq (sSet 7 (eM (eM (eB (aCons (eVar 0) (aCons (eVar 1) aNil)) f13) viewD) Ow.d))
    (sSeq (sSet 8 (eM (eM (eLc (eB (eVar 5) itD) (gtName 9) (eB (eBin gEq (eBin gIx (eVar 9) (eC (.int 2))) (eVar 3)) asB) (eSl (eVar 9) oNone (eB (eC (.int 2)) asI)) (List.map (·.2) ([("_law_call", 9)] : List (Str × Nat)))) viewD) Ow.d))
    (sSeq (sIf (tAndE (eB (eBin gNe (eVar 8) (eM (eLst aNil) viewD)) asB) (eB (eBin gLt (eBin gMod (eVar 7) (eC (.int 5))) (eC (.int 2))) asB))
    (sRet (eBinO gAdd (eTup (aCons (eC (.str "call")) aNil)) (eBin gIx (eVar 8) (eBin gMod (eBin gDiv (eVar 7) (eC (.int 5))) (eM (eCa gLen (aCons (eVar 8) aNil)) viewD)))))
    sSkip)
    (sSeq (sSet 10 (eM (eM (eLc (eB (eDictIx (eVar 4) (eVar 3)) itD) (gtName 11) (tOrE (eB (eBin gEq (eBin gIx (eVar 11) (eC (.int 1))) (eTup aNil)) asB) (eB (eBin gGt (eVar 2) (eC (.int 0))) asB)) (eM (eVar 11) Ow.d) (List.map (·.2) ([("_law_row_here", 11)] : List (Str × Nat)))) viewD) Ow.d))
    (sSeq (sSet 12 (eM (eM (eLc (eB (eVar 10) itD) (gtName 11) (eB (eBin gNe (eBin gIx (eVar 11) (eC (.int 1))) (eTup aNil)) asB) (eM (eVar 11) Ow.d) (List.map (·.2) ([("_law_row_here", 11)] : List (Str × Nat)))) viewD) Ow.d))
    (sSeq (sIf (tAndE (eB (eBin gNe (eVar 12) (eM (eLst aNil) viewD)) asB) (eB (eBin gGt (eBin gMod (eBin gDiv (eVar 7) (eC (.int 32))) (eC (.int 4))) (eC (.int 0))) asB))
    (sSet 10 (eM (eVar 12) Ow.d))
    sSkip)
    (sSeq (sAsg (gtTup 2 (gtCons (gtName 13) (gtCons (gtName 14) gtNil))) (eBin gIx (eVar 10) (eBin gMod (eBin gDiv (eVar 7) (eC (.int 8192))) (eM (eCa gLen (aCons (eVar 10) aNil)) viewD))))
    (sSeq (sSet 15 (eLst aNil))
    (sSeq (sFor (eB (aCons (eM (eCa gLen (aCons (eVar 14) aNil)) viewD) aNil) rg1) (gtName 16)
    (tyPart f17))
    (sSeq (sSet 17 (eM (eAnd (eVar 6) (eBin gEq (eBin gMod (eBin gDiv (eVar 7) (eC (.int 1024))) (eC (.int 2))) (eC (.int 1)))) Ow.d))
    (sSeq (sSet 18 (eM (eBin gIx (eB (eLst (aCons (eC (.int 0)) (aCons (eBin gSub (eBin gMod (eBin gDiv (eVar 7) (eC (.int 2048))) (eC (.int 19))) (eC (.int 9))) (aCons (eM (eB (aCons (eVar 0) aNil) f15) viewD) aNil)))) shD) (eBin gMod (eBin gDiv (eVar 7) (eC (.int 64))) (eC (.int 3)))) Ow.d))
    (sRet (eM (eTup (aCons (eC (.str "put")) (aCons (eVar 13) (aCons (eVar 17) (aCons (eVar 18) (aCons (eM (eCa gTuple (aCons (eB (eVarO 15) shD) aNil)) viewD) aNil)))))) Ow.d)))))))))))))
theorem nice_rw {w : Wood} (hw : WoodOk w) {p : Str × List Rw} (hp : p ∈ w) {r : Rw} (hr : r ∈ p.2) : PyData.strOk r.nm = true ∧ ∀ z ∈ r.br, PyData.strOk z = true := by
  obtain ⟨a, _, b⟩ := hw.rok p hp r hr
  refine ⟨a, fun z hz => ?_⟩
  obtain ⟨q, hq, e⟩ := List.mem_map.mp (b z hz)
  rw [← e]
  exact hw.kok q hq
theorem brOf_self {rs : List Rw} (hd : (rs.map (·.nm)).Nodup) {r : Rw} (hr : r ∈ rs) : brOf rs r.nm = some r.br := brOf_row hd hr
theorem typed_fin {w : Wood} (hw : WoodOk w) {f13 f15 f17 : List D → R Ow} (h13 : ∀ (c : Int) (j : Nat), j ≤ 1000 → f13 [.int c, .int (j : Nat)] = .ok (.d (.int (mixI c (j : Nat))))) (h15 : ∀ z : Int, f15 [.int z] = .ok (.d (.int (greatI z)))) (c : Int) (k d : Nat) (hk : k ≤ 1000) {kd : Str} (hkd : kd ∈ w.map (·.1)) (cs : List Cl3) (hcs : cs.length ≤ 1000) (kp : Bool)
    (h17 : 0 < d → ∀ (j : Nat) (b : Str), j < 3 → b ∈ w.map (·.1) → ∃ T, typM w cs T b ∧ fewM 3 T ∧ levM T ≤ d ∧ f17 [.int c, .int ((3 * k + j + 1 : Nat) : Int), .int ((d - 1 : Nat) : Int), .str b, encWd w, cl3D cs, .bool kp] = .ok (.d (encM T))) :
    ∃ T, typM w cs T kd ∧ fewM 3 T ∧ levM T ≤ d + 1 ∧ finR (bTyped f13 f15 f17 (envOf 12 [.int c, .int (k : Nat), .int (d : Nat), .str kd, encWd w, cl3D cs, .bool kp])) = .ok (.d (encM T)) := by
  have he : envOf 12 [.int c, .int (k : Nat), .int (d : Nat), .str kd, encWd w, cl3D cs, .bool kp] = [some (.d (.int c)), some (.d (.int (k : Nat))), some (.d (.int (d : Nat))), some (.d (.str kd)), some (.d (encWd w)), some (.d (cl3D cs)), some (.d (.bool kp)), none, none, none, none, none, none, none, none, none, none, none, none] := rfl
  rw [he]
  have m := h13 c k hk
  have z0 := mixI_pos c (k : Nat)
  generalize mixI c (k : Nat) = z at m z0
  obtain ⟨p, hp, hpk⟩ := List.mem_map.mp hkd
  have rp : rowsOf w kd = p.2 := by rw [← hpk]; exact rowsOf_kind hw.kinds hp
  -- the calls that fit
  obtain ⟨fl, hfl⟩ : ∃ fl, fl = cs.filter fun x => x.kd == kd := ⟨_, rfl⟩
  have fll : fl.length ≤ 1000 := by rw [hfl]; exact Nat.le_trans (List.length_filter_le _ _) hcs
  have flm : ∀ x ∈ fl, x ∈ cs ∧ x.kd = kd := fun x hx => by
    rw [hfl, List.mem_filter] at hx
    exact ⟨hx.1, eq_of_beq hx.2⟩
  let e2 : Cl3 → D := fun x => .tuple [.int (x.m : Nat), .int (x.b : Nat)]
  obtain ⟨FD, hFD⟩ : ∃ FD : D, FD = .list (fl.map e2) := ⟨_, rfl⟩
  have lc1 : (eM (eM (eLc (eB (eVar 5) itD) (gtName 9) (eB (eBin gEq (eBin gIx (eVar 9) (eC (.int 2))) (eVar 3)) asB) (eSl (eVar 9) oNone (eB (eC (.int 2)) asI)) (List.map (·.2) ([("_law_call", 9)] : List (Str × Nat)))) viewD) Ow.d) [some (.d (.int c)), some (.d (.int (k : Nat))), some (.d (.int (d : Nat))), some (.d (.str kd)), some (.d (encWd w)), some (.d (cl3D cs)), some (.d (.bool kp)), some (.d (.int z)), none, none, none, none, none, none, none, none, none, none, none] = .ok (.d FD) := by
    have l : eLc (eB (eVar 5) itD) (gtName 9) (eB (eBin gEq (eBin gIx (eVar 9) (eC (.int 2))) (eVar 3)) asB) (eSl (eVar 9) oNone (eB (eC (.int 2)) asI)) (List.map (·.2) ([("_law_call", 9)] : List (Str × Nat))) [some (.d (.int c)), some (.d (.int (k : Nat))), some (.d (.int (d : Nat))), some (.d (.str kd)), some (.d (encWd w)), some (.d (cl3D cs)), some (.d (.bool kp)), some (.d (.int z)), none, none, none, none, none, none, none, none, none, none, none] = .ok (.l (fl.map fun x => .d (e2 x))) := by
      rw [hfl]
      refine eLc_of (ds := cs.map encCl3) rfl (by rw [List.length_map, sizeLine_eq]; omega) (lcR_filt encCl3 (fun x => x.kd == kd) (fun x => .d (e2 x)) cs fun x _ => ⟨[some (.d (.int c)), some (.d (.int (k : Nat))), some (.d (.int (d : Nat))), some (.d (.str kd)), some (.d (encWd w)), some (.d (cl3D cs)), some (.d (.bool kp)), some (.d (.int z)), none, some (.d (encCl3 x)), none, none, none, none, none, none, none, none, none], rfl, ?_, fun _ => ?_⟩)
      · have j2 : gIx (encCl3 x) (.int 2) = some (.str x.kd) := by simp [encCl3]
        generalize encCl3 x = X at j2
        generalize encWd w = W
        generalize cl3D cs = CS
        simp [j2, gEq_str]
      · have sl : gSl (encCl3 x) none (some 2) = some (.d (e2 x)) := by
          show gSl (.tuple _) none (some ((2 : Nat) : Int)) = _
          rw [gSl_tup, cutL_take]
          rfl
        generalize encCl3 x = X at sl
        generalize encWd w = W
        generalize cl3D cs = CS
        simp [sl]
    rw [eM_eq, eM_eq, l, R.map_ok, R.map_ok, hFD, viewD_of e2 fl]
  have nf : Nice FD := by
    rw [hFD]
    exact nice_list (n := 1) (fun d hd => by
      obtain ⟨x, _, rfl⟩ := List.mem_map.mp hd
      exact ⟨rfl, by simp [e2, PyData.depth, PyData.depthAll]⟩) (by omega)
  have nn : gNe FD (.list []) = some (.bool (!fl.isEmpty)) := by
    rw [hFD] at nf ⊢
    rw [ne_nil nf, List.isEmpty_map]
  have vn : viewD (.l []) = .list [] := by simp
  have g5 : gMod (.int z) (.int 5) = some (.int (z % 5)) := gMod_int (by decide)
  have d5 : gDiv (.int z) (.int 5) = some (.int (z / 5)) := gDiv_small (by decide) (by decide)
  have gl : ∀ a : Int, gLt (.int a) (.int 2) = some (.bool (decide (a < 2))) := fun a => rfl
  obtain ⟨W, hW⟩ : ∃ W, W = encWd w := ⟨_, rfl⟩
  obtain ⟨CS, hCS⟩ : ∃ CS, CS = cl3D cs := ⟨_, rfl⟩
  have s1 : sSet 7 (eM (eM (eB (aCons (eVar 0) (aCons (eVar 1) aNil)) f13) viewD) Ow.d) [some (.d (.int c)), some (.d (.int (k : Nat))), some (.d (.int (d : Nat))), some (.d (.str kd)), some (.d (encWd w)), some (.d (cl3D cs)), some (.d (.bool kp)), none, none, none, none, none, none, none, none, none, none, none, none] = .nx [some (.d (.int c)), some (.d (.int (k : Nat))), some (.d (.int (d : Nat))), some (.d (.str kd)), some (.d (encWd w)), some (.d (cl3D cs)), some (.d (.bool kp)), some (.d (.int z)), none, none, none, none, none, none, none, none, none, none, none] := by
    rw [← hW, ← hCS]
    simp [m]
  have s2 : sSet 8 (eM (eM (eLc (eB (eVar 5) itD) (gtName 9) (eB (eBin gEq (eBin gIx (eVar 9) (eC (.int 2))) (eVar 3)) asB) (eSl (eVar 9) oNone (eB (eC (.int 2)) asI)) (List.map (·.2) ([("_law_call", 9)] : List (Str × Nat)))) viewD) Ow.d) [some (.d (.int c)), some (.d (.int (k : Nat))), some (.d (.int (d : Nat))), some (.d (.str kd)), some (.d (encWd w)), some (.d (cl3D cs)), some (.d (.bool kp)), some (.d (.int z)), none, none, none, none, none, none, none, none, none, none, none] = .nx [some (.d (.int c)), some (.d (.int (k : Nat))), some (.d (.int (d : Nat))), some (.d (.str kd)), some (.d (encWd w)), some (.d (cl3D cs)), some (.d (.bool kp)), some (.d (.int z)), some (.d FD), none, none, none, none, none, none, none, none, none, none] := by
    rw [sSet_eq, lc1, R.st_ok]
    rfl
  have ct : (tAndE (eB (eBin gNe (eVar 8) (eM (eLst aNil) viewD)) asB) (eB (eBin gLt (eBin gMod (eVar 7) (eC (.int 5))) (eC (.int 2))) asB)) [some (.d (.int c)), some (.d (.int (k : Nat))), some (.d (.int (d : Nat))), some (.d (.str kd)), some (.d (encWd w)), some (.d (cl3D cs)), some (.d (.bool kp)), some (.d (.int z)), some (.d FD), none, none, none, none, none, none, none, none, none, none] = .ok (!fl.isEmpty && decide (z % 5 < 2)) := by
    rw [← hW, ← hCS]
    generalize fl.isEmpty = E at nn
    have gl5 := gl (z % 5)
    generalize decide (z % 5 < 2) = B at gl5
    generalize z % 5 = Z5 at g5 gl5
    cases E <;> simp [vn, nn, g5, gl5, sizeLine_eq]
  by_cases cc : (!fl.isEmpty && decide (z % 5 < 2)) = true
  · have ne : fl ≠ [] := fun e => by rw [e] at cc; simp at cc
    have l1 : 0 < fl.length := List.length_pos_iff.mpr ne
    obtain ⟨i, hi, il⟩ := emod_nat (c := z / 5) (n := fl.length) l1
    have e := List.getElem?_eq_getElem il
    obtain ⟨x, hx⟩ : ∃ x, fl[i] = x := ⟨_, rfl⟩
    rw [hx] at e
    obtain ⟨xm, xk⟩ := flm x (List.mem_of_getElem? e)
    refine ⟨.call x.m x.b, by rw [typM]; exact ⟨x, xm, rfl, rfl, xk⟩, by rw [fewM]; trivial, by rw [levM]; omega, ?_⟩
    refine fin_step s1 (fin_step s2 ?_)
    rw [sSeq_eq, sIf_eq, ct, cc, R.st_ok, if_pos rfl]
    have cl : gLen [FD] = some (.d (.int (fl.length : Nat))) := by rw [hFD, gLen_list, List.length_map]
    have gm : gMod (.int (z / 5)) (.int (fl.length : Nat)) = some (.int (i : Nat)) := by rw [gMod_int (by omega), hi]
    have ixx : gIx FD (.int (i : Nat)) = some (.tuple [.int (x.m : Nat), .int (x.b : Nat)]) := by
      rw [hFD]
      show atI (fl.map e2) _ = _
      exact atI_natD (by rw [List.getElem?_map, e]; rfl)
    have ga : gAdd (.tuple [.str "call"]) (.tuple [.int (x.m : Nat), .int (x.b : Nat)]) = some (.d (encM (.call x.m x.b))) := by rw [gAdd_tup (by rw [sizeLine_eq]; simp), encM_call]; rfl
    rw [← hW, ← hCS]
    generalize encM (.call x.m x.b) = EC at ga
    generalize z / 5 = Z5 at d5 gm
    generalize PyData.tuple [.int (x.m : Nat), .int (x.b : Nat)] = AB at ixx ga
    simp [d5, cl, gm, ixx, ga, sizeLine_eq]
  · -- a put
    obtain ⟨r1, hr1⟩ : ∃ r1, r1 = p.2.filter fun r => (r.br.isEmpty || decide (0 < d)) := ⟨_, rfl⟩
    obtain ⟨fu, hfu⟩ : ∃ fu, fu = r1.filter fun r => !r.br.isEmpty := ⟨_, rfl⟩
    have r1m : ∀ r ∈ r1, r ∈ p.2 ∧ (r.br = [] ∨ 0 < d) := fun r hr => by
      rw [hr1, List.mem_filter, Bool.or_eq_true, List.isEmpty_iff, decide_eq_true_iff] at hr
      exact hr
    have fum : ∀ r ∈ fu, r ∈ r1 := fun r hr => by
      rw [hfu] at hr
      exact (List.mem_filter.mp hr).1
    have r1n : r1 ≠ [] := by
      obtain ⟨r, hr, e⟩ := hw.leaf p hp
      have : r ∈ r1 := by rw [hr1, List.mem_filter]; exact ⟨hr, by rw [e]; rfl⟩
      exact List.ne_nil_of_mem this
    have few3 := hw.few p hp
    have r1l : r1.length ≤ 3 := by rw [hr1]; exact Nat.le_trans (List.length_filter_le _ _) few3
    have ro : ∀ r ∈ p.2, PyData.strOk r.nm = true ∧ ∀ z ∈ r.br, PyData.strOk z = true := fun r hr => nice_rw hw hp hr
    have nbr : ∀ r ∈ p.2, Nice (brD r.br) := fun r hr => nice_strs (ro r hr).2
    have n0 : Nice (.tuple []) := ⟨rfl, by simp [PyData.depth, PyData.depthAll]⟩
    have eqb : ∀ r ∈ p.2, gEq (brD r.br) (.tuple []) = some (.bool r.br.isEmpty) := fun r hr => by
      rw [gEq_nice (nbr r hr) n0]
      cases h : r.br with
      | nil => rw [brD, List.map_nil, eqv_self n0]; rfl
      | cons a b => rfl
    have neb : ∀ r ∈ p.2, gNe (brD r.br) (.tuple []) = some (.bool (!r.br.isEmpty)) := fun r hr => by
      rw [gNe_nice (nbr r hr) n0]
      cases h : r.br with
      | nil => rw [brD, List.map_nil, eqv_self n0]; rfl
      | cons a b => rfl
    have gt0 : gGt (.int (d : Nat)) (.int 0) = some (.bool (decide (0 < d))) := by
      show some (PyData.bool (decide ((0 : Int) < (d : Nat)))) = _
      congr 2
      rw [Bool.eq_iff_iff, decide_eq_true_iff, decide_eq_true_iff]
      omega
    -- the rows
    have lc3 : (eM (eM (eLc (eB (eDictIx (eVar 4) (eVar 3)) itD) (gtName 11) (tOrE (eB (eBin gEq (eBin gIx (eVar 11) (eC (.int 1))) (eTup aNil)) asB) (eB (eBin gGt (eVar 2) (eC (.int 0))) asB)) (eM (eVar 11) Ow.d) (List.map (·.2) ([("_law_row_here", 11)] : List (Str × Nat)))) viewD) Ow.d) [some (.d (.int c)), some (.d (.int (k : Nat))), some (.d (.int (d : Nat))), some (.d (.str kd)), some (.d (encWd w)), some (.d (cl3D cs)), some (.d (.bool kp)), some (.d (.int z)), some (.d FD), none, none, none, none, none, none, none, none, none, none] = .ok (.d (rwsD r1)) := by
      have l : eLc (eB (eDictIx (eVar 4) (eVar 3)) itD) (gtName 11) (tOrE (eB (eBin gEq (eBin gIx (eVar 11) (eC (.int 1))) (eTup aNil)) asB) (eB (eBin gGt (eVar 2) (eC (.int 0))) asB)) (eM (eVar 11) Ow.d) (List.map (·.2) ([("_law_row_here", 11)] : List (Str × Nat))) [some (.d (.int c)), some (.d (.int (k : Nat))), some (.d (.int (d : Nat))), some (.d (.str kd)), some (.d (encWd w)), some (.d (cl3D cs)), some (.d (.bool kp)), some (.d (.int z)), some (.d FD), none, none, none, none, none, none, none, none, none, none] = .ok (.l (r1.map fun r => .d (encRw r))) := by
        rw [hr1]
        refine eLc_of (ds := p.2.map encRw) ?_ (by rw [List.length_map, sizeLine_eq]; omega) (lcR_filt encRw (fun r => (r.br.isEmpty || decide (0 < d))) (fun r => .d (encRw r)) p.2 fun r hr => ⟨[some (.d (.int c)), some (.d (.int (k : Nat))), some (.d (.int (d : Nat))), some (.d (.str kd)), some (.d (encWd w)), some (.d (cl3D cs)), some (.d (.bool kp)), some (.d (.int z)), some (.d FD), none, none, some (.d (encRw r)), none, none, none, none, none, none, none], rfl, ?_, fun _ => rfl⟩)
        · have ap := asPairs_wd w
          have lpp := lastP_wd (k := kd) hw.kinds
          have an : (w.any fun q => q.1 == kd) = true := by
            rw [List.any_eq_true]
            exact ⟨p, hp, by rw [hpk]; exact beq_self_eq_true _⟩
          rw [an, if_pos rfl, rp] at lpp
          have i2 : itD (rwsD p.2) = .ok (p.2.map encRw) := rfl
          generalize rwsD p.2 = RW at lpp i2
          generalize cl3D cs = CS
          generalize encWd w = W at ap
          simp [ap, lpp, i2]
        · have j1 : gIx (encRw r) (.int 1) = some (brD r.br) := by simp [encRw, brD]
          have eb := eqb r hr
          generalize encRw r = X at j1
          generalize brD r.br = B at j1 eb
          generalize encWd w = W
          generalize cl3D cs = CS
          generalize r.br.isEmpty = b at eb
          generalize decide (0 < d) = b2 at gt0
          cases b <;> simp [j1, eb, gt0, sizeLine_eq]
      rw [eM_eq, eM_eq, l, R.map_ok, R.map_ok]
      have : viewD (.l (r1.map fun r => .d (encRw r))) = rwsD r1 := viewD_of encRw r1
      rw [this]
    have lc4 : (eM (eM (eLc (eB (eVar 10) itD) (gtName 11) (eB (eBin gNe (eBin gIx (eVar 11) (eC (.int 1))) (eTup aNil)) asB) (eM (eVar 11) Ow.d) (List.map (·.2) ([("_law_row_here", 11)] : List (Str × Nat)))) viewD) Ow.d) [some (.d (.int c)), some (.d (.int (k : Nat))), some (.d (.int (d : Nat))), some (.d (.str kd)), some (.d (encWd w)), some (.d (cl3D cs)), some (.d (.bool kp)), some (.d (.int z)), some (.d FD), none, some (.d (rwsD r1)), none, none, none, none, none, none, none, none] = .ok (.d (rwsD fu)) := by
      have l : eLc (eB (eVar 10) itD) (gtName 11) (eB (eBin gNe (eBin gIx (eVar 11) (eC (.int 1))) (eTup aNil)) asB) (eM (eVar 11) Ow.d) (List.map (·.2) ([("_law_row_here", 11)] : List (Str × Nat))) [some (.d (.int c)), some (.d (.int (k : Nat))), some (.d (.int (d : Nat))), some (.d (.str kd)), some (.d (encWd w)), some (.d (cl3D cs)), some (.d (.bool kp)), some (.d (.int z)), some (.d FD), none, some (.d (rwsD r1)), none, none, none, none, none, none, none, none] = .ok (.l (fu.map fun r => .d (encRw r))) := by
        rw [hfu]
        refine eLc_of (ds := r1.map encRw) rfl (by rw [List.length_map, sizeLine_eq]; omega) (lcR_filt encRw (fun r => !r.br.isEmpty) (fun r => .d (encRw r)) r1 fun r hr => ⟨[some (.d (.int c)), some (.d (.int (k : Nat))), some (.d (.int (d : Nat))), some (.d (.str kd)), some (.d (encWd w)), some (.d (cl3D cs)), some (.d (.bool kp)), some (.d (.int z)), some (.d FD), none, some (.d (rwsD r1)), some (.d (encRw r)), none, none, none, none, none, none, none], rfl, ?_, fun _ => rfl⟩)
        have j1 : gIx (encRw r) (.int 1) = some (brD r.br) := by simp [encRw, brD]
        have eb := neb r (r1m r hr).1
        generalize encRw r = X at j1
        generalize brD r.br = B at j1 eb
        generalize encWd w = W
        generalize cl3D cs = CS
        generalize rwsD r1 = R1
        simp [j1, eb, sizeLine_eq]
      rw [eM_eq, eM_eq, l, R.map_ok, R.map_ok]
      have : viewD (.l (fu.map fun r => .d (encRw r))) = rwsD fu := viewD_of encRw fu
      rw [this]
    have nfu : gNe (rwsD fu) (.list []) = some (.bool (!fu.isEmpty)) := by
      have h : Nice (.list (fu.map encRw)) := by
        obtain ⟨a, b⟩ := nice_rwsD (rs := fu) fun r hr => ro r (r1m r (fum r hr)).1
        exact ⟨a, by have : (PyData.list (fu.map encRw)).depth ≤ 3 := b; omega⟩
      have := ne_nil h
      rw [List.isEmpty_map] at this
      exact this
    have g4 : gMod (.int (z / 32)) (.int 4) = some (.int (z / 32 % 4)) := gMod_int (by decide)
    have d32 : gDiv (.int z) (.int 32) = some (.int (z / 32)) := gDiv_small (by decide) (by decide)
    have gg : gGt (.int (z / 32 % 4)) (.int 0) = some (.bool (decide (0 < z / 32 % 4))) := rfl
    obtain ⟨R, hR⟩ : ∃ R, R = if (!fu.isEmpty && decide (0 < z / 32 % 4)) = true then fu else r1 := ⟨_, rfl⟩
    have s6 : sIf (tAndE (eB (eBin gNe (eVar 12) (eM (eLst aNil) viewD)) asB) (eB (eBin gGt (eBin gMod (eBin gDiv (eVar 7) (eC (.int 32))) (eC (.int 4))) (eC (.int 0))) asB)) (sSet 10 (eM (eVar 12) Ow.d)) sSkip [some (.d (.int c)), some (.d (.int (k : Nat))), some (.d (.int (d : Nat))), some (.d (.str kd)), some (.d (encWd w)), some (.d (cl3D cs)), some (.d (.bool kp)), some (.d (.int z)), some (.d FD), none, some (.d (rwsD r1)), none, some (.d (rwsD fu)), none, none, none, none, none, none] = .nx [some (.d (.int c)), some (.d (.int (k : Nat))), some (.d (.int (d : Nat))), some (.d (.str kd)), some (.d (encWd w)), some (.d (cl3D cs)), some (.d (.bool kp)), some (.d (.int z)), some (.d FD), none, some (.d (rwsD R)), none, some (.d (rwsD fu)), none, none, none, none, none, none] := by
      have hRR : rwsD R = if (!fu.isEmpty && decide (0 < z / 32 % 4)) = true then rwsD fu else rwsD r1 := by rw [hR]; split <;> rfl
      rw [hRR]
      generalize encWd w = W
      generalize cl3D cs = CS
      generalize rwsD fu = FU at nfu ⊢
      generalize fu.isEmpty = b at nfu ⊢
      generalize decide (0 < z / 32 % 4) = b2 at gg ⊢
      generalize z / 32 % 4 = Z4 at g4 gg
      generalize z / 32 = Z3 at d32 g4
      cases b <;> cases b2 <;> simp [vn, nfu, d32, g4, gg, sizeLine_eq]
    have Rm : ∀ r ∈ R, r ∈ p.2 ∧ (r.br = [] ∨ 0 < d) := fun r hr => by
      rw [hR] at hr
      split at hr
      · exact r1m r (fum r hr)
      · exact r1m r hr
    have Rn : 0 < R.length := by
      rw [hR]
      split
      · rename_i h
        rw [Bool.and_eq_true] at h
        cases hf : fu with
        | nil => rw [hf] at h; simp at h
        | cons a b => simp
      · exact List.length_pos_iff.mpr r1n
    obtain ⟨i, hi, il⟩ := emod_nat (c := z / 8192) (n := R.length) Rn
    have eR := List.getElem?_eq_getElem il
    obtain ⟨r, hr⟩ : ∃ r, R[i] = r := ⟨_, rfl⟩
    rw [hr] at eR
    obtain ⟨rin, rd⟩ := Rm r (List.mem_of_getElem? eR)
    have rok := hw.rok p hp r rin
    have d81 : gDiv (.int z) (.int 8192) = some (.int (z / 8192)) := gDiv_small (by decide) (by decide)
    have gm : gMod (.int (z / 8192)) (.int (R.length : Nat)) = some (.int (i : Nat)) := by rw [gMod_int (by omega), hi]
    have Rl := rws_len R
    have Rx : gIx (rwsD R) (.int (i : Nat)) = some (.tuple [.str r.nm, brD r.br]) := by
      show atI (R.map encRw) _ = _
      exact atI_natD (by rw [List.getElem?_map, eR]; rfl)
    have s7 : sAsg (gtTup 2 (gtCons (gtName 13) (gtCons (gtName 14) gtNil))) (eBin gIx (eVar 10) (eBin gMod (eBin gDiv (eVar 7) (eC (.int 8192))) (eM (eCa gLen (aCons (eVar 10) aNil)) viewD))) [some (.d (.int c)), some (.d (.int (k : Nat))), some (.d (.int (d : Nat))), some (.d (.str kd)), some (.d (encWd w)), some (.d (cl3D cs)), some (.d (.bool kp)), some (.d (.int z)), some (.d FD), none, some (.d (rwsD R)), none, some (.d (rwsD fu)), none, none, none, none, none, none] = .nx [some (.d (.int c)), some (.d (.int (k : Nat))), some (.d (.int (d : Nat))), some (.d (.str kd)), some (.d (encWd w)), some (.d (cl3D cs)), some (.d (.bool kp)), some (.d (.int z)), some (.d FD), none, some (.d (rwsD R)), none, some (.d (rwsD fu)), some (.d (.str r.nm)), some (.d (brD r.br)), none, none, none, none] := by
      generalize brD r.br = B at Rx ⊢
      generalize encWd w = W
      generalize cl3D cs = CS
      generalize rwsD fu = FU
      generalize rwsD R = RR at Rl Rx
      generalize ((R.length : Nat) : Int) = RL at Rl gm
      generalize z / 8192 = Z8 at d81 gm
      simp [d81, Rl, gm, Rx]
    -- the parts
    obtain ⟨g, hg⟩ := choose_below (α := Trm) (n := r.br.length) (P := fun j T => typM w cs T (r.br.getD j "") ∧ fewM 3 T ∧ levM T ≤ d ∧ f17 [.int c, .int ((3 * k + j + 1 : Nat) : Int), .int ((d - 1 : Nat) : Int), .str (r.br.getD j ""), encWd w, cl3D cs, .bool kp] = .ok (.d (encM T))) fun j hj => by
      refine h17 ?_ j (r.br.getD j "") (by omega) ?_
      · rcases rd with e | e
        · rw [e] at hj; simp at hj
        · exact e
      · rw [List.getD_eq_getElem?_getD, List.getElem?_eq_getElem hj]
        exact rok.2.2 _ (List.getElem_mem hj)
    have d1 : 0 < r.br.length → 0 < d := fun h => by
      rcases rd with e | e
      · rw [e] at h; simp at h
      · exact e
    obtain ⟨ps, hps⟩ : ∃ ps, ps = (List.range r.br.length).map g := ⟨_, rfl⟩
    have psl : ps.length = r.br.length := by rw [hps, List.length_map, List.length_range]
    have psg : ∀ j T, ps[j]? = some T → j < r.br.length ∧ T = g j := fun j T h => by
      have jl : j < r.br.length := by have := (List.getElem?_eq_some_iff.mp h).1; omega
      rw [hps, List.getElem?_map, List.getElem?_range jl] at h
      exact ⟨jl, (Option.some.inj h).symm⟩
    obtain ⟨env', e1, y16, e2⟩ := forL_map (g := gtName 16) (f := tyPart f17) (fun j : Nat => PyData.int (j : Nat)) (List.range r.br.length) (fun j env => ∃ x16, env = [some (.d (.int c)), some (.d (.int (k : Nat))), some (.d (.int (d : Nat))), some (.d (.str kd)), some (.d (encWd w)), some (.d (cl3D cs)), some (.d (.bool kp)), some (.d (.int z)), some (.d FD), none, some (.d (rwsD R)), none, some (.d (rwsD fu)), some (.d (.str r.nm)), some (.d (brD r.br)), some (.l ((ps.take j).map fun T => .d (encM T))), x16, none, none]) (fun j a env ha ⟨x16, e⟩ => by
      subst e
      have al : a < r.br.length := List.mem_range.mp (List.mem_of_getElem? ha)
      have ja : j = a := by
        have := (List.getElem?_eq_some_iff.mp ha).1
        rw [List.length_range] at this
        rw [List.getElem?_range this] at ha
        exact Option.some.inj ha
      subst ja
      obtain ⟨_, _, _, hT⟩ := hg j al
      refine ⟨[some (.d (.int c)), some (.d (.int (k : Nat))), some (.d (.int (d : Nat))), some (.d (.str kd)), some (.d (encWd w)), some (.d (cl3D cs)), some (.d (.bool kp)), some (.d (.int z)), some (.d FD), none, some (.d (rwsD R)), none, some (.d (rwsD fu)), some (.d (.str r.nm)), some (.d (brD r.br)), some (.l ((ps.take j).map fun T => .d (encM T))), some (.d (.int (j : Nat))), none, none], rfl, [some (.d (.int c)), some (.d (.int (k : Nat))), some (.d (.int (d : Nat))), some (.d (.str kd)), some (.d (encWd w)), some (.d (cl3D cs)), some (.d (.bool kp)), some (.d (.int z)), some (.d FD), none, some (.d (rwsD R)), none, some (.d (rwsD fu)), some (.d (.str r.nm)), some (.d (brD r.br)), some (.l ((ps.take (j + 1)).map fun T => .d (encM T))), some (.d (.int (j : Nat))), none, none], .inl ?_, _, rfl⟩
      have bj := br_ix (bs := r.br) (k := j) (z := r.br.getD j "") (by rw [List.getD_eq_getElem?_getD, List.getElem?_eq_getElem al]; rfl)
      have tk : (ps.take (j + 1)).map (fun T => Ow.d (encM T)) = (ps.take j).map (fun T => Ow.d (encM T)) ++ [.d (encM (g j))] := by
        rw [List.take_add_one]
        have : ps[j]? = some (g j) := by rw [hps, List.getElem?_map, List.getElem?_range al]; rfl
        rw [this, List.map_append]
        rfl
      rw [tk]
      have e3 : gMul (.int 3) (.int (k : Nat)) = some (.int (3 * (k : Nat))) := gMul_small (by decide) (Nat.lt_trans (show ((k : Nat) : Int).natAbs < 100000 by omega) (by decide))
      have e4 : gSub (.int (d : Nat)) (.int 1) = some (.int ((d - 1 : Nat) : Int)) := by
        show some (PyData.int ((d : Int) - 1)) = _
        rw [show ((d - 1 : Nat) : Int) = (d : Int) - 1 from by have := d1 (by omega); omega]
      have e5 : ((3 * k + j + 1 : Nat) : Int) = 3 * (k : Int) + (j : Int) + 1 := by omega
      rw [e5] at hT
      have al2 : ((ps.take j).map fun T => Ow.d (encM T)).length < 16777216 := by rw [List.length_map, List.length_take]; omega
      generalize ((ps.take j).map fun T => Ow.d (encM T)) = OS at al2 ⊢
      generalize encM (g j) = G at hT ⊢
      generalize r.br.getD j "" = bn at bj hT
      generalize brD r.br = B at bj ⊢
      generalize encWd w = W at hT ⊢
      generalize cl3D cs = CS at hT ⊢
      generalize rwsD fu = FU
      generalize rwsD R = RR
      generalize ((d - 1 : Nat) : Int) = D1 at e4 hT
      simp [e3, e4, bj, hT, sizeLine_eq, al2]) [some (.d (.int c)), some (.d (.int (k : Nat))), some (.d (.int (d : Nat))), some (.d (.str kd)), some (.d (encWd w)), some (.d (cl3D cs)), some (.d (.bool kp)), some (.d (.int z)), some (.d FD), none, some (.d (rwsD R)), none, some (.d (rwsD fu)), some (.d (.str r.nm)), some (.d (brD r.br)), some (.l []), none, none, none] ⟨_, by rw [List.take_zero]; rfl⟩
    subst e2
    rw [List.length_range] at e1
    have pst : ps.take r.br.length = ps := by rw [← psl, List.take_length]
    rw [pst] at e1
    obtain ⟨ad, had⟩ := pick3 0 (z / 2048 % 19 - 9) (greatI c) (z / 64)
    refine ⟨.put r.nm (kp && (z / 1024 % 2 == 1)) ad ps, ?_, ?_, ?_, ?_⟩
    · rw [typM]
      refine ⟨r.br, by rw [rp]; exact brOf_self (hw.dist p hp) rin, psl.symm, typMs_iff fun j T b h1 h2 => ?_⟩
      obtain ⟨jl, rfl⟩ := psg j T h1
      have := (hg j jl).1
      rw [List.getD_eq_getElem?_getD, h2] at this
      exact this
    · rw [fewM, fewMs_iff]
      refine ⟨rok.1, by omega, fun T hT => ?_⟩
      obtain ⟨j, hj⟩ := List.getElem?_of_mem hT
      obtain ⟨jl, rfl⟩ := psg j T hj
      exact (hg j jl).2.1
    · rw [levM]
      have := levMs_of (n := d) (bs := ps) fun T hT => by
        obtain ⟨j, hj⟩ := List.getElem?_of_mem hT
        obtain ⟨jl, rfl⟩ := psg j T hj
        exact (hg j jl).2.2.1
      omega
    refine fin_step s1 (fin_step s2 ?_)
    refine fin_step (env1 := [some (.d (.int c)), some (.d (.int (k : Nat))), some (.d (.int (d : Nat))), some (.d (.str kd)), some (.d (encWd w)), some (.d (cl3D cs)), some (.d (.bool kp)), some (.d (.int z)), some (.d FD), none, none, none, none, none, none, none, none, none, none]) (by rw [sIf_eq, ct, Mir.R.st_ok, if_neg cc]; rfl) ?_
    refine fin_step (env1 := [some (.d (.int c)), some (.d (.int (k : Nat))), some (.d (.int (d : Nat))), some (.d (.str kd)), some (.d (encWd w)), some (.d (cl3D cs)), some (.d (.bool kp)), some (.d (.int z)), some (.d FD), none, some (.d (rwsD r1)), none, none, none, none, none, none, none, none]) (by rw [sSet_eq, lc3, Mir.R.st_ok]; rfl) ?_
    refine fin_step (env1 := [some (.d (.int c)), some (.d (.int (k : Nat))), some (.d (.int (d : Nat))), some (.d (.str kd)), some (.d (encWd w)), some (.d (cl3D cs)), some (.d (.bool kp)), some (.d (.int z)), some (.d FD), none, some (.d (rwsD r1)), none, some (.d (rwsD fu)), none, none, none, none, none, none]) (by rw [sSet_eq, lc4, Mir.R.st_ok]; rfl) ?_
    refine fin_step s6 (fin_step s7 ?_)
    refine fin_step (env1 := [some (.d (.int c)), some (.d (.int (k : Nat))), some (.d (.int (d : Nat))), some (.d (.str kd)), some (.d (encWd w)), some (.d (cl3D cs)), some (.d (.bool kp)), some (.d (.int z)), some (.d FD), none, some (.d (rwsD R)), none, some (.d (rwsD fu)), some (.d (.str r.nm)), some (.d (brD r.br)), some (.l []), none, none, none]) (by
      generalize encWd w = W
      generalize cl3D cs = CS
      generalize rwsD fu = FU
      generalize rwsD R = RR
      generalize brD r.br = B
      simp [sizeLine_eq]) ?_
    refine fin_step (env1 := [some (.d (.int c)), some (.d (.int (k : Nat))), some (.d (.int (d : Nat))), some (.d (.str kd)), some (.d (encWd w)), some (.d (cl3D cs)), some (.d (.bool kp)), some (.d (.int z)), some (.d FD), none, some (.d (rwsD R)), none, some (.d (rwsD fu)), some (.d (.str r.nm)), some (.d (brD r.br)), some (.l (ps.map fun T => .d (encM T))), y16, none, none]) (by
      have it : (eB (aCons (eM (eCa gLen (aCons (eVar 14) aNil)) viewD) aNil) rg1) [some (.d (.int c)), some (.d (.int (k : Nat))), some (.d (.int (d : Nat))), some (.d (.str kd)), some (.d (encWd w)), some (.d (cl3D cs)), some (.d (.bool kp)), some (.d (.int z)), some (.d FD), none, some (.d (rwsD R)), none, some (.d (rwsD fu)), some (.d (.str r.nm)), some (.d (brD r.br)), some (.l []), none, none, none] = .ok ((List.range r.br.length).map fun j : Nat => PyData.int (j : Nat)) := by
        have lb := br_len r.br
        have rg := rg1_nat r.br.length (by omega)
        rw [rangeD_map] at rg
        generalize encWd w = W
        generalize cl3D cs = CS
        generalize rwsD fu = FU
        generalize rwsD R = RR
        generalize brD r.br = B at lb
        simp [lb, rg]
      rw [sFor_eq, it, Mir.R.st_ok, e1]) ?_
    have gr := h15 c
    have d10 : gDiv (.int z) (.int 1024) = some (.int (z / 1024)) := gDiv_small (by decide) (by decide)
    have m2 : gMod (.int (z / 1024)) (.int 2) = some (.int (z / 1024 % 2)) := gMod_int (by decide)
    have d20 : gDiv (.int z) (.int 2048) = some (.int (z / 2048)) := gDiv_small (by decide) (by decide)
    have m19 : gMod (.int (z / 2048)) (.int 19) = some (.int (z / 2048 % 19)) := gMod_int (by decide)
    have s9 : gSub (.int (z / 2048 % 19)) (.int 9) = some (.int (z / 2048 % 19 - 9)) := rfl
    have d64 : gDiv (.int z) (.int 64) = some (.int (z / 64)) := gDiv_small (by decide) (by decide)
    have m3 : gMod (.int (z / 64)) (.int 3) = some (.int (z / 64 % 3)) := gMod_int (by decide)
    have s3 := shl3 (.int 0) (.int (z / 2048 % 19 - 9)) (.int (greatI c))
    have shp : shD (.l (ps.map fun T => .d (encM T))) = .ok (.list (ps.map encM)) := unDs_of encM ps
    have gtp : gTuple [.list (ps.map encM)] = some (.d (.tuple (ps.map encM))) := rfl
    rw [encM_put]
    generalize encWd w = W
    generalize cl3D cs = CS
    generalize rwsD fu = FU
    generalize rwsD R = RR
    generalize brD r.br = B
    generalize PyData.tuple (ps.map encM) = TP at gtp ⊢
    generalize PyData.list (ps.map encM) = LP at shp gtp
    generalize Ow.l (ps.map fun T => .d (encM T)) = OP at shp ⊢
    refine fin_step (env1 := [some (.d (.int c)), some (.d (.int (k : Nat))), some (.d (.int (d : Nat))), some (.d (.str kd)), some (.d W), some (.d CS), some (.d (.bool kp)), some (.d (.int z)), some (.d FD), none, some (.d RR), none, some (.d FU), some (.d (.str r.nm)), some (.d B), some OP, y16, some (.d (.bool (kp && (z / 1024 % 2 == 1)))), none]) (by
      generalize z / 1024 % 2 = q at m2
      generalize z / 1024 = q2 at d10 m2
      cases kp <;> simp [d10, m2]) ?_
    refine fin_step (env1 := [some (.d (.int c)), some (.d (.int (k : Nat))), some (.d (.int (d : Nat))), some (.d (.str kd)), some (.d W), some (.d CS), some (.d (.bool kp)), some (.d (.int z)), some (.d FD), none, some (.d RR), none, some (.d FU), some (.d (.str r.nm)), some (.d B), some OP, y16, some (.d (.bool (kp && (z / 1024 % 2 == 1)))), some (.d (.int ad))]) (by
      generalize z / 64 % 3 = q3 at m3 had
      generalize z / 64 = q64 at d64 m3
      generalize greatI c = G at gr had s3
      generalize z / 2048 % 19 - 9 = q9 at s9 had s3
      generalize z / 2048 % 19 = q19 at m19 s9
      generalize z / 2048 = q20 at d20 m19
      simp [d20, m19, s9, gr, s3, d64, m3, had, sizeLine_eq]) ?_
    simp [shp, gtp, sizeLine_eq]
end
end Mir
set_option Elab.async false
set_option linter.all false
set_option maxRecDepth 100000
set_option maxHeartbeats 4000000
namespace Mir
open PySem PySem.Spec L2
noncomputable section
abbrev bSpoilM (f22 : List D → R Ow) : Ev → SR := (sSeq (sSet 3 (eM (eBin gIx (eVar 1) (eC (.int 4))) Ow.d))
    (sSeq (sIf (tAndE (eB (eBin gNe (eVar 3) (eTup aNil)) asB) (eB (eBin gGt (eBin gMod (eVar 2) (eC (.int 3))) (eC (.int 0))) asB))
    (sSeq (sSet 4 (eM (eBin gMod (eBin gDiv (eVar 2) (eC (.int 3))) (eM (eCa gLen (aCons (eVar 3) aNil)) viewD)) Ow.d))
    (sSeq (sSet 5 (eM (eM (eB (aCons (eVar 0) (aCons (eBin gIx (eVar 3) (eVar 4)) (aCons (eBin gDiv (eVar 2) (eC (.int 7))) aNil))) f22) viewD) Ow.d))
    (sRet (eBinO gAdd (eB (eSl (eVar 1) oNone (eB (eC (.int 4)) asI)) shD) (eTup (aCons (eM (eBinO gAdd (eB (eBinO gAdd (eB (eSl (eVar 3) oNone (eB (eVar 4) asI)) shD) (eTup (aCons (eVar 5) aNil))) shD) (eB (eSl (eVar 3) (eB (eM (eBinO gAdd (eVar 4) (eC (.int 1))) viewD) asI) oNone) shD)) viewD) aNil))))))
    sSkip)
    (sSeq (sSet 6 (eM (eBin gIx (eVar 0) (eBin gMod (eBin gDiv (eVar 2) (eC (.int 64))) (eC (.int 8)))) Ow.d))
    (sSeq (sIf (eB (eBin gEq (eBin gMod (eBin gDiv (eVar 2) (eC (.int 16))) (eC (.int 4))) (eC (.int 0))) asB)
    (sRet (eM (eTup (aCons (eC (.str "put")) (aCons (eVar 6) (aCons (eC (.bool false)) (aCons (eC (.int 0)) (aCons (eVar 3) aNil)))))) Ow.d))
    sSkip)
    (sSeq (sIf (eB (eBin gEq (eBin gMod (eBin gDiv (eVar 2) (eC (.int 16))) (eC (.int 4))) (eC (.int 1))) asB)
    (sRet (eBinO gAdd (eB (eSl (eVar 1) oNone (eB (eC (.int 4)) asI)) shD) (eTup (aCons (eM (eBinO gAdd (eVar 3) (eTup (aCons (eTup (aCons (eC (.str "put")) (aCons (eVar 6) (aCons (eC (.bool false)) (aCons (eC (.int 0)) (aCons (eTup aNil) aNil)))))) aNil))) viewD) aNil))))
    sSkip)
    (sSeq (sIf (eB (eBin gEq (eBin gMod (eBin gDiv (eVar 2) (eC (.int 16))) (eC (.int 4))) (eC (.int 2))) asB)
    (sRet (eBinO gAdd (eB (eSl (eVar 1) oNone (eB (eC (.int 4)) asI)) shD) (eTup (aCons (eM (eSl (eVar 3) (eB (eC (.int 1)) asI) oNone) viewD) aNil))))
    sSkip)
    (sRet (eBinO gAdd (eB (eSl (eVar 1) oNone (eB (eC (.int 4)) asI)) shD) (eTup (aCons (eM (eRevA (eVar 3)) viewD) aNil))))))))))
theorem nice_tms {ps : List Trm} (h : ∀ p ∈ ps, okM p ∧ levM p ≤ 30) : Nice (.tuple (ps.map encM)) := nice_tuple (n := 60) (fun d hd => by
    obtain ⟨p, hp, rfl⟩ := List.mem_map.mp hd
    obtain ⟨a, b⟩ := h p hp
    exact ⟨can_encM p a, by have := depth_encM p; omega⟩) (by omega)
theorem spoilM_fin {ls : List (List Nat)} (h8 : Names8 ls) {f22 : List D → R Ow} (nm : Str) (kp : Bool) (ad : Int) (ps : List Trm) (z : Int) (hpl : plM 3 (.put nm kp ad ps)) (hlv : levM (.put nm kp ad ps) ≤ 20)
    (h22 : ∀ p ∈ ps, ∀ z : Int, ∃ p', plM 4 p' ∧ levM p' ≤ levM p + 1 ∧ f22 [nsD ls, encM p, .int z] = .ok (.d (encM p'))) : ∃ T', plM 4 T' ∧ levM T' ≤ levM (.put nm kp ad ps) + 1 ∧ finR (bSpoilM f22 (envOf 4 [nsD ls, encM (.put nm kp ad ps), .int z])) = .ok (.d (encM T')) := by
  have he : envOf 4 [nsD ls, encM (.put nm kp ad ps), .int z] = [some (.d (nsD ls)), some (.d (encM (.put nm kp ad ps))), some (.d (.int z)), none, none, none, none] := rfl
  rw [he]
  rw [plM, plMs_iff] at hpl
  obtain ⟨sn, hl3, hps⟩ := hpl
  rw [levM] at hlv ⊢
  have m4 := m_ix4 nm kp ad ps
  have cut : gSl (encM (.put nm kp ad ps)) none (some 4) = some (.d (.tuple [.str "put", .str nm, .bool kp, .int ad])) := by
    rw [encM_put]
    show gSl (.tuple _) none (some ((4 : Nat) : Int)) = _
    rw [gSl_tup, cutL_take]
    rfl
  have put : ∀ qs : List Trm, gAdd (.tuple [.str "put", .str nm, .bool kp, .int ad]) (.tuple [.tuple (qs.map encM)]) = some (.d (encM (.put nm kp ad qs))) := fun qs => by
    rw [gAdd_tup (by rw [sizeLine_eq]; simp), encM_put]
    rfl
  have sq : shD (.d (.tuple [.str "put", .str nm, .bool kp, .int ad])) = .ok (.tuple [.str "put", .str nm, .bool kp, .int ad]) := rfl
  obtain ⟨E, hE⟩ : ∃ E, E = encM (.put nm kp ad ps) := ⟨_, rfl⟩
  rw [← hE] at m4 cut ⊢
  obtain ⟨HD, hHD⟩ : ∃ HD, HD = PyData.tuple [.str "put", .str nm, .bool kp, .int ad] := ⟨_, rfl⟩
  rw [← hHD] at cut put sq
  obtain ⟨PS, hPS⟩ : ∃ PS, PS = PyData.tuple (ps.map encM) := ⟨_, rfl⟩
  rw [← hPS] at m4
  have nx : ∀ y : Int, ∃ n, PyData.strOk n = true ∧ gIx (nsD ls) (.int (y % 8)) = some (.str n) := fun y => by
    obtain ⟨k, hk, k8⟩ := emod_nat (c := y) (n := 8) (by decide)
    have hk' : y % 8 = (k : Nat) := hk
    rw [hk']
    exact ⟨_, (names_at h8).ok k k8, (names_at h8).ix k k8⟩
  obtain ⟨NS, hNS⟩ : ∃ NS, NS = nsD ls := ⟨_, rfl⟩
  rw [← hNS] at nx h22 ⊢
  have st : sSet 3 (eM (eBin gIx (eVar 1) (eC (.int 4))) Ow.d) [some (.d NS), some (.d E), some (.d (.int z)), none, none, none, none] = .nx [some (.d NS), some (.d E), some (.d (.int z)), some (.d PS), none, none, none] := by simp [m4]
  have n0 : Nice (.tuple []) := ⟨rfl, by simp [PyData.depth, PyData.depthAll]⟩
  have nps : Nice (.tuple (ps.map encM)) := nice_tms fun p hp => ⟨plM_ok (by decide) p (hps p hp), by have := levMs_le (n := 20) (by omega) p hp; omega⟩
  have nn : gNe PS (.tuple []) = some (.bool (!ps.isEmpty)) := by
    rw [hPS, gNe_nice nps n0]
    cases ps with
    | nil => rw [List.map_nil, eqv_self n0]; rfl
    | cons a b => rfl
  have m3 : gMod (.int z) (.int 3) = some (.int (z % 3)) := gMod_int (by decide)
  have g0 : gGt (.int (z % 3)) (.int 0) = some (.bool (decide (0 < z % 3))) := rfl
  have ct : (tAndE (eB (eBin gNe (eVar 3) (eTup aNil)) asB) (eB (eBin gGt (eBin gMod (eVar 2) (eC (.int 3))) (eC (.int 0))) asB)) [some (.d NS), some (.d E), some (.d (.int z)), some (.d PS), none, none, none] = .ok (!ps.isEmpty && decide (0 < z % 3)) := by
    generalize ps.isEmpty = b at nn
    generalize decide (0 < z % 3) = b2 at g0
    generalize z % 3 = Z3 at m3 g0
    cases b <;> simp [nn, m3, g0, sizeLine_eq]
  by_cases cc : (!ps.isEmpty && decide (0 < z % 3)) = true
  · have ne : 0 < ps.length := by
      cases ps with
      | nil => simp at cc
      | cons a b => simp
    obtain ⟨i, hi, il⟩ := emod_nat (c := z / 3) (n := ps.length) ne
    have ei := List.getElem?_eq_getElem il
    obtain ⟨p, hp⟩ : ∃ p, ps[i] = p := ⟨_, rfl⟩
    rw [hp] at ei
    have pm := List.mem_of_getElem? ei
    obtain ⟨p', a1, a2, a3⟩ := h22 p pm (z / 7)
    have lp := levMs_le (Nat.le_refl _) p pm
    refine ⟨.put nm kp ad (ps.set i p'), ?_, ?_, ?_⟩
    · rw [plM, plMs_iff]
      refine ⟨sn, by rw [List.length_set]; omega, fun x hx => ?_⟩
      rcases List.mem_or_eq_of_mem_set hx with h | h
      · exact plM_mono (by decide) x (hps x h)
      · rw [h]; exact a1
    · rw [levM]
      have := levMs_of (n := levMs ps + 1) (bs := ps.set i p') fun x hx => by
        rcases List.mem_or_eq_of_mem_set hx with h | h
        · have := levMs_le (Nat.le_refl _) x h; omega
        · rw [h]; omega
      omega
    refine fin_step st ?_
    rw [sSeq_eq, sIf_eq, ct, cc, R.st_ok, if_pos rfl]
    have d3 : gDiv (.int z) (.int 3) = some (.int (z / 3)) := gDiv_small (by decide) (by decide)
    have d7 : gDiv (.int z) (.int 7) = some (.int (z / 7)) := gDiv_small (by decide) (by decide)
    have lp2 : gLen [PS] = some (.d (.int (ps.length : Nat))) := by rw [hPS]; exact (tup_len _).trans (by rw [List.length_map])
    have gm : gMod (.int (z / 3)) (.int (ps.length : Nat)) = some (.int (i : Nat)) := by rw [gMod_int (by omega), hi]
    have ix : gIx PS (.int (i : Nat)) = some (encM p) := by
      rw [hPS]
      show atI (ps.map encM) _ = _
      exact atI_natD (by rw [List.getElem?_map, ei]; rfl)
    have c1 : gSl PS none (some (i : Nat)) = some (.d (.tuple ((ps.take i).map encM))) := by rw [hPS, gSl_tup, cutL_take, List.map_take]
    have c2 : gSl PS (some (((i : Nat) : Int) + 1)) none = some (.d (.tuple ((ps.drop (i + 1)).map encM))) := by
      rw [show ((i : Nat) : Int) + 1 = ((i + 1 : Nat) : Int) from by omega, hPS, gSl_tup, cutL_drop, List.map_drop]
    have s1 : shD (.d (.tuple ((ps.take i).map encM))) = .ok (.tuple ((ps.take i).map encM)) := rfl
    have s2 : shD (.d (.tuple ((ps.drop (i + 1)).map encM))) = .ok (.tuple ((ps.drop (i + 1)).map encM)) := rfl
    have ad1 : gAdd (.tuple ((ps.take i).map encM)) (.tuple [encM p']) = some (.d (.tuple ((ps.take i ++ [p']).map encM))) := by
      rw [gAdd_tup (by rw [List.length_map, List.length_take, sizeLine_eq]; simp; omega), List.map_append]
      rfl
    have s3 : shD (.d (.tuple ((ps.take i ++ [p']).map encM))) = .ok (.tuple ((ps.take i ++ [p']).map encM)) := rfl
    have ad2 : gAdd (.tuple ((ps.take i ++ [p']).map encM)) (.tuple ((ps.drop (i + 1)).map encM)) = some (.d (.tuple ((ps.set i p').map encM))) := by
      rw [gAdd_tup (by rw [List.length_map, List.length_map, List.length_append, List.length_take, List.length_drop, sizeLine_eq]; simp; omega), ← List.map_append, List.set_eq_take_append_cons_drop, if_pos il, List.append_assoc]
      rfl
    have pt := put (ps.set i p')
    generalize encM (.put nm kp ad (ps.set i p')) = ET at pt ⊢
    generalize PyData.tuple ((ps.set i p').map encM) = P6 at ad2 pt
    generalize PyData.tuple ((ps.take i ++ [p']).map encM) = P5 at ad1 s3 ad2
    generalize PyData.tuple ((ps.drop (i + 1)).map encM) = P4 at c2 s2 ad2
    generalize PyData.tuple ((ps.take i).map encM) = P3 at c1 s1 ad1
    generalize encM p' = EP' at a3 ad1
    generalize encM p = EP at ix a3
    generalize ((ps.length : Nat) : Int) = PL at lp2 gm
    generalize ((i : Nat) : Int) = I at gm ix c1 c2
    generalize z / 3 = Z3 at d3 gm
    generalize z / 7 = Z7 at d7 a3
    simp [d3, lp2, gm, ix, d7, a3, cut, sq, c1, s1, ad1, s3, c2, s2, ad2, pt, sizeLine_eq]
  · obtain ⟨n2, on2, nx2⟩ := nx (z / 64)
    have d16 : gDiv (.int z) (.int 16) = some (.int (z / 16)) := gDiv_small (by decide) (by decide)
    have m16 : gMod (.int (z / 16)) (.int 4) = some (.int (z / 16 % 4)) := gMod_int (by decide)
    have d64 : gDiv (.int z) (.int 64) = some (.int (z / 64)) := gDiv_small (by decide) (by decide)
    have m64 : gMod (.int (z / 64)) (.int 8) = some (.int (z / 64 % 8)) := gMod_int (by decide)
    have s0 : sIf (tAndE (eB (eBin gNe (eVar 3) (eTup aNil)) asB) (eB (eBin gGt (eBin gMod (eVar 2) (eC (.int 3))) (eC (.int 0))) asB)) (sSeq (sSet 4 (eM (eBin gMod (eBin gDiv (eVar 2) (eC (.int 3))) (eM (eCa gLen (aCons (eVar 3) aNil)) viewD)) Ow.d)) (sSeq (sSet 5 (eM (eM (eB (aCons (eVar 0) (aCons (eBin gIx (eVar 3) (eVar 4)) (aCons (eBin gDiv (eVar 2) (eC (.int 7))) aNil))) f22) viewD) Ow.d)) (sRet (eBinO gAdd (eB (eSl (eVar 1) oNone (eB (eC (.int 4)) asI)) shD) (eTup (aCons (eM (eBinO gAdd (eB (eBinO gAdd (eB (eSl (eVar 3) oNone (eB (eVar 4) asI)) shD) (eTup (aCons (eVar 5) aNil))) shD) (eB (eSl (eVar 3) (eB (eM (eBinO gAdd (eVar 4) (eC (.int 1))) viewD) asI) oNone) shD)) viewD) aNil)))))) sSkip [some (.d NS), some (.d E), some (.d (.int z)), some (.d PS), none, none, none] = .nx [some (.d NS), some (.d E), some (.d (.int z)), some (.d PS), none, none, none] := by
      rw [sIf_eq, ct, R.st_ok, if_neg cc]
      rfl
    have s6 : sSet 6 (eM (eBin gIx (eVar 0) (eBin gMod (eBin gDiv (eVar 2) (eC (.int 64))) (eC (.int 8)))) Ow.d) [some (.d NS), some (.d E), some (.d (.int z)), some (.d PS), none, none, none] = .nx [some (.d NS), some (.d E), some (.d (.int z)), some (.d PS), none, none, some (.d (.str n2))] := by
      generalize z / 64 % 8 = q at m64 nx2
      generalize z / 64 = q2 at d64 m64
      simp [d64, m64, nx2]
    have zn : 0 ≤ z / 16 % 4 ∧ z / 16 % 4 < 4 := ⟨Int.emod_nonneg _ (by decide), Int.emod_lt_of_pos _ (by decide)⟩
    have lfM : encM (.put n2 false 0 []) = .tuple [.str "put", .str n2, .bool false, .int 0, .tuple []] := by rw [encM_put]; rfl
    have plL : plM 4 (.put n2 false 0 []) := by rw [plM, plMs]; exact ⟨on2, by simp, trivial⟩
    have up : ∀ qs : List Trm, (∀ q ∈ qs, q ∈ ps ∨ q = .put n2 false 0 []) → qs.length ≤ 4 → ∀ (nm' : Str) (kp' : Bool) (ad' : Int), PyData.strOk nm' = true → plM 4 (.put nm' kp' ad' qs) ∧ levM (.put nm' kp' ad' qs) ≤ levMs ps + 1 + 1 := fun qs hq hl nm' kp' ad' sn' => by
      refine ⟨?_, ?_⟩
      · rw [plM, plMs_iff]
        refine ⟨sn', hl, fun q h => ?_⟩
        rcases hq q h with h | h
        · exact plM_mono (by decide) q (hps q h)
        · rw [h]; exact plL
      · rw [levM]
        have := levMs_of (n := levMs ps + 1) (bs := qs) fun q h => by
          rcases hq q h with h | h
          · have := levMs_le (Nat.le_refl _) q h; omega
          · rw [h, levM, levMs]; omega
        omega
    by_cases c0 : z / 16 % 4 = 0
    · obtain ⟨u1, u2⟩ := up ps (fun q h => .inl h) (by omega) n2 false 0 on2
      refine ⟨_, u1, u2, fin_step st (fin_step s0 (fin_step s6 ?_))⟩
      rw [encM_put, ← hPS]
      rw [c0] at m16
      generalize z / 16 = q at d16 m16
      simp [d16, m16, sizeLine_eq]
    have f0 : ((z / 16 % 4) == 0) = false := by simpa using c0
    by_cases c1 : z / 16 % 4 = 1
    · obtain ⟨u1, u2⟩ := up (ps ++ [.put n2 false 0 []]) (fun q h => by
        rcases List.mem_append.mp h with h | h
        · exact .inl h
        · exact .inr (List.mem_singleton.mp h)) (by rw [List.length_append]; simp; omega) nm kp ad sn
      refine ⟨_, u1, u2, fin_step st (fin_step s0 (fin_step s6 ?_))⟩
      have ad2 : gAdd PS (.tuple [.tuple [.str "put", .str n2, .bool false, .int 0, .tuple []]]) = some (.d (.tuple ((ps ++ [Trm.put n2 false 0 []]).map encM))) := by
        rw [hPS, gAdd_tup (by rw [List.length_map, sizeLine_eq]; simp; omega), List.map_append, List.map_singleton, lfM]
      have pt := put (ps ++ [.put n2 false 0 []])
      generalize encM (.put nm kp ad (ps ++ [.put n2 false 0 []])) = ET at pt ⊢
      generalize PyData.tuple ((ps ++ [Trm.put n2 false 0 []]).map encM) = P6 at ad2 pt
      rw [c1] at m16
      generalize z / 16 = q at d16 m16
      simp [d16, m16, cut, sq, ad2, pt, sizeLine_eq]
    have f1 : ((z / 16 % 4) == 1) = false := by simpa using c1
    by_cases c2 : z / 16 % 4 = 2
    · obtain ⟨u1, u2⟩ := up (ps.drop 1) (fun q h => .inl (List.mem_of_mem_drop h)) (by rw [List.length_drop]; omega) nm kp ad sn
      refine ⟨_, u1, u2, fin_step st (fin_step s0 (fin_step s6 ?_))⟩
      have cd : gSl PS (some 1) none = some (.d (.tuple ((ps.drop 1).map encM))) := by
        rw [hPS]
        show gSl (.tuple _) (some ((1 : Nat) : Int)) none = _
        rw [gSl_tup, cutL_drop, List.map_drop]
      have pt := put (ps.drop 1)
      generalize encM (.put nm kp ad (ps.drop 1)) = ET at pt ⊢
      generalize PyData.tuple ((ps.drop 1).map encM) = P6 at cd pt
      rw [c2] at m16
      generalize z / 16 = q at d16 m16
      simp [d16, m16, cut, sq, cd, pt, sizeLine_eq]
    have f2 : ((z / 16 % 4) == 2) = false := by simpa using c2
    obtain ⟨u1, u2⟩ := up ps.reverse (fun q h => .inl (List.mem_reverse.mp h)) (by rw [List.length_reverse]; omega) nm kp ad sn
    refine ⟨_, u1, u2, fin_step st (fin_step s0 (fin_step s6 ?_))⟩
    have rv : gRevA PS = some (.d (.tuple (ps.reverse.map encM))) := by rw [hPS, gRevA_tup, List.map_reverse]
    have pt := put ps.reverse
    generalize encM (.put nm kp ad ps.reverse) = ET at pt ⊢
    generalize PyData.tuple (ps.reverse.map encM) = P6 at rv pt
    generalize z / 16 % 4 = r at m16 f0 f1 f2
    generalize z / 16 = q at d16 m16
    simp [d16, m16, f0, f1, f2, cut, sq, rv, pt, sizeLine_eq]
end
end Mir
set_option Elab.async false
set_option linter.all false
set_option maxRecDepth 100000
set_option maxHeartbeats 4000000
namespace G
open PySem PySem.Spec L2 Mir
def top (i : Nat) : Stmt := PySem.Challenge.pw_turnery_k60_starts_that_stray.main.body.getD i (.Pass ⟨0, 0, 0, 0⟩)
abbrev s_rows_of : Stmt := top 4
abbrev s_row_of : Stmt := top 5
abbrev s_leaf_of : Stmt := top 6
abbrev s_demands : Stmt := top 8
abbrev s_pair_of : Stmt := top 9
abbrev s_choices_of : Stmt := top 10
abbrev s_all_choices : Stmt := top 11
abbrev s_wrong_within : Stmt := top 12
abbrev s_wrongs : Stmt := top 13
abbrev s_first_wrong : Stmt := top 14
abbrev s_wrong_tree : Stmt := top 15
abbrev s_strays : Stmt := top 16
abbrev s__law_cell_at : Stmt := top 18
abbrev s__law_mixed : Stmt := top 19
abbrev s__law_names : Stmt := top 20
abbrev s__law_great : Stmt := top 21
abbrev s__law_wood : Stmt := top 22
abbrev s__law_typed : Stmt := top 23
abbrev s__law_row : Stmt := top 24
abbrev s__law_fits : Stmt := top 25
abbrev s__law_whole : Stmt := top 26
abbrev s__law_of_kind : Stmt := top 27
abbrev s__law_spoiled : Stmt := top 28
abbrev s__law_wrong_at : Stmt := top 29
abbrev s_law : Stmt := top 30
/-- rows_of: 0 wood, 1 kind, 2 told, 3 rows -/
noncomputable def b_rows_of (m : Nat → List PyData → R Ow) : Ev → SR :=
    (sSeq (sFor (eB (eVar 0) itD) (gtTup 2 (gtCons (gtName 2) (gtCons (gtName 3) gtNil)))
    (sIf (eB (eBin gEq (eVar 2) (eVar 1)) asB)
    (sRet (eM (eVar 3) Ow.d))
    sSkip))
    (sRet (eLst aNil)))
/-- row_of: 0 wood, 1 kind, 2 name, 3 told, 4 branches -/
noncomputable def b_row_of (m : Nat → List PyData → R Ow) : Ev → SR :=
    (sSeq (sFor (eB (eM (eB (aCons (eVar 0) (aCons (eVar 1) aNil)) (m 0)) viewD) itD) (gtTup 2 (gtCons (gtName 3) (gtCons (gtName 4) gtNil)))
    (sIf (eB (eBin gEq (eVar 3) (eVar 2)) asB)
    (sRet (eM (eVar 4) Ow.d))
    sSkip))
    (sRet (eM (eC .none) Ow.d)))
/-- leaf_of: 0 wood, 1 kind, 2 bare, 3 name, 4 branches -/
noncomputable def b_leaf_of (m : Nat → List PyData → R Ow) : Ev → SR :=
    (sSeq (sSet 2 (eM (eM (eLc (eB (eM (eB (aCons (eVar 0) (aCons (eVar 1) aNil)) (m 0)) viewD) itD) (gtTup 2 (gtCons (gtName 3) (gtCons (gtName 4) gtNil))) (eB (eBin gEq (eVar 4) (eTup aNil)) asB) (eM (eVar 3) Ow.d) (List.map (·.2) ([("name", 3), ("branches", 4)] : List (Str × Nat)))) viewD) Ow.d))
    (sRet (eM (eTup (aCons (eBin gIx (eVar 2) (eC (.int 0))) (aCons (eC (.int 0)) (aCons (eTup aNil) aNil)))) Ow.d)))
/-- demands: 0 term, 1 kind, 2 wood, 3 place, 4 row, 5 found, 6 k, 7 part -/
noncomputable def b_demands (m : Nat → List PyData → R Ow) : Ev → SR :=
    (sSeq (sIf (eB (eBin gEq (eBin gIx (eVar 0) (eC (.int 0))) (eC (.str "call"))) asB)
    (sRet (eLst (aCons (eTup (aCons (eVar 3) (aCons (eVar 0) (aCons (eVar 1) aNil)))) aNil)))
    sSkip)
    (sSeq (sSet 4 (eM (eM (eB (aCons (eVar 2) (aCons (eVar 1) (aCons (eBin gIx (eVar 0) (eC (.int 1))) aNil))) (m 1)) viewD) Ow.d))
    (sSeq (sIf (tOrE (eB (eBin gIsN (eVar 4) (eC .none)) asB) (eB (eBin gNe (eM (eCa gLen (aCons (eVar 4) aNil)) viewD) (eM (eCa gLen (aCons (eBin gIx (eVar 0) (eC (.int 4))) aNil)) viewD)) asB))
    (sRet (eLst (aCons (eTup (aCons (eVar 3) (aCons (eC .none) (aCons (eVar 1) aNil)))) aNil)))
    sSkip)
    (sSeq (sSet 5 (eLst aNil))
    (sSeq (sFor (eB (aCons (eBin gIx (eVar 0) (eC (.int 4))) aNil) enArg) (gtTup 2 (gtCons (gtName 6) (gtCons (gtName 7) gtNil)))
    (sExt 5 (eB (eB (aCons (eVar 7) (aCons (eBin gIx (eVar 4) (eVar 6)) (aCons (eVar 2) (aCons (eM (eBinO gAdd (eVar 3) (eTup (aCons (eVar 6) aNil))) viewD) aNil)))) (m 3)) shD)))
    (sRetV 5))))))
/-- pair_of: 0 demand -/
noncomputable def b_pair_of (m : Nat → List PyData → R Ow) : Ev → SR :=
    (sRet (eM (eTup (aCons (eBin gIx (eBin gIx (eVar 0) (eC (.int 1))) (eC (.int 1))) (aCons (eBin gIx (eVar 0) (eC (.int 2))) aNil))) Ow.d))
/-- choices_of: 0 turning, 1 wood, 2 pair, 3 kind, 4 rules, 5 found, 6 row, 7 rule, 8 demand -/
noncomputable def b_choices_of (m : Nat → List PyData → R Ow) : Ev → SR :=
    (sSeq (sAsg (gtTup 2 (gtCons (gtName 3) (gtCons (gtName 4) gtNil))) (eBin gIx (eBin gIx (eVar 0) (eC (.int 2))) (eBin gIx (eVar 2) (eC (.int 0)))))
    (sSeq (sSet 5 (eLst aNil))
    (sSeq (sFor (eB (aCons (eM (eB (aCons (eBin gIx (eVar 0) (eC (.int 0))) (aCons (eVar 3) aNil)) (m 0)) viewD) (aCons (eVar 4) aNil)) zpArg) (gtTup 2 (gtCons (gtName 6) (gtCons (gtName 7) gtNil)))
    (sFor (eB (eM (eB (aCons (eVar 7) (aCons (eBin gIx (eVar 2) (eC (.int 1))) (aCons (eVar 1) (aCons (eTup aNil) aNil)))) (m 3)) viewD) itD) (gtName 8)
    (sApp 5 (eM (eTup (aCons (eVar 6) (aCons (eVar 8) aNil))) Ow.d))))
    (sRetV 5))))
/-- all_choices: 0 turning, 1 wood, 2 found, 3 first, 4 todo, 5 demand, 6 pair, 7 row -/
noncomputable def b_all_choices (m : Nat → List PyData → R Ow) : Ev → SR :=
    (sSeq (sSet 2 eDictNew)
    (sSeq (sSet 3 (eM (eM (eB (aCons (eBin gIx (eVar 0) (eC (.int 1))) (aCons (eBin gIx (eBin gIx (eVar 1) (eC (.int 0))) (eC (.int 0))) (aCons (eVar 1) (aCons (eTup aNil) aNil)))) (m 3)) viewD) Ow.d))
    (sSeq (sSet 4 (eLc (eB (eVar 3) itD) (gtName 5) (eB (eBin gNotN (eBin gIx (eVar 5) (eC (.int 1))) (eC .none)) asB) (eB (aCons (eVar 5) aNil) (m 4)) (List.map (·.2) ([("demand", 5)] : List (Str × Nat)))))
    (sSeq (whileN (eB (eBin gNe (eM (eVarO 4) viewD) (eM (eLst aNil) viewD)) asB)
    (sSeq (sXSet 6 (xPop 4))
    (sIf (eB (eInM true 2 (eVar 6)) asB)
    (sSeq (sPutM 2 (eM (eB (aCons (eVar 0) (aCons (eVar 1) (aCons (eVar 6) aNil))) (m 5)) viewD) (eVar 6))
    (sExt 4 (eB (eLc (eB (eGetM 2 (eVar 6)) itD) (gtTup 2 (gtCons (gtName 7) (gtCons (gtName 5) gtNil))) (eB (eBin gNotN (eBin gIx (eVar 5) (eC (.int 1))) (eC .none)) asB) (eB (aCons (eVar 5) aNil) (m 4)) (List.map (·.2) ([("row", 7), ("demand", 5)] : List (Str × Nat)))) shD)))
    sSkip)) 1000000)
    (sRetV 2)))))
/-- wrong_within: 0 choices, 1 best, 2 many, 3 row, 4 demand -/
noncomputable def b_wrong_within (m : Nat → List PyData → R Ow) : Ev → SR :=
    (sSeq (sFor (eB (eVar 0) itD) (gtTup 2 (gtCons (gtName 3) (gtCons (gtName 4) gtNil)))
    (sIf (eB (eBin gIsN (eBin gIx (eVar 4) (eC (.int 1))) (eC .none)) asB)
    (sIf (eB (eBin gGt (eVar 2) (eM (eCa gInt (aCons (eBin gNe (eBin gIx (eVar 3) (eC (.int 1))) (eTup aNil)) aNil)) viewD)) asB)
    (sRet (eM (eTup (aCons (eVar 2) (aCons (eVar 3) (aCons (eVar 4) aNil)))) Ow.d))
    sSkip)
    (sIf (eB (eBin gIn (eM (eB (aCons (eVar 4) aNil) (m 4)) viewD) (eVar 1)) asB)
    (sRet (eM (eTup (aCons (eVar 2) (aCons (eVar 3) (aCons (eVar 4) aNil)))) Ow.d))
    sSkip)))
    (sRet (eM (eC .none) Ow.d)))
/-- wrongs: 0 turning, 1 wood, 2 choices, 3 best, 4 many, 5 more, 6 fresh, 7 pair, 8 found -/
noncomputable def b_wrongs (m : Nat → List PyData → R Ow) : Ev → SR :=
    (sSeq (sSet 2 (eM (eM (eB (aCons (eVar 0) (aCons (eVar 1) aNil)) (m 6)) viewD) Ow.d))
    (sSeq (sSet 3 eDictNew)
    (sSeq (sSet 4 (eM (eC (.int 0)) Ow.d))
    (sSeq (sSet 5 (eM (eC (.bool true)) Ow.d))
    (sSeq (whileN (tOrE (eB (eVar 5) asB) (eB (eBin gLt (eVar 4) (eC (.int 2))) asB))
    (sSeq (sAug gAddA 4 (eC (.int 1)))
    (sSeq (sSet 6 (eLst aNil))
    (sSeq (sForK 2 (gtName 7)
    (sIf (eB (eInM true 3 (eVar 7)) asB)
    (sSeq (sThaw 3 [] [0, 1, 2, 4, 5, 6, 7] (sSet 8 (eB (aCons (eBin gIx (eVar 2) (eVar 7)) (aCons (eVar 3) (aCons (eVar 4) aNil))) (m 7))))
    (sIf (eB (eBin gNotN (eM (eVarO 8) viewD) (eC .none)) asB)
    (sFrz 8 (sApp 6 (eM (eTup (aCons (eVar 7) (aCons (eVar 8) aNil))) Ow.d)))
    sSkip))
    sSkip))
    (sSeq (sForV 6 (gtTup 2 (gtCons (gtName 7) (gtCons (gtName 8) gtNil)))
    (sFrz 8 (sPutM 3 (eVar 8) (eVar 7))))
    (sSet 5 (eM (eBin gNe (eM (eVarO 6) viewD) (eM (eLst aNil) viewD)) Ow.d)))))) 1000000)
    (sRetV 3))))))
/-- first_wrong: 0 turning, 1 wood, 2 best, 3 found, 4 demand, 5 pair -/
noncomputable def b_first_wrong (m : Nat → List PyData → R Ow) : Ev → SR :=
    (sSeq (sSet 3 (eM (eC .none) Ow.d))
    (sSeq (sFor (eB (eM (eB (aCons (eBin gIx (eVar 0) (eC (.int 1))) (aCons (eBin gIx (eBin gIx (eVar 1) (eC (.int 0))) (eC (.int 0))) (aCons (eVar 1) (aCons (eTup aNil) aNil)))) (m 3)) viewD) itD) (gtName 4)
    (sSeq (sIf (eB (eBin gIsN (eBin gIx (eVar 4) (eC (.int 1))) (eC .none)) asB)
    (sRet (eM (eTup (aCons (eC (.int 1)) (aCons (eVar 4) aNil))) Ow.d))
    sSkip)
    (sSeq (sSet 5 (eM (eM (eB (aCons (eVar 4) aNil) (m 4)) viewD) Ow.d))
    (sIf (tAndE (eB (eBin gIn (eVar 5) (eVar 2)) asB) (tOrE (eB (eBin gIsN (eVar 3) (eC .none)) asB) (eB (eBin gLt (eBin gIx (eBin gIx (eVar 2) (eVar 5)) (eC (.int 0))) (eBin gIx (eVar 3) (eC (.int 0)))) asB)))
    (sSet 3 (eM (eTup (aCons (eBin gIx (eBin gIx (eVar 2) (eVar 5)) (eC (.int 0))) (aCons (eVar 4) aNil))) Ow.d))
    sSkip))))
    (sRet (eM (eVar 3) Ow.d))))
/-- wrong_tree: 0 turning, 1 best, 2 pair, 3 row, 4 demand, 5 branches, 6 kind, 7 place, 8 below, 9 where -/
noncomputable def b_wrong_tree (m : Nat → List PyData → R Ow) : Ev → SR :=
    (sSeq (sAsg (gtTup 2 (gtCons (gtName 3) (gtCons (gtName 4) gtNil))) (eM (eSl (eBin gIx (eVar 1) (eVar 2)) (eB (eC (.int 1)) asI) oNone) viewD))
    (sSeq (sSet 5 (eLc (eB (eBin gIx (eVar 3) (eC (.int 1))) itD) (gtName 6) cYes (eB (aCons (eBin gIx (eVar 0) (eC (.int 0))) (aCons (eVar 6) aNil)) (m 2)) (List.map (·.2) ([("kind", 6)] : List (Str × Nat)))))
    (sSeq (sSet 7 (eM (eBin gIx (eVar 4) (eC (.int 0))) Ow.d))
    (sSeq (sIf (eB (eBin gNotN (eBin gIx (eVar 4) (eC (.int 1))) (eC .none)) asB)
    (sSeq (sAsg (gtTup 2 (gtCons (gtName 8) (gtCons (gtName 9) gtNil))) (eM (eB (aCons (eVar 0) (aCons (eVar 1) (aCons (eM (eB (aCons (eVar 4) aNil) (m 4)) viewD) aNil))) (m 10)) viewD))
    (sSeq (sPut 5 (eM (eVar 8) Ow.d) (eBin gIx (eBin gIx (eVar 4) (eC (.int 1))) (eC (.int 2))))
    (sSet 7 (eM (eM (eBinO gAdd (eVar 7) (eVar 9)) viewD) Ow.d))))
    sSkip)
    (sRet (eM (eTup (aCons (eTup (aCons (eBin gIx (eVar 3) (eC (.int 0))) (aCons (eC (.int 0)) (aCons (eM (eCa gTuple (aCons (eB (eVarO 5) shD) aNil)) viewD) aNil)))) (aCons (eVar 7) aNil))) Ow.d))))))
/-- strays: 0 turning, 1 wood, 2 best, 3 found, 4 tree, 5 where -/
noncomputable def b_strays (m : Nat → List PyData → R Ow) : Ev → SR :=
    (sSeq (sSet 2 (eM (eM (eB (aCons (eVar 0) (aCons (eVar 1) aNil)) (m 8)) viewD) Ow.d))
    (sSeq (sSet 3 (eM (eM (eB (aCons (eVar 0) (aCons (eVar 1) (aCons (eVar 2) aNil))) (m 9)) viewD) Ow.d))
    (sSeq (sIf (eB (eBin gIsN (eVar 3) (eC .none)) asB)
    (sRet (eM (eC .none) Ow.d))
    sSkip)
    (sSeq (sIf (eB (eBin gGt (eBin gIx (eVar 3) (eC (.int 0))) (eC (.int 40))) asB)
    (sRaise "TooGreat")
    sSkip)
    (sSeq (sIf (eB (eBin gIsN (eBin gIx (eBin gIx (eVar 3) (eC (.int 1))) (eC (.int 1))) (eC .none)) asB)
    (sRet (eM (eTup (aCons (eM (eB (aCons (eBin gIx (eVar 0) (eC (.int 0))) (aCons (eBin gIx (eBin gIx (eBin gIx (eVar 0) (eC (.int 0))) (eC (.int 0))) (eC (.int 0))) aNil)) (m 2)) viewD) (aCons (eBin gIx (eBin gIx (eVar 3) (eC (.int 1))) (eC (.int 0))) aNil))) Ow.d))
    sSkip)
    (sSeq (sAsg (gtTup 2 (gtCons (gtName 4) (gtCons (gtName 5) gtNil))) (eM (eB (aCons (eVar 0) (aCons (eVar 2) (aCons (eM (eB (aCons (eBin gIx (eVar 3) (eC (.int 1))) aNil) (m 4)) viewD) aNil))) (m 10)) viewD))
    (sRet (eM (eTup (aCons (eVar 4) (aCons (eM (eBinO gAdd (eBin gIx (eBin gIx (eVar 3) (eC (.int 1))) (eC (.int 0))) (eVar 5)) viewD) aNil))) Ow.d))))))))
/-- _law_cell_at: 0 _law_script, 1 _law_k -/
noncomputable def b__law_cell_at (m : Nat → List PyData → R Ow) : Ev → SR :=
    (sSeq (sIf (eB (eBin gLt (eVar 1) (eM (eCa gLen (aCons (eVar 0) aNil)) viewD)) asB)
    (sRet (eM (eBin gIx (eVar 0) (eVar 1)) Ow.d))
    sSkip)
    (sRet (eM (eC (.int 0)) Ow.d)))
/-- _law_mixed: 0 _law_cell, 1 _law_k, 2 _law_number -/
noncomputable def b__law_mixed (m : Nat → List PyData → R Ow) : Ev → SR :=
    (sSeq (sSet 2 (eM (eM (eBinO gAdd (eBin gMod (eVar 0) (eC (.int 2147483647))) (eBin gMul (eC (.int 48271)) (eM (eBinO gAdd (eVar 1) (eC (.int 1))) viewD))) viewD) Ow.d))
    (sSeq (sSet 2 (eM (eBin gMod (eM (eBinO gAdd (eBin gMul (eVar 2) (eVar 2)) (eBin gMul (eC (.int 69621)) (eVar 1))) viewD) (eC (.int 2147483647))) Ow.d))
    (sRet (eM (eBin gMod (eM (eBinO gAdd (eB (eBinO gAdd (eBin gMul (eVar 2) (eVar 2)) (eBin gMul (eC (.int 16807)) (eVar 1))) shD) (eC (.int 1))) viewD) (eC (.int 2147483647))) Ow.d))))
/-- _law_names: 0 _law_cell, 1 _law_letters, 2 _law_base, 3 _law_j, 4 _law_k, 5 _law_width, 6 _law_spot, 7 _law_names_here, 8 _law_moved -/
noncomputable def b__law_names (m : Nat → List PyData → R Ow) : Ev → SR :=
    (sSeq (sSet 1 (eM (eC (.str "abcdefghijklmnopqrstuvwxyz")) Ow.d))
    (sSeq (sSet 2 (eM (eM (eLc (eB (aCons (eC (.int 8)) aNil) rg1) (gtName 3) cYes (eM (eBin gMod (eM (eB (aCons (eVar 0) (aCons (eVar 3) aNil)) (m 13)) viewD) (eC (.int 26))) Ow.d) (List.map (·.2) ([("_law_j", 3)] : List (Str × Nat)))) viewD) Ow.d))
    (sSeq (sIf (eB (eBin gEq (eBin gMod (eBin gDiv (eVar 0) (eC (.int 64))) (eC (.int 4))) (eC (.int 1))) asB)
    (sRet (eLc (eB (aCons (eC (.int 8)) aNil) rg1) (gtName 4) cYes (eM (eJoin (eC (.str "")) (eB (eLc (eB (eM (eSl (eVar 2) oNone (eB (eM (eBinO gAdd (eVar 4) (eC (.int 1))) viewD) asI)) viewD) itD) (gtName 3) cYes (eM (eBin gIx (eVar 1) (eVar 3)) Ow.d) (List.map (·.2) ([("_law_j", 3)] : List (Str × Nat)))) shD)) Ow.d) (List.map (·.2) ([("_law_k", 4)] : List (Str × Nat)))))
    sSkip)
    (sSeq (sSet 5 (eM (eM (eBinO gAdd (eC (.int 1)) (eBin gMod (eVar 0) (eC (.int 8)))) viewD) Ow.d))
    (sSeq (sSet 6 (eM (eBin gMod (eBin gDiv (eVar 0) (eC (.int 8))) (eVar 5)) Ow.d))
    (sSeq (sSet 7 (eLst aNil))
    (sSeq (sFor (eB (aCons (eC (.int 8)) aNil) rg1) (gtName 4)
    (sSeq (sSet 8 (eSl (eVar 2) oNone (eB (eVar 5) asI)))
    (sSeq (sPut 8 (eM (eBin gMod (eM (eBinO gAdd (eBin gIx (eB (eVarO 8) shD) (eVar 6)) (eVar 4)) viewD) (eC (.int 26))) Ow.d) (eVar 6))
    (sFrz 8 (sApp 7 (eM (eJoin (eC (.str "")) (eB (eLc (eB (eVar 8) itD) (gtName 3) cYes (eM (eBin gIx (eVar 1) (eVar 3)) Ow.d) (List.map (·.2) ([("_law_j", 3)] : List (Str × Nat)))) shD)) Ow.d))))))
    (sRetV 7))))))))
/-- _law_great: 0 _law_cell -/
noncomputable def b__law_great (m : Nat → List PyData → R Ow) : Ev → SR :=
    (sRet (eM (eBin gSub (eBin gMod (eVar 0) (eM (eBinO gAdd (eBin gMul (eC (.int 2)) (eBin gPow (eC (.int 10)) (eC (.int 59)))) (eC (.int 1))) viewD)) (eBin gPow (eC (.int 10)) (eC (.int 59)))) Ow.d))
/-- _law_wood: 0 _law_cell, 1 _law_names_here, 2 _law_kinds, 3 _law_wood_here, 4 _law_i, 5 _law_first, 6 _law_rows, 7 _law_r, 8 _law_number, 9 _law_wide, 10 _law_branches, 11 _law_j -/
noncomputable def b__law_wood (m : Nat → List PyData → R Ow) : Ev → SR :=
    (sSeq (sSet 2 (eM (eM (eSl (eVar 1) oNone (eB (eM (eBinO gAdd (eC (.int 1)) (eBin gMod (eVar 0) (eC (.int 3)))) viewD) asI)) viewD) Ow.d))
    (sSeq (sSet 3 (eLst aNil))
    (sSeq (sFor (eB (aCons (eM (eCa gLen (aCons (eVar 2) aNil)) viewD) aNil) rg1) (gtName 4)
    (sSeq (sSet 5 (eM (eM (eB (aCons (eVar 0) (aCons (eVar 4) aNil)) (m 13)) viewD) Ow.d))
    (sSeq (sSet 6 (eLst aNil))
    (sSeq (sFor (eB (aCons (eBin gSub (eM (eBinO gAdd (eC (.int 2)) (eBin gMod (eVar 5) (eC (.int 2)))) viewD) (eM (eCa gInt (aCons (eAnd (eBin gGt (eVar 4) (eC (.int 0))) (eBin gEq (eBin gMod (eBin gDiv (eVar 5) (eC (.int 2))) (eC (.int 3))) (eC (.int 0)))) aNil)) viewD)) aNil) rg1) (gtName 7)
    (sSeq (sSet 8 (eM (eM (eB (aCons (eVar 0) (aCons (eM (eBinO gAdd (eB (eBinO gAdd (eC (.int 8)) (eBin gMul (eC (.int 4)) (eVar 4))) shD) (eVar 7)) viewD) aNil)) (m 13)) viewD) Ow.d))
    (sSeq (sSet 9 (eM (eBin gIx (eB (eLst (aCons (eC (.int 0)) (aCons (eM (eBinO gAdd (eC (.int 1)) (eBin gMod (eVar 8) (eC (.int 2)))) viewD) (aCons (eBin gMod (eVar 8) (eC (.int 3))) aNil)))) shD) (eVar 7)) Ow.d))
    (sSeq (sSet 10 (eM (eM (eLc (eB (aCons (eVar 9) aNil) rg1) (gtName 11) cYes (eM (eBin gIx (eVar 2) (eBin gMod (eM (eB (aCons (eVar 8) (aCons (eVar 11) aNil)) (m 13)) viewD) (eM (eCa gLen (aCons (eVar 2) aNil)) viewD))) Ow.d) (List.map (·.2) ([("_law_j", 11)] : List (Str × Nat)))) viewD) Ow.d))
    (sApp 6 (eM (eTup (aCons (eBin gIx (eVar 1) (eBin gMod (eM (eBinO gAdd (eBin gDiv (eVar 5) (eC (.int 16))) (eVar 7)) viewD) (eC (.int 8)))) (aCons (eM (eCa gTuple (aCons (eVar 10) aNil)) viewD) aNil))) Ow.d))))))
    (sApp 3 (eM (eTup (aCons (eBin gIx (eVar 2) (eVar 4)) (aCons (eM (eCa gSorted (aCons (eB (eVarO 6) shD) aNil)) viewD) aNil))) Ow.d))))))
    (sRetV 3))))
/-- _law_typed: 0 _law_cell, 1 _law_k, 2 _law_deep, 3 _law_kind, 4 _law_wood_here, 5 _law_calls, 6 _law_keep, 7 _law_number, 8 _law_fit, 9 _law_call, 10 _law_rows, 11 _law_row_here, 12 _law_full, 13 _law_name, 14 _law_branches, 15 _law_parts, 16 _law_j, 17 _law_kept, 18 _law_add -/
noncomputable def b__law_typed (m : Nat → List PyData → R Ow) : Ev → SR :=
    (sSeq (sSet 7 (eM (eM (eB (aCons (eVar 0) (aCons (eVar 1) aNil)) (m 13)) viewD) Ow.d))
    (sSeq (sSet 8 (eM (eM (eLc (eB (eVar 5) itD) (gtName 9) (eB (eBin gEq (eBin gIx (eVar 9) (eC (.int 2))) (eVar 3)) asB) (eSl (eVar 9) oNone (eB (eC (.int 2)) asI)) (List.map (·.2) ([("_law_call", 9)] : List (Str × Nat)))) viewD) Ow.d))
    (sSeq (sIf (tAndE (eB (eBin gNe (eVar 8) (eM (eLst aNil) viewD)) asB) (eB (eBin gLt (eBin gMod (eVar 7) (eC (.int 5))) (eC (.int 2))) asB))
    (sRet (eBinO gAdd (eTup (aCons (eC (.str "call")) aNil)) (eBin gIx (eVar 8) (eBin gMod (eBin gDiv (eVar 7) (eC (.int 5))) (eM (eCa gLen (aCons (eVar 8) aNil)) viewD)))))
    sSkip)
    (sSeq (sSet 10 (eM (eM (eLc (eB (eDictIx (eVar 4) (eVar 3)) itD) (gtName 11) (tOrE (eB (eBin gEq (eBin gIx (eVar 11) (eC (.int 1))) (eTup aNil)) asB) (eB (eBin gGt (eVar 2) (eC (.int 0))) asB)) (eM (eVar 11) Ow.d) (List.map (·.2) ([("_law_row_here", 11)] : List (Str × Nat)))) viewD) Ow.d))
    (sSeq (sSet 12 (eM (eM (eLc (eB (eVar 10) itD) (gtName 11) (eB (eBin gNe (eBin gIx (eVar 11) (eC (.int 1))) (eTup aNil)) asB) (eM (eVar 11) Ow.d) (List.map (·.2) ([("_law_row_here", 11)] : List (Str × Nat)))) viewD) Ow.d))
    (sSeq (sIf (tAndE (eB (eBin gNe (eVar 12) (eM (eLst aNil) viewD)) asB) (eB (eBin gGt (eBin gMod (eBin gDiv (eVar 7) (eC (.int 32))) (eC (.int 4))) (eC (.int 0))) asB))
    (sSet 10 (eM (eVar 12) Ow.d))
    sSkip)
    (sSeq (sAsg (gtTup 2 (gtCons (gtName 13) (gtCons (gtName 14) gtNil))) (eBin gIx (eVar 10) (eBin gMod (eBin gDiv (eVar 7) (eC (.int 8192))) (eM (eCa gLen (aCons (eVar 10) aNil)) viewD))))
    (sSeq (sSet 15 (eLst aNil))
    (sSeq (sFor (eB (aCons (eM (eCa gLen (aCons (eVar 14) aNil)) viewD) aNil) rg1) (gtName 16)
    (sApp 15 (eB (aCons (eVar 0) (aCons (eM (eBinO gAdd (eB (eBinO gAdd (eBin gMul (eC (.int 3)) (eVar 1)) (eVar 16)) shD) (eC (.int 1))) viewD) (aCons (eBin gSub (eVar 2) (eC (.int 1))) (aCons (eBin gIx (eVar 14) (eVar 16)) (aCons (eVar 4) (aCons (eVar 5) (aCons (eVar 6) aNil))))))) (m 17))))
    (sSeq (sSet 17 (eM (eAnd (eVar 6) (eBin gEq (eBin gMod (eBin gDiv (eVar 7) (eC (.int 1024))) (eC (.int 2))) (eC (.int 1)))) Ow.d))
    (sSeq (sSet 18 (eM (eBin gIx (eB (eLst (aCons (eC (.int 0)) (aCons (eBin gSub (eBin gMod (eBin gDiv (eVar 7) (eC (.int 2048))) (eC (.int 19))) (eC (.int 9))) (aCons (eM (eB (aCons (eVar 0) aNil) (m 15)) viewD) aNil)))) shD) (eBin gMod (eBin gDiv (eVar 7) (eC (.int 64))) (eC (.int 3)))) Ow.d))
    (sRet (eM (eTup (aCons (eC (.str "put")) (aCons (eVar 13) (aCons (eVar 17) (aCons (eVar 18) (aCons (eM (eCa gTuple (aCons (eB (eVarO 15) shD) aNil)) viewD) aNil)))))) Ow.d)))))))))))))
/-- _law_row: 0 _law_wood_here, 1 _law_kind, 2 _law_name, 3 _law_row_here -/
noncomputable def b__law_row (m : Nat → List PyData → R Ow) : Ev → SR :=
    (sSeq (sFor (eB (eDictIx (eVar 0) (eVar 1)) itD) (gtName 3)
    (sIf (eB (eBin gEq (eBin gIx (eVar 3) (eC (.int 0))) (eVar 2)) asB)
    (sRet (eM (eBin gIx (eVar 3) (eC (.int 1))) Ow.d))
    sSkip))
    (sRet (eM (eC .none) Ow.d)))
/-- _law_fits: 0 _law_wood_here, 1 _law_kind, 2 _law_label, 3 _law_row_here -/
noncomputable def b__law_fits (m : Nat → List PyData → R Ow) : Ev → SR :=
    (sSeq (sSet 3 (eM (eM (eB (aCons (eVar 0) (aCons (eVar 1) (aCons (eBin gIx (eVar 2) (eC (.int 0))) aNil))) (m 18)) viewD) Ow.d))
    (sRet (eM (eAnd (eBin gNotN (eVar 3) (eC .none)) (eBin gEq (eM (eCa gLen (aCons (eVar 3) aNil)) viewD) (eBin gIx (eVar 2) (eC (.int 2))))) Ow.d)))
/-- _law_whole: 0 _law_found -/
noncomputable def b__law_whole (m : Nat → List PyData → R Ow) : Ev → SR :=
    (sRet (eM (eAnd (eB (eVar 0) (gIsi "int")) (eNot (eB (eVar 0) (gIsi "bool")))) Ow.d))
/-- _law_of_kind: 0 _law_wood_here, 1 _law_kind, 2 _law_term, 3 _law_branch, 4 _law_part -/
noncomputable def b__law_of_kind (m : Nat → List PyData → R Ow) : Ev → SR :=
    (sSeq (sIf (tNotE (eB (eM (eB (aCons (eVar 0) (aCons (eVar 1) (aCons (eTup (aCons (eBin gIx (eVar 2) (eC (.int 1))) (aCons (eC (.int 0)) (aCons (eM (eCa gLen (aCons (eBin gIx (eVar 2) (eC (.int 4))) aNil)) viewD) aNil)))) aNil))) (m 19)) viewD) asB))
    (sRet (eM (eC (.bool false)) Ow.d))
    sSkip)
    (sSeq (sFor (eB (aCons (eM (eB (aCons (eVar 0) (aCons (eVar 1) (aCons (eBin gIx (eVar 2) (eC (.int 1))) aNil))) (m 18)) viewD) (aCons (eBin gIx (eVar 2) (eC (.int 4))) aNil)) zpArg) (gtTup 2 (gtCons (gtName 3) (gtCons (gtName 4) gtNil)))
    (sIf (tNotE (eB (eM (eB (aCons (eVar 0) (aCons (eVar 3) (aCons (eVar 4) aNil))) (m 21)) viewD) asB))
    (sRet (eM (eC (.bool false)) Ow.d))
    sSkip))
    (sRet (eM (eC (.bool true)) Ow.d))))
/-- _law_spoiled: 0 _law_names_here, 1 _law_term, 2 _law_number, 3 _law_parts, 4 _law_k, 5 _law_inner, 6 _law_name -/
noncomputable def b__law_spoiled (m : Nat → List PyData → R Ow) : Ev → SR :=
    (sSeq (sSet 3 (eM (eBin gIx (eVar 1) (eC (.int 4))) Ow.d))
    (sSeq (sIf (tAndE (eB (eBin gNe (eVar 3) (eTup aNil)) asB) (eB (eBin gGt (eBin gMod (eVar 2) (eC (.int 3))) (eC (.int 0))) asB))
    (sSeq (sSet 4 (eM (eBin gMod (eBin gDiv (eVar 2) (eC (.int 3))) (eM (eCa gLen (aCons (eVar 3) aNil)) viewD)) Ow.d))
    (sSeq (sSet 5 (eM (eM (eB (aCons (eVar 0) (aCons (eBin gIx (eVar 3) (eVar 4)) (aCons (eBin gDiv (eVar 2) (eC (.int 7))) aNil))) (m 22)) viewD) Ow.d))
    (sRet (eBinO gAdd (eB (eSl (eVar 1) oNone (eB (eC (.int 4)) asI)) shD) (eTup (aCons (eM (eBinO gAdd (eB (eBinO gAdd (eB (eSl (eVar 3) oNone (eB (eVar 4) asI)) shD) (eTup (aCons (eVar 5) aNil))) shD) (eB (eSl (eVar 3) (eB (eM (eBinO gAdd (eVar 4) (eC (.int 1))) viewD) asI) oNone) shD)) viewD) aNil))))))
    sSkip)
    (sSeq (sSet 6 (eM (eBin gIx (eVar 0) (eBin gMod (eBin gDiv (eVar 2) (eC (.int 64))) (eC (.int 8)))) Ow.d))
    (sSeq (sIf (eB (eBin gEq (eBin gMod (eBin gDiv (eVar 2) (eC (.int 16))) (eC (.int 4))) (eC (.int 0))) asB)
    (sRet (eM (eTup (aCons (eC (.str "put")) (aCons (eVar 6) (aCons (eC (.bool false)) (aCons (eC (.int 0)) (aCons (eVar 3) aNil)))))) Ow.d))
    sSkip)
    (sSeq (sIf (eB (eBin gEq (eBin gMod (eBin gDiv (eVar 2) (eC (.int 16))) (eC (.int 4))) (eC (.int 1))) asB)
    (sRet (eBinO gAdd (eB (eSl (eVar 1) oNone (eB (eC (.int 4)) asI)) shD) (eTup (aCons (eM (eBinO gAdd (eVar 3) (eTup (aCons (eTup (aCons (eC (.str "put")) (aCons (eVar 6) (aCons (eC (.bool false)) (aCons (eC (.int 0)) (aCons (eTup aNil) aNil)))))) aNil))) viewD) aNil))))
    sSkip)
    (sSeq (sIf (eB (eBin gEq (eBin gMod (eBin gDiv (eVar 2) (eC (.int 16))) (eC (.int 4))) (eC (.int 2))) asB)
    (sRet (eBinO gAdd (eB (eSl (eVar 1) oNone (eB (eC (.int 4)) asI)) shD) (eTup (aCons (eM (eSl (eVar 3) (eB (eC (.int 1)) asI) oNone) viewD) aNil))))
    sSkip)
    (sRet (eBinO gAdd (eB (eSl (eVar 1) oNone (eB (eC (.int 4)) asI)) shD) (eTup (aCons (eM (eRevA (eVar 3)) viewD) aNil))))))))))
/-- _law_wrong_at: 0 _law_wood_here, 1 _law_term, 2 _law_found, 3 _law_kind, 4 _law_k -/
noncomputable def b__law_wrong_at (m : Nat → List PyData → R Ow) : Ev → SR :=
    (sSeq (sIf (tNotE (eB (eB (eVar 2) (gIsi "tuple")) asB))
    (sRet (eM (eC (.bool false)) Ow.d))
    sSkip)
    (sSeq (sSet 3 (eM (eBin gIx (eBin gIx (eVar 0) (eC (.int 0))) (eC (.int 0))) Ow.d))
    (sSeq (sFor (eB (eVar 2) itD) (gtName 4)
    (sSeq (sIf (tOrE (tNotE (eB (eM (eB (aCons (eVar 4) aNil) (m 20)) viewD) asB)) (tOrE (eB (eBin gLt (eVar 4) (eC (.int 0))) asB) (eB (eBin gGe (eVar 4) (eM (eCa gLen (aCons (eBin gIx (eVar 1) (eC (.int 4))) aNil)) viewD)) asB)))
    (sRet (eM (eC (.bool false)) Ow.d))
    sSkip)
    (sSeq (sIf (tNotE (eB (eM (eB (aCons (eVar 0) (aCons (eVar 3) (aCons (eTup (aCons (eBin gIx (eVar 1) (eC (.int 1))) (aCons (eC (.int 0)) (aCons (eM (eCa gLen (aCons (eBin gIx (eVar 1) (eC (.int 4))) aNil)) viewD) aNil)))) aNil))) (m 19)) viewD) asB))
    (sRet (eM (eC (.bool false)) Ow.d))
    sSkip)
    (sSeq (sSet 3 (eM (eBin gIx (eB (eB (aCons (eVar 0) (aCons (eVar 3) (aCons (eBin gIx (eVar 1) (eC (.int 1))) aNil))) (m 18)) shD) (eVar 4)) Ow.d))
    (sSet 1 (eM (eBin gIx (eBin gIx (eVar 1) (eC (.int 4))) (eVar 4)) Ow.d))))))
    (sRet (eM (eNot (eM (eB (aCons (eVar 0) (aCons (eVar 3) (aCons (eTup (aCons (eBin gIx (eVar 1) (eC (.int 1))) (aCons (eC (.int 0)) (aCons (eM (eCa gLen (aCons (eBin gIx (eVar 1) (eC (.int 4))) aNil)) viewD) aNil)))) aNil))) (m 19)) viewD)) Ow.d)))))
/-- law: 0 _law_script, 1 _law_names_here, 2 _law_wood_here, 3 _law_out, 4 _law_start, 5 _law_handed, 6 _law_kind, 7 _law_rows, 8 _law_other, 9 _law_found, 10 _law_tree -/
noncomputable def b_law (m : Nat → List PyData → R Ow) : Ev → SR :=
    (sSeq (sSet 1 (eM (eM (eB (aCons (eM (eB (aCons (eVar 0) (aCons (eC (.int 0)) aNil)) (m 12)) viewD) aNil) (m 14)) viewD) Ow.d))
    (sSeq (sSet 2 (eM (eM (eB (aCons (eM (eB (aCons (eVar 0) (aCons (eC (.int 1)) aNil)) (m 12)) viewD) (aCons (eVar 1) aNil)) (m 16)) viewD) Ow.d))
    (sSeq (sSet 3 (eM (eM (eB (aCons (eM (eB (aCons (eVar 0) (aCons (eC (.int 2)) aNil)) (m 12)) viewD) (aCons (eVar 1) aNil)) (m 16)) viewD) Ow.d))
    (sSeq (sSet 4 (eM (eM (eB (aCons (eM (eB (aCons (eVar 0) (aCons (eC (.int 3)) aNil)) (m 12)) viewD) (aCons (eC (.int 0)) (aCons (eC (.int 3)) (aCons (eBin gIx (eBin gIx (eVar 3) (eC (.int 0))) (eC (.int 0))) (aCons (eVar 3) (aCons (eM (eLst aNil) viewD) (aCons (eC (.bool false)) aNil))))))) (m 17)) viewD) Ow.d))
    (sSeq (sIf (eB (eBin gGt (eBin gMod (eM (eB (aCons (eVar 0) (aCons (eC (.int 4)) aNil)) (m 12)) viewD) (eC (.int 3))) (eC (.int 0))) asB)
    (sSet 4 (eM (eM (eB (aCons (eVar 1) (aCons (eVar 4) (aCons (eM (eB (aCons (eM (eB (aCons (eVar 0) (aCons (eC (.int 4)) aNil)) (m 12)) viewD) (aCons (eC (.int 6)) aNil)) (m 13)) viewD) aNil))) (m 22)) viewD) Ow.d))
    sSkip)
    (sSeq (sSet 5 (eM (eTup (aCons (eM (eLc (eB (eVar 2) itD) (gtTup 2 (gtCons (gtName 6) (gtCons (gtName 7) gtNil))) cYes (eM (eTup (aCons (eVar 6) (aCons (eM (eCa gList (aCons (eVar 7) aNil)) viewD) aNil))) Ow.d) (List.map (·.2) ([("_law_kind", 6), ("_law_rows", 7)] : List (Str × Nat)))) viewD) (aCons (eVar 4) (aCons (eM (eLst aNil) viewD) aNil)))) Ow.d))
    (sSeq (sSet 8 (eM (eM (eLc (eB (eVar 3) itD) (gtTup 2 (gtCons (gtName 6) (gtCons (gtName 7) gtNil))) cYes (eM (eTup (aCons (eVar 6) (aCons (eM (eCa gList (aCons (eVar 7) aNil)) viewD) aNil))) Ow.d) (List.map (·.2) ([("_law_kind", 6), ("_law_rows", 7)] : List (Str × Nat)))) viewD) Ow.d))
    (sSeq (sSet 9 (eM (eM (eB (aCons (eVar 5) (aCons (eVar 8) aNil)) (m 11)) viewD) Ow.d))
    (sSeq (sIf (tOrE (eB (eBin gNe (eVar 5) (eTup (aCons (eVar 2) (aCons (eVar 4) (aCons (eM (eLst aNil) viewD) aNil))))) asB) (eB (eBin gNe (eVar 8) (eVar 3)) asB))
    (sRet (eM (eC (.bool false)) Ow.d))
    sSkip)
    (sSeq (sIf (eB (eM (eB (aCons (eVar 3) (aCons (eBin gIx (eBin gIx (eVar 3) (eC (.int 0))) (eC (.int 0))) (aCons (eVar 4) aNil))) (m 21)) viewD) asB)
    (sRet (eM (eBin gIsN (eVar 9) (eC .none)) Ow.d))
    sSkip)
    (sSeq (sIf (tOrE (tNotE (eB (eB (eVar 9) (gIsi "tuple")) asB)) (tOrE (eB (eBin gNe (eM (eCa gLen (aCons (eVar 9) aNil)) viewD) (eC (.int 2))) asB) (tNotE (eB (eM (eB (aCons (eVar 3) (aCons (eVar 4) (aCons (eBin gIx (eVar 9) (eC (.int 1))) aNil))) (m 23)) viewD) asB))))
    (sRet (eM (eC (.bool false)) Ow.d))
    sSkip)
    (sSeq (sSet 10 (eM (eBin gIx (eVar 9) (eC (.int 0))) Ow.d))
    (sSeq (sIf (tOrE (tNotE (eB (eB (eVar 10) (gIsi "tuple")) asB)) (tOrE (eB (eBin gNe (eM (eCa gLen (aCons (eVar 10) aNil)) viewD) (eC (.int 3))) asB) (tOrE (tNotE (eB (eB (eBin gIx (eVar 10) (eC (.int 0))) (gIsi "str")) asB)) (tNotE (eB (eM (eB (aCons (eBin gIx (eVar 10) (eC (.int 1))) aNil) (m 20)) viewD) asB)))))
    (sRet (eM (eC (.bool false)) Ow.d))
    sSkip)
    (sRet (eM (eAnd (eBin gEq (eBin gIx (eVar 10) (eC (.int 2))) (eTup aNil)) (eBin gEq (eM (eB (aCons (eVar 2) (aCons (eBin gIx (eBin gIx (eVar 2) (eC (.int 0))) (eC (.int 0))) (aCons (eBin gIx (eVar 10) (eC (.int 0))) aNil))) (m 18)) viewD) (eTup aNil))) Ow.d)))))))))))))))
noncomputable def mir : Nat → Nat → List PyData → R Ow
  | 0, _ => fun _ => .no
  | n + 1, i => match i with
    | 0 => runB 2 (b_rows_of (mir n))
    | 1 => runB 2 (b_row_of (mir n))
    | 2 => runB 3 (b_leaf_of (mir n))
    | 3 => runB 4 (b_demands (mir n))
    | 4 => runB 0 (b_pair_of (mir n))
    | 5 => runB 6 (b_choices_of (mir n))
    | 6 => runB 6 (b_all_choices (mir n))
    | 7 => runB 2 (b_wrong_within (mir n))
    | 8 => runB 7 (b_wrongs (mir n))
    | 9 => runB 3 (b_first_wrong (mir n))
    | 10 => runB 7 (b_wrong_tree (mir n))
    | 11 => runB 4 (b_strays (mir n))
    | 12 => runB 0 (b__law_cell_at (mir n))
    | 13 => runB 1 (b__law_mixed (mir n))
    | 14 => runB 8 (b__law_names (mir n))
    | 15 => runB 0 (b__law_great (mir n))
    | 16 => runB 10 (b__law_wood (mir n))
    | 17 => runB 12 (b__law_typed (mir n))
    | 18 => runB 1 (b__law_row (mir n))
    | 19 => runB 1 (b__law_fits (mir n))
    | 20 => runB 0 (b__law_whole (mir n))
    | 21 => runB 2 (b__law_of_kind (mir n))
    | 22 => runB 4 (b__law_spoiled (mir n))
    | 23 => runB 2 (b__law_wrong_at (mir n))
    | 24 => runB 10 (b_law (mir n))
    | _ => fun _ => .no
theorem mir_rows_of (n : Nat) (ds : List PyData) : mir (n + 1) 0 ds = runB 2 (b_rows_of (mir n)) ds := rfl
theorem mir_row_of (n : Nat) (ds : List PyData) : mir (n + 1) 1 ds = runB 2 (b_row_of (mir n)) ds := rfl
theorem mir_leaf_of (n : Nat) (ds : List PyData) : mir (n + 1) 2 ds = runB 3 (b_leaf_of (mir n)) ds := rfl
theorem mir_demands (n : Nat) (ds : List PyData) : mir (n + 1) 3 ds = runB 4 (b_demands (mir n)) ds := rfl
theorem mir_all_choices (n : Nat) (ds : List PyData) : mir (n + 1) 6 ds = runB 6 (b_all_choices (mir n)) ds := rfl
theorem mir_wrongs (n : Nat) (ds : List PyData) : mir (n + 1) 8 ds = runB 7 (b_wrongs (mir n)) ds := rfl
theorem mir_first_wrong (n : Nat) (ds : List PyData) : mir (n + 1) 9 ds = runB 3 (b_first_wrong (mir n)) ds := rfl
theorem mir_strays (n : Nat) (ds : List PyData) : mir (n + 1) 11 ds = runB 4 (b_strays (mir n)) ds := rfl
theorem mir__law_cell_at (n : Nat) (ds : List PyData) : mir (n + 1) 12 ds = runB 0 (b__law_cell_at (mir n)) ds := rfl
theorem mir__law_mixed (n : Nat) (ds : List PyData) : mir (n + 1) 13 ds = runB 1 (b__law_mixed (mir n)) ds := rfl
theorem mir__law_names (n : Nat) (ds : List PyData) : mir (n + 1) 14 ds = runB 8 (b__law_names (mir n)) ds := rfl
theorem mir__law_great (n : Nat) (ds : List PyData) : mir (n + 1) 15 ds = runB 0 (b__law_great (mir n)) ds := rfl
theorem mir__law_wood (n : Nat) (ds : List PyData) : mir (n + 1) 16 ds = runB 10 (b__law_wood (mir n)) ds := rfl
theorem mir__law_typed (n : Nat) (ds : List PyData) : mir (n + 1) 17 ds = runB 12 (b__law_typed (mir n)) ds := rfl
theorem mir__law_row (n : Nat) (ds : List PyData) : mir (n + 1) 18 ds = runB 1 (b__law_row (mir n)) ds := rfl
theorem mir__law_fits (n : Nat) (ds : List PyData) : mir (n + 1) 19 ds = runB 1 (b__law_fits (mir n)) ds := rfl
theorem mir__law_whole (n : Nat) (ds : List PyData) : mir (n + 1) 20 ds = runB 0 (b__law_whole (mir n)) ds := rfl
theorem mir__law_of_kind (n : Nat) (ds : List PyData) : mir (n + 1) 21 ds = runB 2 (b__law_of_kind (mir n)) ds := rfl
theorem mir__law_spoiled (n : Nat) (ds : List PyData) : mir (n + 1) 22 ds = runB 4 (b__law_spoiled (mir n)) ds := rfl
theorem mir__law_wrong_at (n : Nat) (ds : List PyData) : mir (n + 1) 23 ds = runB 2 (b__law_wrong_at (mir n)) ds := rfl
theorem mir_law (n : Nat) (ds : List PyData) : mir (n + 1) 24 ds = runB 10 (b_law (mir n)) ds := rfl
theorem run_rows_of (m : Nat → List PyData → R Ow) (ds : List PyData) : runB 2 (b_rows_of m) ds = finR (((sSeq (sFor (eB (eVar 0) itD) (gtTup 2 (gtCons (gtName 2) (gtCons (gtName 3) gtNil)))
    (sIf (eB (eBin gEq (eVar 2) (eVar 1)) asB)
    (sRet (eM (eVar 3) Ow.d))
    sSkip))
    (sRet (eLst aNil)))) (envOf 2 ds)) := runB_fin _ _ _
theorem run_row_of (m : Nat → List PyData → R Ow) (ds : List PyData) : runB 2 (b_row_of m) ds = finR (((sSeq (sFor (eB (eM (eB (aCons (eVar 0) (aCons (eVar 1) aNil)) (m 0)) viewD) itD) (gtTup 2 (gtCons (gtName 3) (gtCons (gtName 4) gtNil)))
    (sIf (eB (eBin gEq (eVar 3) (eVar 2)) asB)
    (sRet (eM (eVar 4) Ow.d))
    sSkip))
    (sRet (eM (eC .none) Ow.d)))) (envOf 2 ds)) := runB_fin _ _ _
theorem run_leaf_of (m : Nat → List PyData → R Ow) (ds : List PyData) : runB 3 (b_leaf_of m) ds = finR (((sSeq (sSet 2 (eM (eM (eLc (eB (eM (eB (aCons (eVar 0) (aCons (eVar 1) aNil)) (m 0)) viewD) itD) (gtTup 2 (gtCons (gtName 3) (gtCons (gtName 4) gtNil))) (eB (eBin gEq (eVar 4) (eTup aNil)) asB) (eM (eVar 3) Ow.d) (List.map (·.2) ([("name", 3), ("branches", 4)] : List (Str × Nat)))) viewD) Ow.d))
    (sRet (eM (eTup (aCons (eBin gIx (eVar 2) (eC (.int 0))) (aCons (eC (.int 0)) (aCons (eTup aNil) aNil)))) Ow.d)))) (envOf 3 ds)) := runB_fin _ _ _
theorem run_demands (m : Nat → List PyData → R Ow) (ds : List PyData) : runB 4 (b_demands m) ds = finR (((sSeq (sIf (eB (eBin gEq (eBin gIx (eVar 0) (eC (.int 0))) (eC (.str "call"))) asB)
    (sRet (eLst (aCons (eTup (aCons (eVar 3) (aCons (eVar 0) (aCons (eVar 1) aNil)))) aNil)))
    sSkip)
    (sSeq (sSet 4 (eM (eM (eB (aCons (eVar 2) (aCons (eVar 1) (aCons (eBin gIx (eVar 0) (eC (.int 1))) aNil))) (m 1)) viewD) Ow.d))
    (sSeq (sIf (tOrE (eB (eBin gIsN (eVar 4) (eC .none)) asB) (eB (eBin gNe (eM (eCa gLen (aCons (eVar 4) aNil)) viewD) (eM (eCa gLen (aCons (eBin gIx (eVar 0) (eC (.int 4))) aNil)) viewD)) asB))
    (sRet (eLst (aCons (eTup (aCons (eVar 3) (aCons (eC .none) (aCons (eVar 1) aNil)))) aNil)))
    sSkip)
    (sSeq (sSet 5 (eLst aNil))
    (sSeq (sFor (eB (aCons (eBin gIx (eVar 0) (eC (.int 4))) aNil) enArg) (gtTup 2 (gtCons (gtName 6) (gtCons (gtName 7) gtNil)))
    (sExt 5 (eB (eB (aCons (eVar 7) (aCons (eBin gIx (eVar 4) (eVar 6)) (aCons (eVar 2) (aCons (eM (eBinO gAdd (eVar 3) (eTup (aCons (eVar 6) aNil))) viewD) aNil)))) (m 3)) shD)))
    (sRetV 5))))))) (envOf 4 ds)) := runB_fin _ _ _
theorem run_all_choices (m : Nat → List PyData → R Ow) (ds : List PyData) : runB 6 (b_all_choices m) ds = finR (((sSeq (sSet 2 eDictNew)
    (sSeq (sSet 3 (eM (eM (eB (aCons (eBin gIx (eVar 0) (eC (.int 1))) (aCons (eBin gIx (eBin gIx (eVar 1) (eC (.int 0))) (eC (.int 0))) (aCons (eVar 1) (aCons (eTup aNil) aNil)))) (m 3)) viewD) Ow.d))
    (sSeq (sSet 4 (eLc (eB (eVar 3) itD) (gtName 5) (eB (eBin gNotN (eBin gIx (eVar 5) (eC (.int 1))) (eC .none)) asB) (eB (aCons (eVar 5) aNil) (m 4)) (List.map (·.2) ([("demand", 5)] : List (Str × Nat)))))
    (sSeq (whileN (eB (eBin gNe (eM (eVarO 4) viewD) (eM (eLst aNil) viewD)) asB)
    (sSeq (sXSet 6 (xPop 4))
    (sIf (eB (eInM true 2 (eVar 6)) asB)
    (sSeq (sPutM 2 (eM (eB (aCons (eVar 0) (aCons (eVar 1) (aCons (eVar 6) aNil))) (m 5)) viewD) (eVar 6))
    (sExt 4 (eB (eLc (eB (eGetM 2 (eVar 6)) itD) (gtTup 2 (gtCons (gtName 7) (gtCons (gtName 5) gtNil))) (eB (eBin gNotN (eBin gIx (eVar 5) (eC (.int 1))) (eC .none)) asB) (eB (aCons (eVar 5) aNil) (m 4)) (List.map (·.2) ([("row", 7), ("demand", 5)] : List (Str × Nat)))) shD)))
    sSkip)) 1000000)
    (sRetV 2)))))) (envOf 6 ds)) := runB_fin _ _ _
theorem run_wrongs (m : Nat → List PyData → R Ow) (ds : List PyData) : runB 7 (b_wrongs m) ds = finR (((sSeq (sSet 2 (eM (eM (eB (aCons (eVar 0) (aCons (eVar 1) aNil)) (m 6)) viewD) Ow.d))
    (sSeq (sSet 3 eDictNew)
    (sSeq (sSet 4 (eM (eC (.int 0)) Ow.d))
    (sSeq (sSet 5 (eM (eC (.bool true)) Ow.d))
    (sSeq (whileN (tOrE (eB (eVar 5) asB) (eB (eBin gLt (eVar 4) (eC (.int 2))) asB))
    (sSeq (sAug gAddA 4 (eC (.int 1)))
    (sSeq (sSet 6 (eLst aNil))
    (sSeq (sForK 2 (gtName 7)
    (sIf (eB (eInM true 3 (eVar 7)) asB)
    (sSeq (sThaw 3 [] [0, 1, 2, 4, 5, 6, 7] (sSet 8 (eB (aCons (eBin gIx (eVar 2) (eVar 7)) (aCons (eVar 3) (aCons (eVar 4) aNil))) (m 7))))
    (sIf (eB (eBin gNotN (eM (eVarO 8) viewD) (eC .none)) asB)
    (sFrz 8 (sApp 6 (eM (eTup (aCons (eVar 7) (aCons (eVar 8) aNil))) Ow.d)))
    sSkip))
    sSkip))
    (sSeq (sForV 6 (gtTup 2 (gtCons (gtName 7) (gtCons (gtName 8) gtNil)))
    (sFrz 8 (sPutM 3 (eVar 8) (eVar 7))))
    (sSet 5 (eM (eBin gNe (eM (eVarO 6) viewD) (eM (eLst aNil) viewD)) Ow.d)))))) 1000000)
    (sRetV 3))))))) (envOf 7 ds)) := runB_fin _ _ _
theorem run_first_wrong (m : Nat → List PyData → R Ow) (ds : List PyData) : runB 3 (b_first_wrong m) ds = finR (((sSeq (sSet 3 (eM (eC .none) Ow.d))
    (sSeq (sFor (eB (eM (eB (aCons (eBin gIx (eVar 0) (eC (.int 1))) (aCons (eBin gIx (eBin gIx (eVar 1) (eC (.int 0))) (eC (.int 0))) (aCons (eVar 1) (aCons (eTup aNil) aNil)))) (m 3)) viewD) itD) (gtName 4)
    (sSeq (sIf (eB (eBin gIsN (eBin gIx (eVar 4) (eC (.int 1))) (eC .none)) asB)
    (sRet (eM (eTup (aCons (eC (.int 1)) (aCons (eVar 4) aNil))) Ow.d))
    sSkip)
    (sSeq (sSet 5 (eM (eM (eB (aCons (eVar 4) aNil) (m 4)) viewD) Ow.d))
    (sIf (tAndE (eB (eBin gIn (eVar 5) (eVar 2)) asB) (tOrE (eB (eBin gIsN (eVar 3) (eC .none)) asB) (eB (eBin gLt (eBin gIx (eBin gIx (eVar 2) (eVar 5)) (eC (.int 0))) (eBin gIx (eVar 3) (eC (.int 0)))) asB)))
    (sSet 3 (eM (eTup (aCons (eBin gIx (eBin gIx (eVar 2) (eVar 5)) (eC (.int 0))) (aCons (eVar 4) aNil))) Ow.d))
    sSkip))))
    (sRet (eM (eVar 3) Ow.d))))) (envOf 3 ds)) := runB_fin _ _ _
theorem run_strays (m : Nat → List PyData → R Ow) (ds : List PyData) : runB 4 (b_strays m) ds = finR (((sSeq (sSet 2 (eM (eM (eB (aCons (eVar 0) (aCons (eVar 1) aNil)) (m 8)) viewD) Ow.d))
    (sSeq (sSet 3 (eM (eM (eB (aCons (eVar 0) (aCons (eVar 1) (aCons (eVar 2) aNil))) (m 9)) viewD) Ow.d))
    (sSeq (sIf (eB (eBin gIsN (eVar 3) (eC .none)) asB)
    (sRet (eM (eC .none) Ow.d))
    sSkip)
    (sSeq (sIf (eB (eBin gGt (eBin gIx (eVar 3) (eC (.int 0))) (eC (.int 40))) asB)
    (sRaise "TooGreat")
    sSkip)
    (sSeq (sIf (eB (eBin gIsN (eBin gIx (eBin gIx (eVar 3) (eC (.int 1))) (eC (.int 1))) (eC .none)) asB)
    (sRet (eM (eTup (aCons (eM (eB (aCons (eBin gIx (eVar 0) (eC (.int 0))) (aCons (eBin gIx (eBin gIx (eBin gIx (eVar 0) (eC (.int 0))) (eC (.int 0))) (eC (.int 0))) aNil)) (m 2)) viewD) (aCons (eBin gIx (eBin gIx (eVar 3) (eC (.int 1))) (eC (.int 0))) aNil))) Ow.d))
    sSkip)
    (sSeq (sAsg (gtTup 2 (gtCons (gtName 4) (gtCons (gtName 5) gtNil))) (eM (eB (aCons (eVar 0) (aCons (eVar 2) (aCons (eM (eB (aCons (eBin gIx (eVar 3) (eC (.int 1))) aNil) (m 4)) viewD) aNil))) (m 10)) viewD))
    (sRet (eM (eTup (aCons (eVar 4) (aCons (eM (eBinO gAdd (eBin gIx (eBin gIx (eVar 3) (eC (.int 1))) (eC (.int 0))) (eVar 5)) viewD) aNil))) Ow.d))))))))) (envOf 4 ds)) := runB_fin _ _ _
theorem run__law_cell_at (m : Nat → List PyData → R Ow) (ds : List PyData) : runB 0 (b__law_cell_at m) ds = finR (((sSeq (sIf (eB (eBin gLt (eVar 1) (eM (eCa gLen (aCons (eVar 0) aNil)) viewD)) asB)
    (sRet (eM (eBin gIx (eVar 0) (eVar 1)) Ow.d))
    sSkip)
    (sRet (eM (eC (.int 0)) Ow.d)))) (envOf 0 ds)) := runB_fin _ _ _
theorem run__law_mixed (m : Nat → List PyData → R Ow) (ds : List PyData) : runB 1 (b__law_mixed m) ds = finR (((sSeq (sSet 2 (eM (eM (eBinO gAdd (eBin gMod (eVar 0) (eC (.int 2147483647))) (eBin gMul (eC (.int 48271)) (eM (eBinO gAdd (eVar 1) (eC (.int 1))) viewD))) viewD) Ow.d))
    (sSeq (sSet 2 (eM (eBin gMod (eM (eBinO gAdd (eBin gMul (eVar 2) (eVar 2)) (eBin gMul (eC (.int 69621)) (eVar 1))) viewD) (eC (.int 2147483647))) Ow.d))
    (sRet (eM (eBin gMod (eM (eBinO gAdd (eB (eBinO gAdd (eBin gMul (eVar 2) (eVar 2)) (eBin gMul (eC (.int 16807)) (eVar 1))) shD) (eC (.int 1))) viewD) (eC (.int 2147483647))) Ow.d))))) (envOf 1 ds)) := runB_fin _ _ _
theorem run__law_names (m : Nat → List PyData → R Ow) (ds : List PyData) : runB 8 (b__law_names m) ds = finR (((sSeq (sSet 1 (eM (eC (.str "abcdefghijklmnopqrstuvwxyz")) Ow.d))
    (sSeq (sSet 2 (eM (eM (eLc (eB (aCons (eC (.int 8)) aNil) rg1) (gtName 3) cYes (eM (eBin gMod (eM (eB (aCons (eVar 0) (aCons (eVar 3) aNil)) (m 13)) viewD) (eC (.int 26))) Ow.d) (List.map (·.2) ([("_law_j", 3)] : List (Str × Nat)))) viewD) Ow.d))
    (sSeq (sIf (eB (eBin gEq (eBin gMod (eBin gDiv (eVar 0) (eC (.int 64))) (eC (.int 4))) (eC (.int 1))) asB)
    (sRet (eLc (eB (aCons (eC (.int 8)) aNil) rg1) (gtName 4) cYes (eM (eJoin (eC (.str "")) (eB (eLc (eB (eM (eSl (eVar 2) oNone (eB (eM (eBinO gAdd (eVar 4) (eC (.int 1))) viewD) asI)) viewD) itD) (gtName 3) cYes (eM (eBin gIx (eVar 1) (eVar 3)) Ow.d) (List.map (·.2) ([("_law_j", 3)] : List (Str × Nat)))) shD)) Ow.d) (List.map (·.2) ([("_law_k", 4)] : List (Str × Nat)))))
    sSkip)
    (sSeq (sSet 5 (eM (eM (eBinO gAdd (eC (.int 1)) (eBin gMod (eVar 0) (eC (.int 8)))) viewD) Ow.d))
    (sSeq (sSet 6 (eM (eBin gMod (eBin gDiv (eVar 0) (eC (.int 8))) (eVar 5)) Ow.d))
    (sSeq (sSet 7 (eLst aNil))
    (sSeq (sFor (eB (aCons (eC (.int 8)) aNil) rg1) (gtName 4)
    (sSeq (sSet 8 (eSl (eVar 2) oNone (eB (eVar 5) asI)))
    (sSeq (sPut 8 (eM (eBin gMod (eM (eBinO gAdd (eBin gIx (eB (eVarO 8) shD) (eVar 6)) (eVar 4)) viewD) (eC (.int 26))) Ow.d) (eVar 6))
    (sFrz 8 (sApp 7 (eM (eJoin (eC (.str "")) (eB (eLc (eB (eVar 8) itD) (gtName 3) cYes (eM (eBin gIx (eVar 1) (eVar 3)) Ow.d) (List.map (·.2) ([("_law_j", 3)] : List (Str × Nat)))) shD)) Ow.d))))))
    (sRetV 7))))))))) (envOf 8 ds)) := runB_fin _ _ _
theorem run__law_great (m : Nat → List PyData → R Ow) (ds : List PyData) : runB 0 (b__law_great m) ds = finR (((sRet (eM (eBin gSub (eBin gMod (eVar 0) (eM (eBinO gAdd (eBin gMul (eC (.int 2)) (eBin gPow (eC (.int 10)) (eC (.int 59)))) (eC (.int 1))) viewD)) (eBin gPow (eC (.int 10)) (eC (.int 59)))) Ow.d))) (envOf 0 ds)) := runB_fin _ _ _
theorem run__law_wood (m : Nat → List PyData → R Ow) (ds : List PyData) : runB 10 (b__law_wood m) ds = finR (((sSeq (sSet 2 (eM (eM (eSl (eVar 1) oNone (eB (eM (eBinO gAdd (eC (.int 1)) (eBin gMod (eVar 0) (eC (.int 3)))) viewD) asI)) viewD) Ow.d))
    (sSeq (sSet 3 (eLst aNil))
    (sSeq (sFor (eB (aCons (eM (eCa gLen (aCons (eVar 2) aNil)) viewD) aNil) rg1) (gtName 4)
    (sSeq (sSet 5 (eM (eM (eB (aCons (eVar 0) (aCons (eVar 4) aNil)) (m 13)) viewD) Ow.d))
    (sSeq (sSet 6 (eLst aNil))
    (sSeq (sFor (eB (aCons (eBin gSub (eM (eBinO gAdd (eC (.int 2)) (eBin gMod (eVar 5) (eC (.int 2)))) viewD) (eM (eCa gInt (aCons (eAnd (eBin gGt (eVar 4) (eC (.int 0))) (eBin gEq (eBin gMod (eBin gDiv (eVar 5) (eC (.int 2))) (eC (.int 3))) (eC (.int 0)))) aNil)) viewD)) aNil) rg1) (gtName 7)
    (sSeq (sSet 8 (eM (eM (eB (aCons (eVar 0) (aCons (eM (eBinO gAdd (eB (eBinO gAdd (eC (.int 8)) (eBin gMul (eC (.int 4)) (eVar 4))) shD) (eVar 7)) viewD) aNil)) (m 13)) viewD) Ow.d))
    (sSeq (sSet 9 (eM (eBin gIx (eB (eLst (aCons (eC (.int 0)) (aCons (eM (eBinO gAdd (eC (.int 1)) (eBin gMod (eVar 8) (eC (.int 2)))) viewD) (aCons (eBin gMod (eVar 8) (eC (.int 3))) aNil)))) shD) (eVar 7)) Ow.d))
    (sSeq (sSet 10 (eM (eM (eLc (eB (aCons (eVar 9) aNil) rg1) (gtName 11) cYes (eM (eBin gIx (eVar 2) (eBin gMod (eM (eB (aCons (eVar 8) (aCons (eVar 11) aNil)) (m 13)) viewD) (eM (eCa gLen (aCons (eVar 2) aNil)) viewD))) Ow.d) (List.map (·.2) ([("_law_j", 11)] : List (Str × Nat)))) viewD) Ow.d))
    (sApp 6 (eM (eTup (aCons (eBin gIx (eVar 1) (eBin gMod (eM (eBinO gAdd (eBin gDiv (eVar 5) (eC (.int 16))) (eVar 7)) viewD) (eC (.int 8)))) (aCons (eM (eCa gTuple (aCons (eVar 10) aNil)) viewD) aNil))) Ow.d))))))
    (sApp 3 (eM (eTup (aCons (eBin gIx (eVar 2) (eVar 4)) (aCons (eM (eCa gSorted (aCons (eB (eVarO 6) shD) aNil)) viewD) aNil))) Ow.d))))))
    (sRetV 3))))) (envOf 10 ds)) := runB_fin _ _ _
theorem run__law_typed (m : Nat → List PyData → R Ow) (ds : List PyData) : runB 12 (b__law_typed m) ds = finR (((sSeq (sSet 7 (eM (eM (eB (aCons (eVar 0) (aCons (eVar 1) aNil)) (m 13)) viewD) Ow.d))
    (sSeq (sSet 8 (eM (eM (eLc (eB (eVar 5) itD) (gtName 9) (eB (eBin gEq (eBin gIx (eVar 9) (eC (.int 2))) (eVar 3)) asB) (eSl (eVar 9) oNone (eB (eC (.int 2)) asI)) (List.map (·.2) ([("_law_call", 9)] : List (Str × Nat)))) viewD) Ow.d))
    (sSeq (sIf (tAndE (eB (eBin gNe (eVar 8) (eM (eLst aNil) viewD)) asB) (eB (eBin gLt (eBin gMod (eVar 7) (eC (.int 5))) (eC (.int 2))) asB))
    (sRet (eBinO gAdd (eTup (aCons (eC (.str "call")) aNil)) (eBin gIx (eVar 8) (eBin gMod (eBin gDiv (eVar 7) (eC (.int 5))) (eM (eCa gLen (aCons (eVar 8) aNil)) viewD)))))
    sSkip)
    (sSeq (sSet 10 (eM (eM (eLc (eB (eDictIx (eVar 4) (eVar 3)) itD) (gtName 11) (tOrE (eB (eBin gEq (eBin gIx (eVar 11) (eC (.int 1))) (eTup aNil)) asB) (eB (eBin gGt (eVar 2) (eC (.int 0))) asB)) (eM (eVar 11) Ow.d) (List.map (·.2) ([("_law_row_here", 11)] : List (Str × Nat)))) viewD) Ow.d))
    (sSeq (sSet 12 (eM (eM (eLc (eB (eVar 10) itD) (gtName 11) (eB (eBin gNe (eBin gIx (eVar 11) (eC (.int 1))) (eTup aNil)) asB) (eM (eVar 11) Ow.d) (List.map (·.2) ([("_law_row_here", 11)] : List (Str × Nat)))) viewD) Ow.d))
    (sSeq (sIf (tAndE (eB (eBin gNe (eVar 12) (eM (eLst aNil) viewD)) asB) (eB (eBin gGt (eBin gMod (eBin gDiv (eVar 7) (eC (.int 32))) (eC (.int 4))) (eC (.int 0))) asB))
    (sSet 10 (eM (eVar 12) Ow.d))
    sSkip)
    (sSeq (sAsg (gtTup 2 (gtCons (gtName 13) (gtCons (gtName 14) gtNil))) (eBin gIx (eVar 10) (eBin gMod (eBin gDiv (eVar 7) (eC (.int 8192))) (eM (eCa gLen (aCons (eVar 10) aNil)) viewD))))
    (sSeq (sSet 15 (eLst aNil))
    (sSeq (sFor (eB (aCons (eM (eCa gLen (aCons (eVar 14) aNil)) viewD) aNil) rg1) (gtName 16)
    (sApp 15 (eB (aCons (eVar 0) (aCons (eM (eBinO gAdd (eB (eBinO gAdd (eBin gMul (eC (.int 3)) (eVar 1)) (eVar 16)) shD) (eC (.int 1))) viewD) (aCons (eBin gSub (eVar 2) (eC (.int 1))) (aCons (eBin gIx (eVar 14) (eVar 16)) (aCons (eVar 4) (aCons (eVar 5) (aCons (eVar 6) aNil))))))) (m 17))))
    (sSeq (sSet 17 (eM (eAnd (eVar 6) (eBin gEq (eBin gMod (eBin gDiv (eVar 7) (eC (.int 1024))) (eC (.int 2))) (eC (.int 1)))) Ow.d))
    (sSeq (sSet 18 (eM (eBin gIx (eB (eLst (aCons (eC (.int 0)) (aCons (eBin gSub (eBin gMod (eBin gDiv (eVar 7) (eC (.int 2048))) (eC (.int 19))) (eC (.int 9))) (aCons (eM (eB (aCons (eVar 0) aNil) (m 15)) viewD) aNil)))) shD) (eBin gMod (eBin gDiv (eVar 7) (eC (.int 64))) (eC (.int 3)))) Ow.d))
    (sRet (eM (eTup (aCons (eC (.str "put")) (aCons (eVar 13) (aCons (eVar 17) (aCons (eVar 18) (aCons (eM (eCa gTuple (aCons (eB (eVarO 15) shD) aNil)) viewD) aNil)))))) Ow.d)))))))))))))) (envOf 12 ds)) := runB_fin _ _ _
theorem run__law_row (m : Nat → List PyData → R Ow) (ds : List PyData) : runB 1 (b__law_row m) ds = finR (((sSeq (sFor (eB (eDictIx (eVar 0) (eVar 1)) itD) (gtName 3)
    (sIf (eB (eBin gEq (eBin gIx (eVar 3) (eC (.int 0))) (eVar 2)) asB)
    (sRet (eM (eBin gIx (eVar 3) (eC (.int 1))) Ow.d))
    sSkip))
    (sRet (eM (eC .none) Ow.d)))) (envOf 1 ds)) := runB_fin _ _ _
theorem run__law_fits (m : Nat → List PyData → R Ow) (ds : List PyData) : runB 1 (b__law_fits m) ds = finR (((sSeq (sSet 3 (eM (eM (eB (aCons (eVar 0) (aCons (eVar 1) (aCons (eBin gIx (eVar 2) (eC (.int 0))) aNil))) (m 18)) viewD) Ow.d))
    (sRet (eM (eAnd (eBin gNotN (eVar 3) (eC .none)) (eBin gEq (eM (eCa gLen (aCons (eVar 3) aNil)) viewD) (eBin gIx (eVar 2) (eC (.int 2))))) Ow.d)))) (envOf 1 ds)) := runB_fin _ _ _
theorem run__law_whole (m : Nat → List PyData → R Ow) (ds : List PyData) : runB 0 (b__law_whole m) ds = finR (((sRet (eM (eAnd (eB (eVar 0) (gIsi "int")) (eNot (eB (eVar 0) (gIsi "bool")))) Ow.d))) (envOf 0 ds)) := runB_fin _ _ _
theorem run__law_of_kind (m : Nat → List PyData → R Ow) (ds : List PyData) : runB 2 (b__law_of_kind m) ds = finR (((sSeq (sIf (tNotE (eB (eM (eB (aCons (eVar 0) (aCons (eVar 1) (aCons (eTup (aCons (eBin gIx (eVar 2) (eC (.int 1))) (aCons (eC (.int 0)) (aCons (eM (eCa gLen (aCons (eBin gIx (eVar 2) (eC (.int 4))) aNil)) viewD) aNil)))) aNil))) (m 19)) viewD) asB))
    (sRet (eM (eC (.bool false)) Ow.d))
    sSkip)
    (sSeq (sFor (eB (aCons (eM (eB (aCons (eVar 0) (aCons (eVar 1) (aCons (eBin gIx (eVar 2) (eC (.int 1))) aNil))) (m 18)) viewD) (aCons (eBin gIx (eVar 2) (eC (.int 4))) aNil)) zpArg) (gtTup 2 (gtCons (gtName 3) (gtCons (gtName 4) gtNil)))
    (sIf (tNotE (eB (eM (eB (aCons (eVar 0) (aCons (eVar 3) (aCons (eVar 4) aNil))) (m 21)) viewD) asB))
    (sRet (eM (eC (.bool false)) Ow.d))
    sSkip))
    (sRet (eM (eC (.bool true)) Ow.d))))) (envOf 2 ds)) := runB_fin _ _ _
theorem run__law_spoiled (m : Nat → List PyData → R Ow) (ds : List PyData) : runB 4 (b__law_spoiled m) ds = finR (((sSeq (sSet 3 (eM (eBin gIx (eVar 1) (eC (.int 4))) Ow.d))
    (sSeq (sIf (tAndE (eB (eBin gNe (eVar 3) (eTup aNil)) asB) (eB (eBin gGt (eBin gMod (eVar 2) (eC (.int 3))) (eC (.int 0))) asB))
    (sSeq (sSet 4 (eM (eBin gMod (eBin gDiv (eVar 2) (eC (.int 3))) (eM (eCa gLen (aCons (eVar 3) aNil)) viewD)) Ow.d))
    (sSeq (sSet 5 (eM (eM (eB (aCons (eVar 0) (aCons (eBin gIx (eVar 3) (eVar 4)) (aCons (eBin gDiv (eVar 2) (eC (.int 7))) aNil))) (m 22)) viewD) Ow.d))
    (sRet (eBinO gAdd (eB (eSl (eVar 1) oNone (eB (eC (.int 4)) asI)) shD) (eTup (aCons (eM (eBinO gAdd (eB (eBinO gAdd (eB (eSl (eVar 3) oNone (eB (eVar 4) asI)) shD) (eTup (aCons (eVar 5) aNil))) shD) (eB (eSl (eVar 3) (eB (eM (eBinO gAdd (eVar 4) (eC (.int 1))) viewD) asI) oNone) shD)) viewD) aNil))))))
    sSkip)
    (sSeq (sSet 6 (eM (eBin gIx (eVar 0) (eBin gMod (eBin gDiv (eVar 2) (eC (.int 64))) (eC (.int 8)))) Ow.d))
    (sSeq (sIf (eB (eBin gEq (eBin gMod (eBin gDiv (eVar 2) (eC (.int 16))) (eC (.int 4))) (eC (.int 0))) asB)
    (sRet (eM (eTup (aCons (eC (.str "put")) (aCons (eVar 6) (aCons (eC (.bool false)) (aCons (eC (.int 0)) (aCons (eVar 3) aNil)))))) Ow.d))
    sSkip)
    (sSeq (sIf (eB (eBin gEq (eBin gMod (eBin gDiv (eVar 2) (eC (.int 16))) (eC (.int 4))) (eC (.int 1))) asB)
    (sRet (eBinO gAdd (eB (eSl (eVar 1) oNone (eB (eC (.int 4)) asI)) shD) (eTup (aCons (eM (eBinO gAdd (eVar 3) (eTup (aCons (eTup (aCons (eC (.str "put")) (aCons (eVar 6) (aCons (eC (.bool false)) (aCons (eC (.int 0)) (aCons (eTup aNil) aNil)))))) aNil))) viewD) aNil))))
    sSkip)
    (sSeq (sIf (eB (eBin gEq (eBin gMod (eBin gDiv (eVar 2) (eC (.int 16))) (eC (.int 4))) (eC (.int 2))) asB)
    (sRet (eBinO gAdd (eB (eSl (eVar 1) oNone (eB (eC (.int 4)) asI)) shD) (eTup (aCons (eM (eSl (eVar 3) (eB (eC (.int 1)) asI) oNone) viewD) aNil))))
    sSkip)
    (sRet (eBinO gAdd (eB (eSl (eVar 1) oNone (eB (eC (.int 4)) asI)) shD) (eTup (aCons (eM (eRevA (eVar 3)) viewD) aNil))))))))))) (envOf 4 ds)) := runB_fin _ _ _
theorem run__law_wrong_at (m : Nat → List PyData → R Ow) (ds : List PyData) : runB 2 (b__law_wrong_at m) ds = finR (((sSeq (sIf (tNotE (eB (eB (eVar 2) (gIsi "tuple")) asB))
    (sRet (eM (eC (.bool false)) Ow.d))
    sSkip)
    (sSeq (sSet 3 (eM (eBin gIx (eBin gIx (eVar 0) (eC (.int 0))) (eC (.int 0))) Ow.d))
    (sSeq (sFor (eB (eVar 2) itD) (gtName 4)
    (sSeq (sIf (tOrE (tNotE (eB (eM (eB (aCons (eVar 4) aNil) (m 20)) viewD) asB)) (tOrE (eB (eBin gLt (eVar 4) (eC (.int 0))) asB) (eB (eBin gGe (eVar 4) (eM (eCa gLen (aCons (eBin gIx (eVar 1) (eC (.int 4))) aNil)) viewD)) asB)))
    (sRet (eM (eC (.bool false)) Ow.d))
    sSkip)
    (sSeq (sIf (tNotE (eB (eM (eB (aCons (eVar 0) (aCons (eVar 3) (aCons (eTup (aCons (eBin gIx (eVar 1) (eC (.int 1))) (aCons (eC (.int 0)) (aCons (eM (eCa gLen (aCons (eBin gIx (eVar 1) (eC (.int 4))) aNil)) viewD) aNil)))) aNil))) (m 19)) viewD) asB))
    (sRet (eM (eC (.bool false)) Ow.d))
    sSkip)
    (sSeq (sSet 3 (eM (eBin gIx (eB (eB (aCons (eVar 0) (aCons (eVar 3) (aCons (eBin gIx (eVar 1) (eC (.int 1))) aNil))) (m 18)) shD) (eVar 4)) Ow.d))
    (sSet 1 (eM (eBin gIx (eBin gIx (eVar 1) (eC (.int 4))) (eVar 4)) Ow.d))))))
    (sRet (eM (eNot (eM (eB (aCons (eVar 0) (aCons (eVar 3) (aCons (eTup (aCons (eBin gIx (eVar 1) (eC (.int 1))) (aCons (eC (.int 0)) (aCons (eM (eCa gLen (aCons (eBin gIx (eVar 1) (eC (.int 4))) aNil)) viewD) aNil)))) aNil))) (m 19)) viewD)) Ow.d)))))) (envOf 2 ds)) := runB_fin _ _ _
theorem run_law (m : Nat → List PyData → R Ow) (ds : List PyData) : runB 10 (b_law m) ds = finR (((sSeq (sSet 1 (eM (eM (eB (aCons (eM (eB (aCons (eVar 0) (aCons (eC (.int 0)) aNil)) (m 12)) viewD) aNil) (m 14)) viewD) Ow.d))
    (sSeq (sSet 2 (eM (eM (eB (aCons (eM (eB (aCons (eVar 0) (aCons (eC (.int 1)) aNil)) (m 12)) viewD) (aCons (eVar 1) aNil)) (m 16)) viewD) Ow.d))
    (sSeq (sSet 3 (eM (eM (eB (aCons (eM (eB (aCons (eVar 0) (aCons (eC (.int 2)) aNil)) (m 12)) viewD) (aCons (eVar 1) aNil)) (m 16)) viewD) Ow.d))
    (sSeq (sSet 4 (eM (eM (eB (aCons (eM (eB (aCons (eVar 0) (aCons (eC (.int 3)) aNil)) (m 12)) viewD) (aCons (eC (.int 0)) (aCons (eC (.int 3)) (aCons (eBin gIx (eBin gIx (eVar 3) (eC (.int 0))) (eC (.int 0))) (aCons (eVar 3) (aCons (eM (eLst aNil) viewD) (aCons (eC (.bool false)) aNil))))))) (m 17)) viewD) Ow.d))
    (sSeq (sIf (eB (eBin gGt (eBin gMod (eM (eB (aCons (eVar 0) (aCons (eC (.int 4)) aNil)) (m 12)) viewD) (eC (.int 3))) (eC (.int 0))) asB)
    (sSet 4 (eM (eM (eB (aCons (eVar 1) (aCons (eVar 4) (aCons (eM (eB (aCons (eM (eB (aCons (eVar 0) (aCons (eC (.int 4)) aNil)) (m 12)) viewD) (aCons (eC (.int 6)) aNil)) (m 13)) viewD) aNil))) (m 22)) viewD) Ow.d))
    sSkip)
    (sSeq (sSet 5 (eM (eTup (aCons (eM (eLc (eB (eVar 2) itD) (gtTup 2 (gtCons (gtName 6) (gtCons (gtName 7) gtNil))) cYes (eM (eTup (aCons (eVar 6) (aCons (eM (eCa gList (aCons (eVar 7) aNil)) viewD) aNil))) Ow.d) (List.map (·.2) ([("_law_kind", 6), ("_law_rows", 7)] : List (Str × Nat)))) viewD) (aCons (eVar 4) (aCons (eM (eLst aNil) viewD) aNil)))) Ow.d))
    (sSeq (sSet 8 (eM (eM (eLc (eB (eVar 3) itD) (gtTup 2 (gtCons (gtName 6) (gtCons (gtName 7) gtNil))) cYes (eM (eTup (aCons (eVar 6) (aCons (eM (eCa gList (aCons (eVar 7) aNil)) viewD) aNil))) Ow.d) (List.map (·.2) ([("_law_kind", 6), ("_law_rows", 7)] : List (Str × Nat)))) viewD) Ow.d))
    (sSeq (sSet 9 (eM (eM (eB (aCons (eVar 5) (aCons (eVar 8) aNil)) (m 11)) viewD) Ow.d))
    (sSeq (sIf (tOrE (eB (eBin gNe (eVar 5) (eTup (aCons (eVar 2) (aCons (eVar 4) (aCons (eM (eLst aNil) viewD) aNil))))) asB) (eB (eBin gNe (eVar 8) (eVar 3)) asB))
    (sRet (eM (eC (.bool false)) Ow.d))
    sSkip)
    (sSeq (sIf (eB (eM (eB (aCons (eVar 3) (aCons (eBin gIx (eBin gIx (eVar 3) (eC (.int 0))) (eC (.int 0))) (aCons (eVar 4) aNil))) (m 21)) viewD) asB)
    (sRet (eM (eBin gIsN (eVar 9) (eC .none)) Ow.d))
    sSkip)
    (sSeq (sIf (tOrE (tNotE (eB (eB (eVar 9) (gIsi "tuple")) asB)) (tOrE (eB (eBin gNe (eM (eCa gLen (aCons (eVar 9) aNil)) viewD) (eC (.int 2))) asB) (tNotE (eB (eM (eB (aCons (eVar 3) (aCons (eVar 4) (aCons (eBin gIx (eVar 9) (eC (.int 1))) aNil))) (m 23)) viewD) asB))))
    (sRet (eM (eC (.bool false)) Ow.d))
    sSkip)
    (sSeq (sSet 10 (eM (eBin gIx (eVar 9) (eC (.int 0))) Ow.d))
    (sSeq (sIf (tOrE (tNotE (eB (eB (eVar 10) (gIsi "tuple")) asB)) (tOrE (eB (eBin gNe (eM (eCa gLen (aCons (eVar 10) aNil)) viewD) (eC (.int 3))) asB) (tOrE (tNotE (eB (eB (eBin gIx (eVar 10) (eC (.int 0))) (gIsi "str")) asB)) (tNotE (eB (eM (eB (aCons (eBin gIx (eVar 10) (eC (.int 1))) aNil) (m 20)) viewD) asB)))))
    (sRet (eM (eC (.bool false)) Ow.d))
    sSkip)
    (sRet (eM (eAnd (eBin gEq (eBin gIx (eVar 10) (eC (.int 2))) (eTup aNil)) (eBin gEq (eM (eB (aCons (eVar 2) (aCons (eBin gIx (eBin gIx (eVar 2) (eC (.int 0))) (eC (.int 0))) (aCons (eBin gIx (eVar 10) (eC (.int 0))) aNil))) (m 18)) viewD) (eTup aNil))) Ow.d)))))))))))))))) (envOf 10 ds)) := runB_fin _ _ _
abbrev N_rows_of : List Str := ["wood", "kind", "told", "rows"]
theorem sc_rows_of : FnScope N_rows_of ["wood", "kind"] (defScope s_rows_of) := ⟨rfl, rfl, rfl, by decide +kernel, rfl, by decide +kernel, by decide +kernel⟩
abbrev N_row_of : List Str := ["wood", "kind", "name", "told", "branches"]
theorem sc_row_of : FnScope N_row_of ["wood", "kind", "name"] (defScope s_row_of) := ⟨rfl, rfl, rfl, by decide +kernel, rfl, by decide +kernel, by decide +kernel⟩
abbrev N_leaf_of : List Str := ["wood", "kind", "bare", "name", "branches"]
theorem sc_leaf_of : FnScope N_leaf_of ["wood", "kind"] (defScope s_leaf_of) := ⟨rfl, rfl, rfl, by decide +kernel, rfl, by decide +kernel, by decide +kernel⟩
abbrev N_demands : List Str := ["term", "kind", "wood", "place", "row", "found", "k", "part"]
theorem sc_demands : FnScope N_demands ["term", "kind", "wood", "place"] (defScope s_demands) := ⟨rfl, rfl, rfl, by decide +kernel, rfl, by decide +kernel, by decide +kernel⟩
abbrev N_pair_of : List Str := ["demand"]
theorem sc_pair_of : FnScope N_pair_of ["demand"] (defScope s_pair_of) := ⟨rfl, rfl, rfl, by decide +kernel, rfl, by decide +kernel, by decide +kernel⟩
abbrev N_choices_of : List Str := ["turning", "wood", "pair", "kind", "rules", "found", "row", "rule", "demand"]
theorem sc_choices_of : FnScope N_choices_of ["turning", "wood", "pair"] (defScope s_choices_of) := ⟨rfl, rfl, rfl, by decide +kernel, rfl, by decide +kernel, by decide +kernel⟩
abbrev N_all_choices : List Str := ["turning", "wood", "found", "first", "todo", "demand", "pair", "row"]
theorem sc_all_choices : FnScope N_all_choices ["turning", "wood"] (defScope s_all_choices) := ⟨rfl, rfl, rfl, by decide +kernel, rfl, by decide +kernel, by decide +kernel⟩
abbrev N_wrong_within : List Str := ["choices", "best", "many", "row", "demand"]
theorem sc_wrong_within : FnScope N_wrong_within ["choices", "best", "many"] (defScope s_wrong_within) := ⟨rfl, rfl, rfl, by decide +kernel, rfl, by decide +kernel, by decide +kernel⟩
abbrev N_wrongs : List Str := ["turning", "wood", "choices", "best", "many", "more", "fresh", "pair", "found"]
theorem sc_wrongs : FnScope N_wrongs ["turning", "wood"] (defScope s_wrongs) := ⟨rfl, rfl, rfl, by decide +kernel, rfl, by decide +kernel, by decide +kernel⟩
abbrev N_first_wrong : List Str := ["turning", "wood", "best", "found", "demand", "pair"]
theorem sc_first_wrong : FnScope N_first_wrong ["turning", "wood", "best"] (defScope s_first_wrong) := ⟨rfl, rfl, rfl, by decide +kernel, rfl, by decide +kernel, by decide +kernel⟩
abbrev N_wrong_tree : List Str := ["turning", "best", "pair", "row", "demand", "branches", "kind", "place", "below", "where"]
theorem sc_wrong_tree : FnScope N_wrong_tree ["turning", "best", "pair"] (defScope s_wrong_tree) := ⟨rfl, rfl, rfl, by decide +kernel, rfl, by decide +kernel, by decide +kernel⟩
abbrev N_strays : List Str := ["turning", "wood", "best", "found", "tree", "where"]
theorem sc_strays : FnScope N_strays ["turning", "wood"] (defScope s_strays) := ⟨rfl, rfl, rfl, by decide +kernel, rfl, by decide +kernel, by decide +kernel⟩
abbrev N__law_cell_at : List Str := ["_law_script", "_law_k"]
theorem sc__law_cell_at : FnScope N__law_cell_at ["_law_script", "_law_k"] (defScope s__law_cell_at) := ⟨rfl, rfl, rfl, by decide +kernel, rfl, by decide +kernel, by decide +kernel⟩
abbrev N__law_mixed : List Str := ["_law_cell", "_law_k", "_law_number"]
theorem sc__law_mixed : FnScope N__law_mixed ["_law_cell", "_law_k"] (defScope s__law_mixed) := ⟨rfl, rfl, rfl, by decide +kernel, rfl, by decide +kernel, by decide +kernel⟩
abbrev N__law_names : List Str := ["_law_cell", "_law_letters", "_law_base", "_law_j", "_law_k", "_law_width", "_law_spot", "_law_names_here", "_law_moved"]
theorem sc__law_names : FnScope N__law_names ["_law_cell"] (defScope s__law_names) := ⟨rfl, rfl, rfl, by decide +kernel, rfl, by decide +kernel, by decide +kernel⟩
abbrev N__law_great : List Str := ["_law_cell"]
theorem sc__law_great : FnScope N__law_great ["_law_cell"] (defScope s__law_great) := ⟨rfl, rfl, rfl, by decide +kernel, rfl, by decide +kernel, by decide +kernel⟩
abbrev N__law_wood : List Str := ["_law_cell", "_law_names_here", "_law_kinds", "_law_wood_here", "_law_i", "_law_first", "_law_rows", "_law_r", "_law_number", "_law_wide", "_law_branches", "_law_j"]
theorem sc__law_wood : FnScope N__law_wood ["_law_cell", "_law_names_here"] (defScope s__law_wood) := ⟨rfl, rfl, rfl, by decide +kernel, rfl, by decide +kernel, by decide +kernel⟩
abbrev N__law_typed : List Str := ["_law_cell", "_law_k", "_law_deep", "_law_kind", "_law_wood_here", "_law_calls", "_law_keep", "_law_number", "_law_fit", "_law_call", "_law_rows", "_law_row_here", "_law_full", "_law_name", "_law_branches", "_law_parts", "_law_j", "_law_kept", "_law_add"]
theorem sc__law_typed : FnScope N__law_typed ["_law_cell", "_law_k", "_law_deep", "_law_kind", "_law_wood_here", "_law_calls", "_law_keep"] (defScope s__law_typed) := ⟨rfl, rfl, rfl, by decide +kernel, rfl, by decide +kernel, by decide +kernel⟩
abbrev N__law_row : List Str := ["_law_wood_here", "_law_kind", "_law_name", "_law_row_here"]
theorem sc__law_row : FnScope N__law_row ["_law_wood_here", "_law_kind", "_law_name"] (defScope s__law_row) := ⟨rfl, rfl, rfl, by decide +kernel, rfl, by decide +kernel, by decide +kernel⟩
abbrev N__law_fits : List Str := ["_law_wood_here", "_law_kind", "_law_label", "_law_row_here"]
theorem sc__law_fits : FnScope N__law_fits ["_law_wood_here", "_law_kind", "_law_label"] (defScope s__law_fits) := ⟨rfl, rfl, rfl, by decide +kernel, rfl, by decide +kernel, by decide +kernel⟩
abbrev N__law_whole : List Str := ["_law_found"]
theorem sc__law_whole : FnScope N__law_whole ["_law_found"] (defScope s__law_whole) := ⟨rfl, rfl, rfl, by decide +kernel, rfl, by decide +kernel, by decide +kernel⟩
abbrev N__law_of_kind : List Str := ["_law_wood_here", "_law_kind", "_law_term", "_law_branch", "_law_part"]
theorem sc__law_of_kind : FnScope N__law_of_kind ["_law_wood_here", "_law_kind", "_law_term"] (defScope s__law_of_kind) := ⟨rfl, rfl, rfl, by decide +kernel, rfl, by decide +kernel, by decide +kernel⟩
abbrev N__law_spoiled : List Str := ["_law_names_here", "_law_term", "_law_number", "_law_parts", "_law_k", "_law_inner", "_law_name"]
theorem sc__law_spoiled : FnScope N__law_spoiled ["_law_names_here", "_law_term", "_law_number"] (defScope s__law_spoiled) := ⟨rfl, rfl, rfl, by decide +kernel, rfl, by decide +kernel, by decide +kernel⟩
abbrev N__law_wrong_at : List Str := ["_law_wood_here", "_law_term", "_law_found", "_law_kind", "_law_k"]
theorem sc__law_wrong_at : FnScope N__law_wrong_at ["_law_wood_here", "_law_term", "_law_found"] (defScope s__law_wrong_at) := ⟨rfl, rfl, rfl, by decide +kernel, rfl, by decide +kernel, by decide +kernel⟩
abbrev N_law : List Str := ["_law_script", "_law_names_here", "_law_wood_here", "_law_out", "_law_start", "_law_handed", "_law_kind", "_law_rows", "_law_other", "_law_found", "_law_tree"]
theorem sc_law : FnScope N_law ["_law_script"] (defScope s_law) := ⟨rfl, rfl, rfl, by decide +kernel, rfl, by decide +kernel, by decide +kernel⟩
structure Txt (K : PySem.W.Frag) (mg : Str → Option Value) (f : Nat → Addr) (fd : Nat → FuncData) (cl : Nat → Addr) : Prop where
  F_rows_of : Fun K "rows_of" "rows_of" s_rows_of (f 0) (fd 0)
  B_rows_of : Binds K (fd 0) ["wood", "kind"] []
  M_rows_of : mg "rows_of" = some (.ref (f 0))
  F_row_of : Fun K "row_of" "row_of" s_row_of (f 1) (fd 1)
  B_row_of : Binds K (fd 1) ["wood", "kind", "name"] []
  M_row_of : mg "row_of" = some (.ref (f 1))
  F_leaf_of : Fun K "leaf_of" "leaf_of" s_leaf_of (f 2) (fd 2)
  B_leaf_of : Binds K (fd 2) ["wood", "kind"] []
  M_leaf_of : mg "leaf_of" = some (.ref (f 2))
  F_demands : Fun K "demands" "demands" s_demands (f 3) (fd 3)
  B_demands : Binds K (fd 3) ["term", "kind", "wood", "place"] []
  M_demands : mg "demands" = some (.ref (f 3))
  F_pair_of : Fun K "pair_of" "pair_of" s_pair_of (f 4) (fd 4)
  B_pair_of : Binds K (fd 4) ["demand"] []
  M_pair_of : mg "pair_of" = some (.ref (f 4))
  F_choices_of : Fun K "choices_of" "choices_of" s_choices_of (f 5) (fd 5)
  B_choices_of : Binds K (fd 5) ["turning", "wood", "pair"] []
  M_choices_of : mg "choices_of" = some (.ref (f 5))
  F_all_choices : Fun K "all_choices" "all_choices" s_all_choices (f 6) (fd 6)
  B_all_choices : Binds K (fd 6) ["turning", "wood"] []
  M_all_choices : mg "all_choices" = some (.ref (f 6))
  F_wrong_within : Fun K "wrong_within" "wrong_within" s_wrong_within (f 7) (fd 7)
  B_wrong_within : Binds K (fd 7) ["choices", "best", "many"] []
  M_wrong_within : mg "wrong_within" = some (.ref (f 7))
  F_wrongs : Fun K "wrongs" "wrongs" s_wrongs (f 8) (fd 8)
  B_wrongs : Binds K (fd 8) ["turning", "wood"] []
  M_wrongs : mg "wrongs" = some (.ref (f 8))
  F_first_wrong : Fun K "first_wrong" "first_wrong" s_first_wrong (f 9) (fd 9)
  B_first_wrong : Binds K (fd 9) ["turning", "wood", "best"] []
  M_first_wrong : mg "first_wrong" = some (.ref (f 9))
  F_wrong_tree : Fun K "wrong_tree" "wrong_tree" s_wrong_tree (f 10) (fd 10)
  B_wrong_tree : Binds K (fd 10) ["turning", "best", "pair"] []
  M_wrong_tree : mg "wrong_tree" = some (.ref (f 10))
  F_strays : Fun K "strays" "strays" s_strays (f 11) (fd 11)
  B_strays : Binds K (fd 11) ["turning", "wood"] []
  M_strays : mg "strays" = some (.ref (f 11))
  F__law_cell_at : Fun K "_law_cell_at" "_law_cell_at" s__law_cell_at (f 12) (fd 12)
  B__law_cell_at : Binds K (fd 12) ["_law_script", "_law_k"] []
  M__law_cell_at : mg "_law_cell_at" = some (.ref (f 12))
  F__law_mixed : Fun K "_law_mixed" "_law_mixed" s__law_mixed (f 13) (fd 13)
  B__law_mixed : Binds K (fd 13) ["_law_cell", "_law_k"] []
  M__law_mixed : mg "_law_mixed" = some (.ref (f 13))
  F__law_names : Fun K "_law_names" "_law_names" s__law_names (f 14) (fd 14)
  B__law_names : Binds K (fd 14) ["_law_cell"] []
  M__law_names : mg "_law_names" = some (.ref (f 14))
  F__law_great : Fun K "_law_great" "_law_great" s__law_great (f 15) (fd 15)
  B__law_great : Binds K (fd 15) ["_law_cell"] []
  M__law_great : mg "_law_great" = some (.ref (f 15))
  F__law_wood : Fun K "_law_wood" "_law_wood" s__law_wood (f 16) (fd 16)
  B__law_wood : Binds K (fd 16) ["_law_cell", "_law_names_here"] []
  M__law_wood : mg "_law_wood" = some (.ref (f 16))
  F__law_typed : Fun K "_law_typed" "_law_typed" s__law_typed (f 17) (fd 17)
  B__law_typed : Binds K (fd 17) ["_law_cell", "_law_k", "_law_deep", "_law_kind", "_law_wood_here", "_law_calls", "_law_keep"] []
  M__law_typed : mg "_law_typed" = some (.ref (f 17))
  F__law_row : Fun K "_law_row" "_law_row" s__law_row (f 18) (fd 18)
  B__law_row : Binds K (fd 18) ["_law_wood_here", "_law_kind", "_law_name"] []
  M__law_row : mg "_law_row" = some (.ref (f 18))
  F__law_fits : Fun K "_law_fits" "_law_fits" s__law_fits (f 19) (fd 19)
  B__law_fits : Binds K (fd 19) ["_law_wood_here", "_law_kind", "_law_label"] []
  M__law_fits : mg "_law_fits" = some (.ref (f 19))
  F__law_whole : Fun K "_law_whole" "_law_whole" s__law_whole (f 20) (fd 20)
  B__law_whole : Binds K (fd 20) ["_law_found"] []
  M__law_whole : mg "_law_whole" = some (.ref (f 20))
  F__law_of_kind : Fun K "_law_of_kind" "_law_of_kind" s__law_of_kind (f 21) (fd 21)
  B__law_of_kind : Binds K (fd 21) ["_law_wood_here", "_law_kind", "_law_term"] []
  M__law_of_kind : mg "_law_of_kind" = some (.ref (f 21))
  F__law_spoiled : Fun K "_law_spoiled" "_law_spoiled" s__law_spoiled (f 22) (fd 22)
  B__law_spoiled : Binds K (fd 22) ["_law_names_here", "_law_term", "_law_number"] []
  M__law_spoiled : mg "_law_spoiled" = some (.ref (f 22))
  F__law_wrong_at : Fun K "_law_wrong_at" "_law_wrong_at" s__law_wrong_at (f 23) (fd 23)
  B__law_wrong_at : Binds K (fd 23) ["_law_wood_here", "_law_term", "_law_found"] []
  M__law_wrong_at : mg "_law_wrong_at" = some (.ref (f 23))
  F_law : Fun K "law" "law" s_law (f 24) (fd 24)
  B_law : Binds K (fd 24) ["_law_script"] []
  M_law : mg "law" = some (.ref (f 24))
  z_bool : mg "bool" = none
  z_dict : mg "dict" = none
  z_enumerate : mg "enumerate" = none
  z_int : mg "int" = none
  z_isinstance : mg "isinstance" = none
  z_len : mg "len" = none
  z_list : mg "list" = none
  z_range : mg "range" = none
  z_sorted : mg "sorted" = none
  z_str : mg "str" = none
  z_tuple : mg "tuple" = none
  z_zip : mg "zip" = none
  cx_TooGreat : ExcT K mg "TooGreat" (cl 0)
structure Fns (P : Program) (w : World) (K : PySem.W.Frag) (mg : Str → Option Value) (base : Heap) (f : Nat → Addr) (fd : Nat → FuncData) (n : Nat) : Prop where
  g_rows_of : FnOk P w K mg base (L2.CX P w) n (f 0) (fd 0) ["wood", "kind"] (spM ⟨K, w⟩ mg 2 (mir n 0))
  g_row_of : FnOk P w K mg base (L2.CX P w) n (f 1) (fd 1) ["wood", "kind", "name"] (spM ⟨K, w⟩ mg 3 (mir n 1))
  g_leaf_of : FnOk P w K mg base (L2.CX P w) n (f 2) (fd 2) ["wood", "kind"] (spM ⟨K, w⟩ mg 2 (mir n 2))
  g_demands : FnOk P w K mg base (L2.CX P w) n (f 3) (fd 3) ["term", "kind", "wood", "place"] (spM ⟨K, w⟩ mg 4 (mir n 3))
  g_pair_of : FnOk P w K mg base (L2.CX P w) n (f 4) (fd 4) ["demand"] (spM ⟨K, w⟩ mg 1 (mir n 4))
  g_choices_of : FnOk P w K mg base (L2.CX P w) n (f 5) (fd 5) ["turning", "wood", "pair"] (spM ⟨K, w⟩ mg 3 (mir n 5))
  g_all_choices : FnOk P w K mg base (L2.CX P w) n (f 6) (fd 6) ["turning", "wood"] (spM ⟨K, w⟩ mg 2 (mir n 6))
  g_wrong_within : FnOk P w K mg base (L2.CX P w) n (f 7) (fd 7) ["choices", "best", "many"] (spM ⟨K, w⟩ mg 3 (mir n 7))
  g_wrongs : FnOk P w K mg base (L2.CX P w) n (f 8) (fd 8) ["turning", "wood"] (spM ⟨K, w⟩ mg 2 (mir n 8))
  g_first_wrong : FnOk P w K mg base (L2.CX P w) n (f 9) (fd 9) ["turning", "wood", "best"] (spM ⟨K, w⟩ mg 3 (mir n 9))
  g_wrong_tree : FnOk P w K mg base (L2.CX P w) n (f 10) (fd 10) ["turning", "best", "pair"] (spM ⟨K, w⟩ mg 3 (mir n 10))
  g_strays : FnOk P w K mg base (L2.CX P w) n (f 11) (fd 11) ["turning", "wood"] (spM ⟨K, w⟩ mg 2 (mir n 11))
  g__law_cell_at : FnOk P w K mg base (L2.CX P w) n (f 12) (fd 12) ["_law_script", "_law_k"] (spM ⟨K, w⟩ mg 2 (mir n 12))
  g__law_mixed : FnOk P w K mg base (L2.CX P w) n (f 13) (fd 13) ["_law_cell", "_law_k"] (spM ⟨K, w⟩ mg 2 (mir n 13))
  g__law_names : FnOk P w K mg base (L2.CX P w) n (f 14) (fd 14) ["_law_cell"] (spM ⟨K, w⟩ mg 1 (mir n 14))
  g__law_great : FnOk P w K mg base (L2.CX P w) n (f 15) (fd 15) ["_law_cell"] (spM ⟨K, w⟩ mg 1 (mir n 15))
  g__law_wood : FnOk P w K mg base (L2.CX P w) n (f 16) (fd 16) ["_law_cell", "_law_names_here"] (spM ⟨K, w⟩ mg 2 (mir n 16))
  g__law_typed : FnOk P w K mg base (L2.CX P w) n (f 17) (fd 17) ["_law_cell", "_law_k", "_law_deep", "_law_kind", "_law_wood_here", "_law_calls", "_law_keep"] (spM ⟨K, w⟩ mg 7 (mir n 17))
  g__law_row : FnOk P w K mg base (L2.CX P w) n (f 18) (fd 18) ["_law_wood_here", "_law_kind", "_law_name"] (spM ⟨K, w⟩ mg 3 (mir n 18))
  g__law_fits : FnOk P w K mg base (L2.CX P w) n (f 19) (fd 19) ["_law_wood_here", "_law_kind", "_law_label"] (spM ⟨K, w⟩ mg 3 (mir n 19))
  g__law_whole : FnOk P w K mg base (L2.CX P w) n (f 20) (fd 20) ["_law_found"] (spM ⟨K, w⟩ mg 1 (mir n 20))
  g__law_of_kind : FnOk P w K mg base (L2.CX P w) n (f 21) (fd 21) ["_law_wood_here", "_law_kind", "_law_term"] (spM ⟨K, w⟩ mg 3 (mir n 21))
  g__law_spoiled : FnOk P w K mg base (L2.CX P w) n (f 22) (fd 22) ["_law_names_here", "_law_term", "_law_number"] (spM ⟨K, w⟩ mg 3 (mir n 22))
  g__law_wrong_at : FnOk P w K mg base (L2.CX P w) n (f 23) (fd 23) ["_law_wood_here", "_law_term", "_law_found"] (spM ⟨K, w⟩ mg 3 (mir n 23))
  g_law : FnOk P w K mg base (L2.CX P w) n (f 24) (fd 24) ["_law_script"] (spM ⟨K, w⟩ mg 1 (mir n 24))
section
variable {P : Program} {w : World} {K : PySem.W.Frag} {mg : Str → Option Value} {base : Heap} {f : Nat → Addr} {fd : Nat → FuncData} {cl : Nat → Addr} {n : Nat}
theorem ok_rows_of (T : Txt K mg f fd cl) (G : Fns P w K mg base f fd n) : FnOk P w K mg base (L2.CX P w) (n + 1) (f 0) (fd 0) ["wood", "kind"] (spM ⟨K, w⟩ mg 2 (mir (n + 1) 0)) :=
  mk_fn (l := 2) (fb := b_rows_of (mir n)) T.F_rows_of sc_rows_of rfl (fun _ => rfl) fun cdv A outer s H E hr =>
    (dss_cons (ds_for (ix := [2, 3]) (passes_of rfl) rfl (di_seq (df_var 0)) (dg_tup (n := 2) rfl (dgs_cons (dg_name 2 sc_rows_of.nd) (dgs_cons (dg_name 3 sc_rows_of.nd) dgs_nil)))
    (dss_one (ds_if (dt_eq (room_eq hr) (dv_df (df_var 2)) (dv_df (df_var 1)))
    (dss_one (ds_ret (de_df (df_var 3))))
    dss_nil)))
    (dss_one (ds_ret (de_lst da_nil))))
theorem ok_row_of (T : Txt K mg f fd cl) (G : Fns P w K mg base f fd n) : FnOk P w K mg base (L2.CX P w) (n + 1) (f 1) (fd 1) ["wood", "kind", "name"] (spM ⟨K, w⟩ mg 3 (mir (n + 1) 1)) :=
  mk_fn (l := 2) (fb := b_row_of (mir n)) T.F_row_of sc_row_of rfl (fun _ => rfl) fun cdv A outer s H E hr =>
    (dss_cons (ds_for (ix := [3, 4]) (passes_of rfl) rfl (di_seq (df_de (de_call G.g_rows_of (takes_of rfl rfl rfl rfl) hr rfl T.M_rows_of T.F_rows_of.kp T.B_rows_of (da_cons (df_var 0) (da_cons (df_var 1) da_nil)) (aCons_len (aCons_len (fun _ _ h => aNil_len h)))))) (dg_tup (n := 2) rfl (dgs_cons (dg_name 3 sc_row_of.nd) (dgs_cons (dg_name 4 sc_row_of.nd) dgs_nil)))
    (dss_one (ds_if (dt_eq (room_eq hr) (dv_df (df_var 3)) (dv_df (df_var 2)))
    (dss_one (ds_ret (de_df (df_var 4))))
    dss_nil)))
    (dss_one (ds_ret (de_df df_non))))
theorem ok_leaf_of (T : Txt K mg f fd cl) (G : Fns P w K mg base f fd n) : FnOk P w K mg base (L2.CX P w) (n + 1) (f 2) (fd 2) ["wood", "kind"] (spM ⟨K, w⟩ mg 2 (mir (n + 1) 2)) :=
  mk_fn (l := 3) (fb := b_leaf_of (mir n)) T.F_leaf_of sc_leaf_of rfl (fun _ => rfl) fun cdv A outer s H E hr =>
    (dss_cons (ds_setLcF 2 (own := [("name", 3), ("branches", 4)]) (ix := [3, 4]) rfl sc_leaf_of.nd (di_seq (df_de (de_call G.g_rows_of (takes_of rfl rfl rfl rfl) hr rfl T.M_rows_of T.F_rows_of.kp T.B_rows_of (da_cons (df_var 0) (da_cons (df_var 1) da_nil)) (aCons_len (aCons_len (fun _ _ h => aNil_len h)))))) (blkOk_by (N := N_leaf_of) (sc := defScope s_leaf_of) (by decide +kernel)) (fun _ _ _ _ _ => (dg_tup (n := 2) rfl (dgs_cons (dg_name 3 sc_leaf_of.nd) (dgs_cons (dg_name 4 sc_leaf_of.nd) dgs_nil)))) (fun _ _ _ _ _ => (dts_one (dt_eq (room_eq hr) (dv_df (df_var 4)) (dv_df (df_tup da_nil))))) (fun _ _ _ _ _ => (de_df (df_var 3))))
    (dss_one (ds_ret (de_df (df_tup (da_cons (df_ix (dl_df (df_var 2)) (dv_df df_int)) (da_cons df_int (da_cons (df_tup da_nil) da_nil))))))))
theorem ok_demands (T : Txt K mg f fd cl) (G : Fns P w K mg base f fd n) : FnOk P w K mg base (L2.CX P w) (n + 1) (f 3) (fd 3) ["term", "kind", "wood", "place"] (spM ⟨K, w⟩ mg 4 (mir (n + 1) 3)) :=
  mk_fn (l := 4) (fb := b_demands (mir n)) T.F_demands sc_demands rfl (fun _ => rfl) fun cdv A outer s H E hr =>
    (dss_cons (ds_if (dt_eq (room_eq hr) (dv_df (df_ix (dl_df (df_var 0)) (dv_df df_int))) (dv_df df_str))
    (dss_one (ds_ret (de_lst (da_cons (df_tup (da_cons (df_var 3) (da_cons (df_var 0) (da_cons (df_var 1) da_nil)))) da_nil))))
    dss_nil)
    (dss_cons (ds_set 4 sc_demands.nd (de_df (df_de (de_call G.g_row_of (takes_of rfl rfl rfl rfl) hr rfl T.M_row_of T.F_row_of.kp T.B_row_of (da_cons (df_var 2) (da_cons (df_var 1) (da_cons (df_ix (dl_df (df_var 0)) (dv_df df_int)) da_nil))) (aCons_len (aCons_len (aCons_len (fun _ _ h => aNil_len h))))))))
    (dss_cons (ds_if (dt_dw (dw_or (dt_isN (dv_df (df_var 4)) (dv_df df_non)) (dw_or1 (dt_ne (room_eq hr) (dv_de (de_len rfl T.z_len (dal_cons (dl_df (df_var 4)) dal_nil))) (dv_de (de_len rfl T.z_len (dal_cons (dl_df (df_ix (dl_df (df_var 0)) (dv_df df_int))) dal_nil)))))))
    (dss_one (ds_ret (de_lst (da_cons (df_tup (da_cons (df_var 3) (da_cons df_non (da_cons (df_var 1) da_nil)))) da_nil))))
    dss_nil)
    (dss_cons (ds_set 5 sc_demands.nd (de_lst da_nil))
    (dss_cons (ds_for (ix := [6, 7]) (passes_of rfl) rfl (di_enum rfl T.z_enumerate (da_cons (df_ix (dl_df (df_var 0)) (dv_df df_int)) da_nil)) (dg_tup (n := 2) rfl (dgs_cons (dg_name 6 sc_demands.nd) (dgs_cons (dg_name 7 sc_demands.nd) dgs_nil)))
    (dss_one (ds_ext 5 (dl_de (de_call G.g_demands (takes_of rfl rfl rfl rfl) hr rfl T.M_demands T.F_demands.kp T.B_demands (da_cons (df_var 7) (da_cons (df_ix (dl_df (df_var 4)) (dv_df (df_var 6))) (da_cons (df_var 2) (da_cons (df_de (de_add (dl_df (df_var 3)) (dl_df (df_tup (da_cons (df_var 6) da_nil))))) da_nil)))) (aCons_len (aCons_len (aCons_len (aCons_len (fun _ _ h => aNil_len h))))))))))
    (dss_one (ds_retV 5)))))))
theorem ok_pair_of (T : Txt K mg f fd cl) (G : Fns P w K mg base f fd n) : FnOk P w K mg base (L2.CX P w) (n + 1) (f 4) (fd 4) ["demand"] (spM ⟨K, w⟩ mg 1 (mir (n + 1) 4)) :=
  mk_fn (l := 0) (fb := b_pair_of (mir n)) T.F_pair_of sc_pair_of rfl (fun _ => rfl) fun cdv A outer s H E hr =>
    (dss_one (ds_ret (de_df (df_tup (da_cons (df_ix (dl_df (df_ix (dl_df (df_var 0)) (dv_df df_int))) (dv_df df_int)) (da_cons (df_ix (dl_df (df_var 0)) (dv_df df_int)) da_nil))))))
theorem ok_choices_of (T : Txt K mg f fd cl) (G : Fns P w K mg base f fd n) : FnOk P w K mg base (L2.CX P w) (n + 1) (f 5) (fd 5) ["turning", "wood", "pair"] (spM ⟨K, w⟩ mg 3 (mir (n + 1) 5)) :=
  mk_fn (l := 6) (fb := b_choices_of (mir n)) T.F_choices_of sc_choices_of rfl (fun _ => rfl) fun cdv A outer s H E hr =>
    (dss_cons (ds_asg (ix := [3, 4]) (df_ix (dl_df (df_ix (dl_df (df_var 0)) (dv_df df_int))) (dv_df (df_ix (dl_df (df_var 2)) (dv_df df_int)))) (dg_tup (n := 2) rfl (dgs_cons (dg_name 3 sc_choices_of.nd) (dgs_cons (dg_name 4 sc_choices_of.nd) dgs_nil))))
    (dss_cons (ds_set 5 sc_choices_of.nd (de_lst da_nil))
    (dss_cons (ds_for (ix := [6, 7]) (passes_of rfl) rfl (di_zip rfl T.z_zip (da_cons (df_de (de_call G.g_rows_of (takes_of rfl rfl rfl rfl) hr rfl T.M_rows_of T.F_rows_of.kp T.B_rows_of (da_cons (df_ix (dl_df (df_var 0)) (dv_df df_int)) (da_cons (df_var 3) da_nil)) (aCons_len (aCons_len (fun _ _ h => aNil_len h))))) (da_cons (df_var 4) da_nil))) (dg_tup (n := 2) rfl (dgs_cons (dg_name 6 sc_choices_of.nd) (dgs_cons (dg_name 7 sc_choices_of.nd) dgs_nil)))
    (dss_one (ds_for (ix := [8]) (passes_of rfl) rfl (di_seq (df_de (de_call G.g_demands (takes_of rfl rfl rfl rfl) hr rfl T.M_demands T.F_demands.kp T.B_demands (da_cons (df_var 7) (da_cons (df_ix (dl_df (df_var 2)) (dv_df df_int)) (da_cons (df_var 1) (da_cons (df_tup da_nil) da_nil)))) (aCons_len (aCons_len (aCons_len (aCons_len (fun _ _ h => aNil_len h)))))))) (dg_name 8 sc_choices_of.nd)
    (dss_one (ds_app 5 (de_df (df_tup (da_cons (df_var 6) (da_cons (df_var 8) da_nil)))))))))
    (dss_one (ds_retV 5)))))
theorem ok_all_choices (T : Txt K mg f fd cl) (G : Fns P w K mg base f fd n) : FnOk P w K mg base (L2.CX P w) (n + 1) (f 6) (fd 6) ["turning", "wood"] (spM ⟨K, w⟩ mg 2 (mir (n + 1) 6)) :=
  mk_fn (l := 6) (fb := b_all_choices (mir n)) T.F_all_choices sc_all_choices rfl (fun _ => rfl) fun cdv A outer s H E hr =>
    (dss_cons (ds_set 2 sc_all_choices.nd de_dictNew)
    (dss_cons (ds_set 3 sc_all_choices.nd (de_df (df_de (de_call G.g_demands (takes_of rfl rfl rfl rfl) hr rfl T.M_demands T.F_demands.kp T.B_demands (da_cons (df_ix (dl_df (df_var 0)) (dv_df df_int)) (da_cons (df_ix (dl_df (df_ix (dl_df (df_var 1)) (dv_df df_int))) (dv_df df_int)) (da_cons (df_var 1) (da_cons (df_tup da_nil) da_nil)))) (aCons_len (aCons_len (aCons_len (aCons_len (fun _ _ h => aNil_len h)))))))))
    (dss_cons (ds_setLc 4 (own := [("demand", 5)]) (ix := [5]) rfl sc_all_choices.nd (di_seq (df_var 3)) (blkOk_by (N := N_all_choices) (sc := defScope s_all_choices) (by decide +kernel)) (fun _ _ _ _ _ => (dg_name 5 sc_all_choices.nd)) (fun _ _ _ _ _ => (dts_one (dt_notN (dv_df (df_ix (dl_df (df_var 5)) (dv_df df_int))) (dv_df df_non)))) (fun _ _ _ _ _ => (de_call G.g_pair_of takes0 hr rfl T.M_pair_of T.F_pair_of.kp T.B_pair_of (da_cons (df_var 5) da_nil) (aCons_len (fun _ _ h => aNil_len h)))))
    (dss_cons (ds_while 1000000 (passes_of rfl) (dt_ne (room_eq hr) (dv_dp (dp_var 4)) (dv_de (de_lst da_nil)))
    (dss_cons (ds_xset 6 sc_all_choices.nd (xf_pop 4))
    (dss_one (ds_if (dt_notInM 2 (room_eq hr) (dv_df (df_var 6)))
    (dss_cons (ds_putM 2 (room_eq hr) (df_de (de_call G.g_choices_of (takes_of rfl rfl rfl rfl) hr rfl T.M_choices_of T.F_choices_of.kp T.B_choices_of (da_cons (df_var 0) (da_cons (df_var 1) (da_cons (df_var 6) da_nil))) (aCons_len (aCons_len (aCons_len (fun _ _ h => aNil_len h)))))) (dv_df (df_var 6)))
    (dss_one (ds_ext 4 (dl_de (de_lc (own := [("row", 7), ("demand", 5)]) (ix := [7, 5]) rfl sc_all_choices.nd (di_seq (df_getM 2 (room_eq hr) (dv_df (df_var 6)))) (blkOk_by (N := N_all_choices) (sc := defScope s_all_choices) (by decide +kernel)) (fun _ _ _ _ _ => (dg_tup (n := 2) rfl (dgs_cons (dg_name 7 sc_all_choices.nd) (dgs_cons (dg_name 5 sc_all_choices.nd) dgs_nil)))) (fun _ _ _ _ _ => (dts_one (dt_notN (dv_df (df_ix (dl_df (df_var 5)) (dv_df df_int))) (dv_df df_non)))) (fun _ _ _ _ _ => (de_call G.g_pair_of takes0 hr rfl T.M_pair_of T.F_pair_of.kp T.B_pair_of (da_cons (df_var 5) da_nil) (aCons_len (fun _ _ h => aNil_len h)))))))))
    dss_nil))))
    (dss_one (ds_retV 2))))))
theorem ok_wrong_within (T : Txt K mg f fd cl) (G : Fns P w K mg base f fd n) : FnOk P w K mg base (L2.CX P w) (n + 1) (f 7) (fd 7) ["choices", "best", "many"] (spM ⟨K, w⟩ mg 3 (mir (n + 1) 7)) :=
  mk_fn (l := 2) (fb := b_wrong_within (mir n)) T.F_wrong_within sc_wrong_within rfl (fun _ => rfl) fun cdv A outer s H E hr =>
    (dss_cons (ds_for (ix := [3, 4]) (passes_of rfl) rfl (di_seq (df_var 0)) (dg_tup (n := 2) rfl (dgs_cons (dg_name 3 sc_wrong_within.nd) (dgs_cons (dg_name 4 sc_wrong_within.nd) dgs_nil)))
    (dss_one (ds_if (dt_isN (dv_df (df_ix (dl_df (df_var 4)) (dv_df df_int))) (dv_df df_non))
    (dss_one (ds_if (dt_gt (dv_df (df_var 2)) (dv_de (de_int rfl T.z_int (dal_cons (dl_df (df_ne (room_eq hr) (dv_df (df_ix (dl_df (df_var 3)) (dv_df df_int))) (dv_df (df_tup da_nil)))) dal_nil))))
    (dss_one (ds_ret (de_df (df_tup (da_cons (df_var 2) (da_cons (df_var 3) (da_cons (df_var 4) da_nil)))))))
    dss_nil))
    (dss_one (ds_if (dt_in (room_eq hr) (dv_de (de_call G.g_pair_of (takes_of rfl rfl rfl rfl) hr rfl T.M_pair_of T.F_pair_of.kp T.B_pair_of (da_cons (df_var 4) da_nil) (aCons_len (fun _ _ h => aNil_len h)))) (dv_df (df_var 1)))
    (dss_one (ds_ret (de_df (df_tup (da_cons (df_var 2) (da_cons (df_var 3) (da_cons (df_var 4) da_nil)))))))
    dss_nil)))))
    (dss_one (ds_ret (de_df df_non))))
theorem ok_wrongs (T : Txt K mg f fd cl) (G : Fns P w K mg base f fd n) : FnOk P w K mg base (L2.CX P w) (n + 1) (f 8) (fd 8) ["turning", "wood"] (spM ⟨K, w⟩ mg 2 (mir (n + 1) 8)) :=
  mk_fn (l := 7) (fb := b_wrongs (mir n)) T.F_wrongs sc_wrongs rfl (fun _ => rfl) fun cdv A outer s H E hr =>
    (dss_cons (ds_set 2 sc_wrongs.nd (de_df (df_de (de_call G.g_all_choices (takes_of rfl rfl rfl rfl) hr rfl T.M_all_choices T.F_all_choices.kp T.B_all_choices (da_cons (df_var 0) (da_cons (df_var 1) da_nil)) (aCons_len (aCons_len (fun _ _ h => aNil_len h)))))))
    (dss_cons (ds_set 3 sc_wrongs.nd de_dictNew)
    (dss_cons (ds_set 4 sc_wrongs.nd (de_df df_int))
    (dss_cons (ds_set 5 sc_wrongs.nd (de_df df_bl))
    (dss_cons (ds_while 1000000 (passes_of rfl) (dt_dw (dw_or (dt_val (dv_df (df_var 5))) (dw_or1 (dt_lt (dv_df (df_var 4)) (dv_df df_int)))))
    (dss_cons (ds_aug 4 iop_addA opS_addA sc_wrongs.nd (dv_df df_int))
    (dss_cons (ds_set 6 sc_wrongs.nd (de_lst da_nil))
    (dss_cons (ds_forK (ix := [7]) 2 (passes_of rfl) rfl (dg_name 7 sc_wrongs.nd)
    (dss_one (ds_if (dt_notInM 3 (room_eq hr) (dv_df (df_var 7)))
    (dss_cons (ds_thaw 3 [] [0, 1, 2, 4, 5, 6, 7] (ds_set 8 sc_wrongs.nd (de_call G.g_wrong_within takes0 hr rfl T.M_wrong_within T.F_wrong_within.kp T.B_wrong_within (da_cons (df_ix (dl_df (df_var 2)) (dv_df (df_var 7))) (da_cons (df_var 3) (da_cons (df_var 4) da_nil))) (aCons_len (aCons_len (aCons_len (fun _ _ h => aNil_len h)))))))
    (dss_one (ds_if (dt_notN (dv_dp (dp_var 8)) (dv_df df_non))
    (dss_one (ds_frz 8 (ds_app 6 (de_df (df_tup (da_cons (df_var 7) (da_cons (df_var 8) da_nil)))))))
    dss_nil)))
    dss_nil)))
    (dss_cons (ds_forV (ix := [7, 8]) 6 (passes_of rfl) rfl (dg_tup (n := 2) rfl (dgs_cons (dg_name 7 sc_wrongs.nd) (dgs_cons (dg_name 8 sc_wrongs.nd) dgs_nil)))
    (dss_one (ds_frz 8 (ds_putM 3 (room_eq hr) (df_var 8) (dv_df (df_var 7))))))
    (dss_one (ds_set 5 sc_wrongs.nd (de_df (df_ne (room_eq hr) (dv_dp (dp_var 6)) (dv_de (de_lst da_nil)))))))))))
    (dss_one (ds_retV 3)))))))
theorem ok_first_wrong (T : Txt K mg f fd cl) (G : Fns P w K mg base f fd n) : FnOk P w K mg base (L2.CX P w) (n + 1) (f 9) (fd 9) ["turning", "wood", "best"] (spM ⟨K, w⟩ mg 3 (mir (n + 1) 9)) :=
  mk_fn (l := 3) (fb := b_first_wrong (mir n)) T.F_first_wrong sc_first_wrong rfl (fun _ => rfl) fun cdv A outer s H E hr =>
    (dss_cons (ds_set 3 sc_first_wrong.nd (de_df df_non))
    (dss_cons (ds_for (ix := [4]) (passes_of rfl) rfl (di_seq (df_de (de_call G.g_demands (takes_of rfl rfl rfl rfl) hr rfl T.M_demands T.F_demands.kp T.B_demands (da_cons (df_ix (dl_df (df_var 0)) (dv_df df_int)) (da_cons (df_ix (dl_df (df_ix (dl_df (df_var 1)) (dv_df df_int))) (dv_df df_int)) (da_cons (df_var 1) (da_cons (df_tup da_nil) da_nil)))) (aCons_len (aCons_len (aCons_len (aCons_len (fun _ _ h => aNil_len h)))))))) (dg_name 4 sc_first_wrong.nd)
    (dss_cons (ds_if (dt_isN (dv_df (df_ix (dl_df (df_var 4)) (dv_df df_int))) (dv_df df_non))
    (dss_one (ds_ret (de_df (df_tup (da_cons df_int (da_cons (df_var 4) da_nil))))))
    dss_nil)
    (dss_cons (ds_set 5 sc_first_wrong.nd (de_df (df_de (de_call G.g_pair_of (takes_of rfl rfl rfl rfl) hr rfl T.M_pair_of T.F_pair_of.kp T.B_pair_of (da_cons (df_var 4) da_nil) (aCons_len (fun _ _ h => aNil_len h))))))
    (dss_one (ds_if (dt_dw (dw_and (dt_in (room_eq hr) (dv_df (df_var 5)) (dv_df (df_var 2))) (dw_and1 (dt_dw (dw_or (dt_isN (dv_df (df_var 3)) (dv_df df_non)) (dw_or1 (dt_lt (dv_df (df_ix (dl_df (df_ix (dl_df (df_var 2)) (dv_df (df_var 5)))) (dv_df df_int))) (dv_df (df_ix (dl_df (df_var 3)) (dv_df df_int))))))))))
    (dss_one (ds_set 3 sc_first_wrong.nd (de_df (df_tup (da_cons (df_ix (dl_df (df_ix (dl_df (df_var 2)) (dv_df (df_var 5)))) (dv_df df_int)) (da_cons (df_var 4) da_nil))))))
    dss_nil)))))
    (dss_one (ds_ret (de_df (df_var 3))))))
theorem ok_wrong_tree (T : Txt K mg f fd cl) (G : Fns P w K mg base f fd n) : FnOk P w K mg base (L2.CX P w) (n + 1) (f 10) (fd 10) ["turning", "best", "pair"] (spM ⟨K, w⟩ mg 3 (mir (n + 1) 10)) :=
  mk_fn (l := 7) (fb := b_wrong_tree (mir n)) T.F_wrong_tree sc_wrong_tree rfl (fun _ => rfl) fun cdv A outer s H E hr =>
    (dss_cons (ds_asg (ix := [3, 4]) (df_de (de_slice (dl_df (df_ix (dl_df (df_var 1)) (dv_df (df_var 2)))) (do_some (dv_df df_int)) do_none)) (dg_tup (n := 2) rfl (dgs_cons (dg_name 3 sc_wrong_tree.nd) (dgs_cons (dg_name 4 sc_wrong_tree.nd) dgs_nil))))
    (dss_cons (ds_setLc 5 (own := [("kind", 6)]) (ix := [6]) rfl sc_wrong_tree.nd (di_seq (df_ix (dl_df (df_var 3)) (dv_df df_int))) (blkOk_by (N := N_wrong_tree) (sc := defScope s_wrong_tree) (by decide +kernel)) (fun _ _ _ _ _ => (dg_name 6 sc_wrong_tree.nd)) (fun _ _ _ _ _ => dts_nil) (fun _ _ _ _ _ => (de_call G.g_leaf_of takes0 hr rfl T.M_leaf_of T.F_leaf_of.kp T.B_leaf_of (da_cons (df_ix (dl_df (df_var 0)) (dv_df df_int)) (da_cons (df_var 6) da_nil)) (aCons_len (aCons_len (fun _ _ h => aNil_len h))))))
    (dss_cons (ds_set 7 sc_wrong_tree.nd (de_df (df_ix (dl_df (df_var 4)) (dv_df df_int))))
    (dss_cons (ds_if (dt_notN (dv_df (df_ix (dl_df (df_var 4)) (dv_df df_int))) (dv_df df_non))
    (dss_cons (ds_asg (ix := [8, 9]) (df_de (de_call G.g_wrong_tree (takes_of rfl rfl rfl rfl) hr rfl T.M_wrong_tree T.F_wrong_tree.kp T.B_wrong_tree (da_cons (df_var 0) (da_cons (df_var 1) (da_cons (df_de (de_call G.g_pair_of (takes_of rfl rfl rfl rfl) hr rfl T.M_pair_of T.F_pair_of.kp T.B_pair_of (da_cons (df_var 4) da_nil) (aCons_len (fun _ _ h => aNil_len h)))) da_nil))) (aCons_len (aCons_len (aCons_len (fun _ _ h => aNil_len h)))))) (dg_tup (n := 2) rfl (dgs_cons (dg_name 8 sc_wrong_tree.nd) (dgs_cons (dg_name 9 sc_wrong_tree.nd) dgs_nil))))
    (dss_cons (ds_put 5 (de_df (df_var 8)) (df_ix (dl_df (df_ix (dl_df (df_var 4)) (dv_df df_int))) (dv_df df_int)))
    (dss_one (ds_set 7 sc_wrong_tree.nd (de_df (df_de (de_add (dl_df (df_var 7)) (dl_df (df_var 9)))))))))
    dss_nil)
    (dss_one (ds_ret (de_df (df_tup (da_cons (df_tup (da_cons (df_ix (dl_df (df_var 3)) (dv_df df_int)) (da_cons df_int (da_cons (df_de (de_tuple rfl T.z_tuple (dal_cons (dl_dp (dp_var 5)) dal_nil))) da_nil)))) (da_cons (df_var 7) da_nil))))))))))
theorem ok_strays (T : Txt K mg f fd cl) (G : Fns P w K mg base f fd n) : FnOk P w K mg base (L2.CX P w) (n + 1) (f 11) (fd 11) ["turning", "wood"] (spM ⟨K, w⟩ mg 2 (mir (n + 1) 11)) :=
  mk_fn (l := 4) (fb := b_strays (mir n)) T.F_strays sc_strays rfl (fun _ => rfl) fun cdv A outer s H E hr =>
    (dss_cons (ds_set 2 sc_strays.nd (de_df (df_de (de_call G.g_wrongs (takes_of rfl rfl rfl rfl) hr rfl T.M_wrongs T.F_wrongs.kp T.B_wrongs (da_cons (df_var 0) (da_cons (df_var 1) da_nil)) (aCons_len (aCons_len (fun _ _ h => aNil_len h)))))))
    (dss_cons (ds_set 3 sc_strays.nd (de_df (df_de (de_call G.g_first_wrong (takes_of rfl rfl rfl rfl) hr rfl T.M_first_wrong T.F_first_wrong.kp T.B_first_wrong (da_cons (df_var 0) (da_cons (df_var 1) (da_cons (df_var 2) da_nil))) (aCons_len (aCons_len (aCons_len (fun _ _ h => aNil_len h))))))))
    (dss_cons (ds_if (dt_isN (dv_df (df_var 3)) (dv_df df_non))
    (dss_one (ds_ret (de_df df_non)))
    dss_nil)
    (dss_cons (ds_if (dt_gt (dv_df (df_ix (dl_df (df_var 3)) (dv_df df_int))) (dv_df df_int))
    (dss_one (ds_raise rfl (takes_of rfl rfl rfl rfl) T.cx_TooGreat rfl))
    dss_nil)
    (dss_cons (ds_if (dt_isN (dv_df (df_ix (dl_df (df_ix (dl_df (df_var 3)) (dv_df df_int))) (dv_df df_int))) (dv_df df_non))
    (dss_one (ds_ret (de_df (df_tup (da_cons (df_de (de_call G.g_leaf_of (takes_of rfl rfl rfl rfl) hr rfl T.M_leaf_of T.F_leaf_of.kp T.B_leaf_of (da_cons (df_ix (dl_df (df_var 0)) (dv_df df_int)) (da_cons (df_ix (dl_df (df_ix (dl_df (df_ix (dl_df (df_var 0)) (dv_df df_int))) (dv_df df_int))) (dv_df df_int)) da_nil)) (aCons_len (aCons_len (fun _ _ h => aNil_len h))))) (da_cons (df_ix (dl_df (df_ix (dl_df (df_var 3)) (dv_df df_int))) (dv_df df_int)) da_nil))))))
    dss_nil)
    (dss_cons (ds_asg (ix := [4, 5]) (df_de (de_call G.g_wrong_tree (takes_of rfl rfl rfl rfl) hr rfl T.M_wrong_tree T.F_wrong_tree.kp T.B_wrong_tree (da_cons (df_var 0) (da_cons (df_var 2) (da_cons (df_de (de_call G.g_pair_of (takes_of rfl rfl rfl rfl) hr rfl T.M_pair_of T.F_pair_of.kp T.B_pair_of (da_cons (df_ix (dl_df (df_var 3)) (dv_df df_int)) da_nil) (aCons_len (fun _ _ h => aNil_len h)))) da_nil))) (aCons_len (aCons_len (aCons_len (fun _ _ h => aNil_len h)))))) (dg_tup (n := 2) rfl (dgs_cons (dg_name 4 sc_strays.nd) (dgs_cons (dg_name 5 sc_strays.nd) dgs_nil))))
    (dss_one (ds_ret (de_df (df_tup (da_cons (df_var 4) (da_cons (df_de (de_add (dl_df (df_ix (dl_df (df_ix (dl_df (df_var 3)) (dv_df df_int))) (dv_df df_int))) (dl_df (df_var 5)))) da_nil))))))))))))
theorem ok__law_cell_at (T : Txt K mg f fd cl) (G : Fns P w K mg base f fd n) : FnOk P w K mg base (L2.CX P w) (n + 1) (f 12) (fd 12) ["_law_script", "_law_k"] (spM ⟨K, w⟩ mg 2 (mir (n + 1) 12)) :=
  mk_fn (l := 0) (fb := b__law_cell_at (mir n)) T.F__law_cell_at sc__law_cell_at rfl (fun _ => rfl) fun cdv A outer s H E hr =>
    (dss_cons (ds_if (dt_lt (dv_df (df_var 1)) (dv_de (de_len rfl T.z_len (dal_cons (dl_df (df_var 0)) dal_nil))))
    (dss_one (ds_ret (de_df (df_ix (dl_df (df_var 0)) (dv_df (df_var 1))))))
    dss_nil)
    (dss_one (ds_ret (de_df df_int))))
theorem ok__law_mixed (T : Txt K mg f fd cl) (G : Fns P w K mg base f fd n) : FnOk P w K mg base (L2.CX P w) (n + 1) (f 13) (fd 13) ["_law_cell", "_law_k"] (spM ⟨K, w⟩ mg 2 (mir (n + 1) 13)) :=
  mk_fn (l := 1) (fb := b__law_mixed (mir n)) T.F__law_mixed sc__law_mixed rfl (fun _ => rfl) fun cdv A outer s H E hr =>
    (dss_cons (ds_set 2 sc__law_mixed.nd (de_df (df_de (de_add (dl_df (df_mod (dv_df (df_var 0)) (dv_df df_int))) (dl_df (df_mul (dv_df df_int) (dv_de (de_add (dl_df (df_var 1)) (dl_df df_int)))))))))
    (dss_cons (ds_set 2 sc__law_mixed.nd (de_df (df_mod (dv_de (de_add (dl_df (df_mul (dv_df (df_var 2)) (dv_df (df_var 2)))) (dl_df (df_mul (dv_df df_int) (dv_df (df_var 1)))))) (dv_df df_int))))
    (dss_one (ds_ret (de_df (df_mod (dv_de (de_add (dl_de (de_add (dl_df (df_mul (dv_df (df_var 2)) (dv_df (df_var 2)))) (dl_df (df_mul (dv_df df_int) (dv_df (df_var 1)))))) (dl_df df_int))) (dv_df df_int)))))))
theorem ok__law_names (T : Txt K mg f fd cl) (G : Fns P w K mg base f fd n) : FnOk P w K mg base (L2.CX P w) (n + 1) (f 14) (fd 14) ["_law_cell"] (spM ⟨K, w⟩ mg 1 (mir (n + 1) 14)) :=
  mk_fn (l := 8) (fb := b__law_names (mir n)) T.F__law_names sc__law_names rfl (fun _ => rfl) fun cdv A outer s H E hr =>
    (dss_cons (ds_set 1 sc__law_names.nd (de_df df_str))
    (dss_cons (ds_set 2 sc__law_names.nd (de_df (df_de (de_lc (own := [("_law_j", 3)]) (ix := [3]) rfl sc__law_names.nd (di_range1 rfl T.z_range (da_cons df_int da_nil)) (blkOk_by (N := N__law_names) (sc := defScope s__law_names) (by decide +kernel)) (fun _ _ _ _ _ => (dg_name 3 sc__law_names.nd)) (fun _ _ _ _ _ => dts_nil) (fun _ _ _ _ _ => (de_df (df_mod (dv_de (de_call G.g__law_mixed takes0 hr rfl T.M__law_mixed T.F__law_mixed.kp T.B__law_mixed (da_cons (df_var 0) (da_cons (df_var 3) da_nil)) (aCons_len (aCons_len (fun _ _ h => aNil_len h))))) (dv_df df_int))))))))
    (dss_cons (ds_if (dt_eq (room_eq hr) (dv_df (df_mod (dv_df (df_div (dv_df (df_var 0)) (dv_df df_int))) (dv_df df_int))) (dv_df df_int))
    (dss_one (ds_ret (de_lc (own := [("_law_k", 4)]) (ix := [4]) rfl sc__law_names.nd (di_range1 rfl T.z_range (da_cons df_int da_nil)) (blkOk_by (N := N__law_names) (sc := defScope s__law_names) (by decide +kernel)) (fun _ _ _ _ _ => (dg_name 4 sc__law_names.nd)) (fun _ _ _ _ _ => dts_nil) (fun _ _ _ _ _ => (de_df (df_join (dv_df df_str) (dl_de (de_lc (own := [("_law_j", 3)]) (ix := [3]) rfl sc__law_names.nd (di_seq (df_de (de_slice (dl_df (df_var 2)) do_none (do_some (dv_de (de_add (dl_df (df_var 4)) (dl_df df_int))))))) (blkOk_by (by kernel_rfl)) (fun _ _ _ _ _ => (dg_name 3 sc__law_names.nd)) (fun _ _ _ _ _ => dts_nil) (fun _ _ _ _ _ => (de_df (df_ix (dl_df (df_var 1)) (dv_df (df_var 3)))))))))))))
    dss_nil)
    (dss_cons (ds_set 5 sc__law_names.nd (de_df (df_de (de_add (dl_df df_int) (dl_df (df_mod (dv_df (df_var 0)) (dv_df df_int)))))))
    (dss_cons (ds_set 6 sc__law_names.nd (de_df (df_mod (dv_df (df_div (dv_df (df_var 0)) (dv_df df_int))) (dv_df (df_var 5)))))
    (dss_cons (ds_set 7 sc__law_names.nd (de_lst da_nil))
    (dss_cons (ds_for (ix := [4]) (passes_of rfl) rfl (di_range1 rfl T.z_range (da_cons df_int da_nil)) (dg_name 4 sc__law_names.nd)
    (dss_cons (ds_set 8 sc__law_names.nd (de_slice (dl_df (df_var 2)) do_none (do_some (dv_df (df_var 5)))))
    (dss_cons (ds_put 8 (de_df (df_mod (dv_de (de_add (dl_df (df_ix (dl_dp (dp_var 8)) (dv_df (df_var 6)))) (dl_df (df_var 4)))) (dv_df df_int))) (df_var 6))
    (dss_one (ds_frz 8 (ds_app 7 (de_df (df_join (dv_df df_str) (dl_de (de_lc (own := [("_law_j", 3)]) (ix := [3]) rfl sc__law_names.nd (di_seq (df_var 8)) (blkOk_by (N := N__law_names) (sc := defScope s__law_names) (by decide +kernel)) (fun _ _ _ _ _ => (dg_name 3 sc__law_names.nd)) (fun _ _ _ _ _ => dts_nil) (fun _ _ _ _ _ => (de_df (df_ix (dl_df (df_var 1)) (dv_df (df_var 3)))))))))))))))
    (dss_one (ds_retV 7)))))))))
theorem ok__law_great (T : Txt K mg f fd cl) (G : Fns P w K mg base f fd n) : FnOk P w K mg base (L2.CX P w) (n + 1) (f 15) (fd 15) ["_law_cell"] (spM ⟨K, w⟩ mg 1 (mir (n + 1) 15)) :=
  mk_fn (l := 0) (fb := b__law_great (mir n)) T.F__law_great sc__law_great rfl (fun _ => rfl) fun cdv A outer s H E hr =>
    (dss_one (ds_ret (de_df (df_sub (dv_df (df_mod (dv_df (df_var 0)) (dv_de (de_add (dl_df (df_mul (dv_df df_int) (dv_df (df_pow (dv_df df_int) (dv_df df_int))))) (dl_df df_int))))) (dv_df (df_pow (dv_df df_int) (dv_df df_int)))))))
theorem ok__law_wood (T : Txt K mg f fd cl) (G : Fns P w K mg base f fd n) : FnOk P w K mg base (L2.CX P w) (n + 1) (f 16) (fd 16) ["_law_cell", "_law_names_here"] (spM ⟨K, w⟩ mg 2 (mir (n + 1) 16)) :=
  mk_fn (l := 10) (fb := b__law_wood (mir n)) T.F__law_wood sc__law_wood rfl (fun _ => rfl) fun cdv A outer s H E hr =>
    (dss_cons (ds_set 2 sc__law_wood.nd (de_df (df_de (de_slice (dl_df (df_var 1)) do_none (do_some (dv_de (de_add (dl_df df_int) (dl_df (df_mod (dv_df (df_var 0)) (dv_df df_int))))))))))
    (dss_cons (ds_set 3 sc__law_wood.nd (de_lst da_nil))
    (dss_cons (ds_for (ix := [4]) (passes_of rfl) rfl (di_range1 rfl T.z_range (da_cons (df_de (de_len rfl T.z_len (dal_cons (dl_df (df_var 2)) dal_nil))) da_nil)) (dg_name 4 sc__law_wood.nd)
    (dss_cons (ds_set 5 sc__law_wood.nd (de_df (df_de (de_call G.g__law_mixed (takes_of rfl rfl rfl rfl) hr rfl T.M__law_mixed T.F__law_mixed.kp T.B__law_mixed (da_cons (df_var 0) (da_cons (df_var 4) da_nil)) (aCons_len (aCons_len (fun _ _ h => aNil_len h)))))))
    (dss_cons (ds_set 6 sc__law_wood.nd (de_lst da_nil))
    (dss_cons (ds_for (ix := [7]) (passes_of rfl) rfl (di_range1 rfl T.z_range (da_cons (df_sub (dv_de (de_add (dl_df df_int) (dl_df (df_mod (dv_df (df_var 5)) (dv_df df_int))))) (dv_de (de_int rfl T.z_int (dal_cons (dl_df (df_and (dv_df (df_gt (dv_df (df_var 4)) (dv_df df_int))) (df_one (df_eq (room_eq hr) (dv_df (df_mod (dv_df (df_div (dv_df (df_var 5)) (dv_df df_int))) (dv_df df_int))) (dv_df df_int))))) dal_nil)))) da_nil)) (dg_name 7 sc__law_wood.nd)
    (dss_cons (ds_set 8 sc__law_wood.nd (de_df (df_de (de_call G.g__law_mixed (takes_of rfl rfl rfl rfl) hr rfl T.M__law_mixed T.F__law_mixed.kp T.B__law_mixed (da_cons (df_var 0) (da_cons (df_de (de_add (dl_de (de_add (dl_df df_int) (dl_df (df_mul (dv_df df_int) (dv_df (df_var 4)))))) (dl_df (df_var 7)))) da_nil)) (aCons_len (aCons_len (fun _ _ h => aNil_len h)))))))
    (dss_cons (ds_set 9 sc__law_wood.nd (de_df (df_ix (dl_de (de_lst (da_cons df_int (da_cons (df_de (de_add (dl_df df_int) (dl_df (df_mod (dv_df (df_var 8)) (dv_df df_int))))) (da_cons (df_mod (dv_df (df_var 8)) (dv_df df_int)) da_nil))))) (dv_df (df_var 7)))))
    (dss_cons (ds_setLcF 10 (own := [("_law_j", 11)]) (ix := [11]) rfl sc__law_wood.nd (di_range1 rfl T.z_range (da_cons (df_var 9) da_nil)) (blkOk_by (N := N__law_wood) (sc := defScope s__law_wood) (by decide +kernel)) (fun _ _ _ _ _ => (dg_name 11 sc__law_wood.nd)) (fun _ _ _ _ _ => dts_nil) (fun _ _ _ _ _ => (de_df (df_ix (dl_df (df_var 2)) (dv_df (df_mod (dv_de (de_call G.g__law_mixed takes0 hr rfl T.M__law_mixed T.F__law_mixed.kp T.B__law_mixed (da_cons (df_var 8) (da_cons (df_var 11) da_nil)) (aCons_len (aCons_len (fun _ _ h => aNil_len h))))) (dv_de (de_len rfl T.z_len (dal_cons (dl_df (df_var 2)) dal_nil)))))))))
    (dss_one (ds_app 6 (de_df (df_tup (da_cons (df_ix (dl_df (df_var 1)) (dv_df (df_mod (dv_de (de_add (dl_df (df_div (dv_df (df_var 5)) (dv_df df_int))) (dl_df (df_var 7)))) (dv_df df_int)))) (da_cons (df_de (de_tuple rfl T.z_tuple (dal_cons (dl_df (df_var 10)) dal_nil))) da_nil))))))))))
    (dss_one (ds_app 3 (de_df (df_tup (da_cons (df_ix (dl_df (df_var 2)) (dv_df (df_var 4))) (da_cons (df_de (de_sorted (room_eq hr) rfl T.z_sorted (dal_cons (dl_dp (dp_var 6)) dal_nil))) da_nil))))))))))
    (dss_one (ds_retV 3)))))
theorem ok__law_typed (T : Txt K mg f fd cl) (G : Fns P w K mg base f fd n) : FnOk P w K mg base (L2.CX P w) (n + 1) (f 17) (fd 17) ["_law_cell", "_law_k", "_law_deep", "_law_kind", "_law_wood_here", "_law_calls", "_law_keep"] (spM ⟨K, w⟩ mg 7 (mir (n + 1) 17)) :=
  mk_fn (l := 12) (fb := b__law_typed (mir n)) T.F__law_typed sc__law_typed rfl (fun _ => rfl) fun cdv A outer s H E hr =>
    (dss_cons (ds_set 7 sc__law_typed.nd (de_df (df_de (de_call G.g__law_mixed (takes_of rfl rfl rfl rfl) hr rfl T.M__law_mixed T.F__law_mixed.kp T.B__law_mixed (da_cons (df_var 0) (da_cons (df_var 1) da_nil)) (aCons_len (aCons_len (fun _ _ h => aNil_len h)))))))
    (dss_cons (ds_setLcF 8 (own := [("_law_call", 9)]) (ix := [9]) rfl sc__law_typed.nd (di_seq (df_var 5)) (blkOk_by (N := N__law_typed) (sc := defScope s__law_typed) (by decide +kernel)) (fun _ _ _ _ _ => (dg_name 9 sc__law_typed.nd)) (fun _ _ _ _ _ => (dts_one (dt_eq (room_eq hr) (dv_df (df_ix (dl_df (df_var 9)) (dv_df df_int))) (dv_df (df_var 3))))) (fun _ _ _ _ _ => (de_slice (dl_df (df_var 9)) do_none (do_some (dv_df df_int)))))
    (dss_cons (ds_if (dt_dw (dw_and (dt_ne (room_eq hr) (dv_df (df_var 8)) (dv_de (de_lst da_nil))) (dw_and1 (dt_lt (dv_df (df_mod (dv_df (df_var 7)) (dv_df df_int))) (dv_df df_int)))))
    (dss_one (ds_ret (de_add (dl_df (df_tup (da_cons df_str da_nil))) (dl_df (df_ix (dl_df (df_var 8)) (dv_df (df_mod (dv_df (df_div (dv_df (df_var 7)) (dv_df df_int))) (dv_de (de_len rfl T.z_len (dal_cons (dl_df (df_var 8)) dal_nil))))))))))
    dss_nil)
    (dss_cons (ds_setLcF 10 (own := [("_law_row_here", 11)]) (ix := [11]) rfl sc__law_typed.nd (di_seq (df_dictIx rfl (room_eq hr) rfl T.z_dict (dl_df (df_var 4)) (dv_df (df_var 3)))) (blkOk_by (N := N__law_typed) (sc := defScope s__law_typed) (by decide +kernel)) (fun _ _ _ _ _ => (dg_name 11 sc__law_typed.nd)) (fun _ _ _ _ _ => (dts_one (dt_dw (dw_or (dt_eq (room_eq hr) (dv_df (df_ix (dl_df (df_var 11)) (dv_df df_int))) (dv_df (df_tup da_nil))) (dw_or1 (dt_gt (dv_df (df_var 2)) (dv_df df_int))))))) (fun _ _ _ _ _ => (de_df (df_var 11))))
    (dss_cons (ds_setLcF 12 (own := [("_law_row_here", 11)]) (ix := [11]) rfl sc__law_typed.nd (di_seq (df_var 10)) (blkOk_by (N := N__law_typed) (sc := defScope s__law_typed) (by decide +kernel)) (fun _ _ _ _ _ => (dg_name 11 sc__law_typed.nd)) (fun _ _ _ _ _ => (dts_one (dt_ne (room_eq hr) (dv_df (df_ix (dl_df (df_var 11)) (dv_df df_int))) (dv_df (df_tup da_nil))))) (fun _ _ _ _ _ => (de_df (df_var 11))))
    (dss_cons (ds_if (dt_dw (dw_and (dt_ne (room_eq hr) (dv_df (df_var 12)) (dv_de (de_lst da_nil))) (dw_and1 (dt_gt (dv_df (df_mod (dv_df (df_div (dv_df (df_var 7)) (dv_df df_int))) (dv_df df_int))) (dv_df df_int)))))
    (dss_one (ds_set 10 sc__law_typed.nd (de_df (df_var 12))))
    dss_nil)
    (dss_cons (ds_asg (ix := [13, 14]) (df_ix (dl_df (df_var 10)) (dv_df (df_mod (dv_df (df_div (dv_df (df_var 7)) (dv_df df_int))) (dv_de (de_len rfl T.z_len (dal_cons (dl_df (df_var 10)) dal_nil)))))) (dg_tup (n := 2) rfl (dgs_cons (dg_name 13 sc__law_typed.nd) (dgs_cons (dg_name 14 sc__law_typed.nd) dgs_nil))))
    (dss_cons (ds_set 15 sc__law_typed.nd (de_lst da_nil))
    (dss_cons (ds_for (ix := [16]) (passes_of rfl) rfl (di_range1 rfl T.z_range (da_cons (df_de (de_len rfl T.z_len (dal_cons (dl_df (df_var 14)) dal_nil))) da_nil)) (dg_name 16 sc__law_typed.nd)
    (dss_one (ds_app 15 (de_call G.g__law_typed (takes_of rfl rfl rfl rfl) hr rfl T.M__law_typed T.F__law_typed.kp T.B__law_typed (da_cons (df_var 0) (da_cons (df_de (de_add (dl_de (de_add (dl_df (df_mul (dv_df df_int) (dv_df (df_var 1)))) (dl_df (df_var 16)))) (dl_df df_int))) (da_cons (df_sub (dv_df (df_var 2)) (dv_df df_int)) (da_cons (df_ix (dl_df (df_var 14)) (dv_df (df_var 16))) (da_cons (df_var 4) (da_cons (df_var 5) (da_cons (df_var 6) da_nil))))))) (aCons_len (aCons_len (aCons_len (aCons_len (aCons_len (aCons_len (aCons_len (fun _ _ h => aNil_len h))))))))))))
    (dss_cons (ds_set 17 sc__law_typed.nd (de_df (df_and (dv_df (df_var 6)) (df_one (df_eq (room_eq hr) (dv_df (df_mod (dv_df (df_div (dv_df (df_var 7)) (dv_df df_int))) (dv_df df_int))) (dv_df df_int))))))
    (dss_cons (ds_set 18 sc__law_typed.nd (de_df (df_ix (dl_de (de_lst (da_cons df_int (da_cons (df_sub (dv_df (df_mod (dv_df (df_div (dv_df (df_var 7)) (dv_df df_int))) (dv_df df_int))) (dv_df df_int)) (da_cons (df_de (de_call G.g__law_great (takes_of rfl rfl rfl rfl) hr rfl T.M__law_great T.F__law_great.kp T.B__law_great (da_cons (df_var 0) da_nil) (aCons_len (fun _ _ h => aNil_len h)))) da_nil))))) (dv_df (df_mod (dv_df (df_div (dv_df (df_var 7)) (dv_df df_int))) (dv_df df_int))))))
    (dss_one (ds_ret (de_df (df_tup (da_cons df_str (da_cons (df_var 13) (da_cons (df_var 17) (da_cons (df_var 18) (da_cons (df_de (de_tuple rfl T.z_tuple (dal_cons (dl_dp (dp_var 15)) dal_nil))) da_nil))))))))))))))))))))
theorem ok__law_row (T : Txt K mg f fd cl) (G : Fns P w K mg base f fd n) : FnOk P w K mg base (L2.CX P w) (n + 1) (f 18) (fd 18) ["_law_wood_here", "_law_kind", "_law_name"] (spM ⟨K, w⟩ mg 3 (mir (n + 1) 18)) :=
  mk_fn (l := 1) (fb := b__law_row (mir n)) T.F__law_row sc__law_row rfl (fun _ => rfl) fun cdv A outer s H E hr =>
    (dss_cons (ds_for (ix := [3]) (passes_of rfl) rfl (di_seq (df_dictIx rfl (room_eq hr) rfl T.z_dict (dl_df (df_var 0)) (dv_df (df_var 1)))) (dg_name 3 sc__law_row.nd)
    (dss_one (ds_if (dt_eq (room_eq hr) (dv_df (df_ix (dl_df (df_var 3)) (dv_df df_int))) (dv_df (df_var 2)))
    (dss_one (ds_ret (de_df (df_ix (dl_df (df_var 3)) (dv_df df_int)))))
    dss_nil)))
    (dss_one (ds_ret (de_df df_non))))
theorem ok__law_fits (T : Txt K mg f fd cl) (G : Fns P w K mg base f fd n) : FnOk P w K mg base (L2.CX P w) (n + 1) (f 19) (fd 19) ["_law_wood_here", "_law_kind", "_law_label"] (spM ⟨K, w⟩ mg 3 (mir (n + 1) 19)) :=
  mk_fn (l := 1) (fb := b__law_fits (mir n)) T.F__law_fits sc__law_fits rfl (fun _ => rfl) fun cdv A outer s H E hr =>
    (dss_cons (ds_set 3 sc__law_fits.nd (de_df (df_de (de_call G.g__law_row (takes_of rfl rfl rfl rfl) hr rfl T.M__law_row T.F__law_row.kp T.B__law_row (da_cons (df_var 0) (da_cons (df_var 1) (da_cons (df_ix (dl_df (df_var 2)) (dv_df df_int)) da_nil))) (aCons_len (aCons_len (aCons_len (fun _ _ h => aNil_len h))))))))
    (dss_one (ds_ret (de_df (df_and (dv_df (df_notN (dv_df (df_var 3)) (dv_df df_non))) (df_one (df_eq (room_eq hr) (dv_de (de_len rfl T.z_len (dal_cons (dl_df (df_var 3)) dal_nil))) (dv_df (df_ix (dl_df (df_var 2)) (dv_df df_int))))))))))
theorem ok__law_whole (T : Txt K mg f fd cl) (G : Fns P w K mg base f fd n) : FnOk P w K mg base (L2.CX P w) (n + 1) (f 20) (fd 20) ["_law_found"] (spM ⟨K, w⟩ mg 1 (mir (n + 1) 20)) :=
  mk_fn (l := 0) (fb := b__law_whole (mir n)) T.F__law_whole sc__law_whole rfl (fun _ => rfl) fun cdv A outer s H E hr =>
    (dss_one (ds_ret (de_df (df_and (dv_df (df_isi (dv_df (df_var 0)) rfl T.z_isinstance rfl T.z_int rfl)) (df_one (df_not (dv_df (df_isi (dv_df (df_var 0)) rfl T.z_isinstance rfl T.z_bool rfl))))))))
theorem ok__law_of_kind (T : Txt K mg f fd cl) (G : Fns P w K mg base f fd n) : FnOk P w K mg base (L2.CX P w) (n + 1) (f 21) (fd 21) ["_law_wood_here", "_law_kind", "_law_term"] (spM ⟨K, w⟩ mg 3 (mir (n + 1) 21)) :=
  mk_fn (l := 2) (fb := b__law_of_kind (mir n)) T.F__law_of_kind sc__law_of_kind rfl (fun _ => rfl) fun cdv A outer s H E hr =>
    (dss_cons (ds_if (dt_not (dt_val (dv_de (de_call G.g__law_fits (takes_of rfl rfl rfl rfl) hr rfl T.M__law_fits T.F__law_fits.kp T.B__law_fits (da_cons (df_var 0) (da_cons (df_var 1) (da_cons (df_tup (da_cons (df_ix (dl_df (df_var 2)) (dv_df df_int)) (da_cons df_int (da_cons (df_de (de_len rfl T.z_len (dal_cons (dl_df (df_ix (dl_df (df_var 2)) (dv_df df_int))) dal_nil))) da_nil)))) da_nil))) (aCons_len (aCons_len (aCons_len (fun _ _ h => aNil_len h))))))))
    (dss_one (ds_ret (de_df df_bl)))
    dss_nil)
    (dss_cons (ds_for (ix := [3, 4]) (passes_of rfl) rfl (di_zip rfl T.z_zip (da_cons (df_de (de_call G.g__law_row (takes_of rfl rfl rfl rfl) hr rfl T.M__law_row T.F__law_row.kp T.B__law_row (da_cons (df_var 0) (da_cons (df_var 1) (da_cons (df_ix (dl_df (df_var 2)) (dv_df df_int)) da_nil))) (aCons_len (aCons_len (aCons_len (fun _ _ h => aNil_len h)))))) (da_cons (df_ix (dl_df (df_var 2)) (dv_df df_int)) da_nil))) (dg_tup (n := 2) rfl (dgs_cons (dg_name 3 sc__law_of_kind.nd) (dgs_cons (dg_name 4 sc__law_of_kind.nd) dgs_nil)))
    (dss_one (ds_if (dt_not (dt_val (dv_de (de_call G.g__law_of_kind (takes_of rfl rfl rfl rfl) hr rfl T.M__law_of_kind T.F__law_of_kind.kp T.B__law_of_kind (da_cons (df_var 0) (da_cons (df_var 3) (da_cons (df_var 4) da_nil))) (aCons_len (aCons_len (aCons_len (fun _ _ h => aNil_len h))))))))
    (dss_one (ds_ret (de_df df_bl)))
    dss_nil)))
    (dss_one (ds_ret (de_df df_bl)))))
theorem ok__law_spoiled (T : Txt K mg f fd cl) (G : Fns P w K mg base f fd n) : FnOk P w K mg base (L2.CX P w) (n + 1) (f 22) (fd 22) ["_law_names_here", "_law_term", "_law_number"] (spM ⟨K, w⟩ mg 3 (mir (n + 1) 22)) :=
  mk_fn (l := 4) (fb := b__law_spoiled (mir n)) T.F__law_spoiled sc__law_spoiled rfl (fun _ => rfl) fun cdv A outer s H E hr =>
    (dss_cons (ds_set 3 sc__law_spoiled.nd (de_df (df_ix (dl_df (df_var 1)) (dv_df df_int))))
    (dss_cons (ds_if (dt_dw (dw_and (dt_ne (room_eq hr) (dv_df (df_var 3)) (dv_df (df_tup da_nil))) (dw_and1 (dt_gt (dv_df (df_mod (dv_df (df_var 2)) (dv_df df_int))) (dv_df df_int)))))
    (dss_cons (ds_set 4 sc__law_spoiled.nd (de_df (df_mod (dv_df (df_div (dv_df (df_var 2)) (dv_df df_int))) (dv_de (de_len rfl T.z_len (dal_cons (dl_df (df_var 3)) dal_nil))))))
    (dss_cons (ds_set 5 sc__law_spoiled.nd (de_df (df_de (de_call G.g__law_spoiled (takes_of rfl rfl rfl rfl) hr rfl T.M__law_spoiled T.F__law_spoiled.kp T.B__law_spoiled (da_cons (df_var 0) (da_cons (df_ix (dl_df (df_var 3)) (dv_df (df_var 4))) (da_cons (df_div (dv_df (df_var 2)) (dv_df df_int)) da_nil))) (aCons_len (aCons_len (aCons_len (fun _ _ h => aNil_len h))))))))
    (dss_one (ds_ret (de_add (dl_de (de_slice (dl_df (df_var 1)) do_none (do_some (dv_df df_int)))) (dl_df (df_tup (da_cons (df_de (de_add (dl_de (de_add (dl_de (de_slice (dl_df (df_var 3)) do_none (do_some (dv_df (df_var 4))))) (dl_df (df_tup (da_cons (df_var 5) da_nil))))) (dl_de (de_slice (dl_df (df_var 3)) (do_some (dv_de (de_add (dl_df (df_var 4)) (dl_df df_int)))) do_none)))) da_nil))))))))
    dss_nil)
    (dss_cons (ds_set 6 sc__law_spoiled.nd (de_df (df_ix (dl_df (df_var 0)) (dv_df (df_mod (dv_df (df_div (dv_df (df_var 2)) (dv_df df_int))) (dv_df df_int))))))
    (dss_cons (ds_if (dt_eq (room_eq hr) (dv_df (df_mod (dv_df (df_div (dv_df (df_var 2)) (dv_df df_int))) (dv_df df_int))) (dv_df df_int))
    (dss_one (ds_ret (de_df (df_tup (da_cons df_str (da_cons (df_var 6) (da_cons df_bl (da_cons df_int (da_cons (df_var 3) da_nil)))))))))
    dss_nil)
    (dss_cons (ds_if (dt_eq (room_eq hr) (dv_df (df_mod (dv_df (df_div (dv_df (df_var 2)) (dv_df df_int))) (dv_df df_int))) (dv_df df_int))
    (dss_one (ds_ret (de_add (dl_de (de_slice (dl_df (df_var 1)) do_none (do_some (dv_df df_int)))) (dl_df (df_tup (da_cons (df_de (de_add (dl_df (df_var 3)) (dl_df (df_tup (da_cons (df_tup (da_cons df_str (da_cons (df_var 6) (da_cons df_bl (da_cons df_int (da_cons (df_tup da_nil) da_nil)))))) da_nil))))) da_nil))))))
    dss_nil)
    (dss_cons (ds_if (dt_eq (room_eq hr) (dv_df (df_mod (dv_df (df_div (dv_df (df_var 2)) (dv_df df_int))) (dv_df df_int))) (dv_df df_int))
    (dss_one (ds_ret (de_add (dl_de (de_slice (dl_df (df_var 1)) do_none (do_some (dv_df df_int)))) (dl_df (df_tup (da_cons (df_de (de_slice (dl_df (df_var 3)) (do_some (dv_df df_int)) do_none)) da_nil))))))
    dss_nil)
    (dss_one (ds_ret (de_add (dl_de (de_slice (dl_df (df_var 1)) do_none (do_some (dv_df df_int)))) (dl_df (df_tup (da_cons (df_de (de_rev (dl_df (df_var 3)))) da_nil))))))))))))
theorem ok__law_wrong_at (T : Txt K mg f fd cl) (G : Fns P w K mg base f fd n) : FnOk P w K mg base (L2.CX P w) (n + 1) (f 23) (fd 23) ["_law_wood_here", "_law_term", "_law_found"] (spM ⟨K, w⟩ mg 3 (mir (n + 1) 23)) :=
  mk_fn (l := 2) (fb := b__law_wrong_at (mir n)) T.F__law_wrong_at sc__law_wrong_at rfl (fun _ => rfl) fun cdv A outer s H E hr =>
    (dss_cons (ds_if (dt_not (dt_val (dv_df (df_isi (dv_df (df_var 2)) rfl T.z_isinstance rfl T.z_tuple rfl))))
    (dss_one (ds_ret (de_df df_bl)))
    dss_nil)
    (dss_cons (ds_set 3 sc__law_wrong_at.nd (de_df (df_ix (dl_df (df_ix (dl_df (df_var 0)) (dv_df df_int))) (dv_df df_int))))
    (dss_cons (ds_for (ix := [4]) (passes_of rfl) rfl (di_seq (df_var 2)) (dg_name 4 sc__law_wrong_at.nd)
    (dss_cons (ds_if (dt_dw (dw_or (dt_not (dt_val (dv_de (de_call G.g__law_whole (takes_of rfl rfl rfl rfl) hr rfl T.M__law_whole T.F__law_whole.kp T.B__law_whole (da_cons (df_var 4) da_nil) (aCons_len (fun _ _ h => aNil_len h)))))) (dw_or (dt_lt (dv_df (df_var 4)) (dv_df df_int)) (dw_or1 (dt_ge (dv_df (df_var 4)) (dv_de (de_len rfl T.z_len (dal_cons (dl_df (df_ix (dl_df (df_var 1)) (dv_df df_int))) dal_nil))))))))
    (dss_one (ds_ret (de_df df_bl)))
    dss_nil)
    (dss_cons (ds_if (dt_not (dt_val (dv_de (de_call G.g__law_fits (takes_of rfl rfl rfl rfl) hr rfl T.M__law_fits T.F__law_fits.kp T.B__law_fits (da_cons (df_var 0) (da_cons (df_var 3) (da_cons (df_tup (da_cons (df_ix (dl_df (df_var 1)) (dv_df df_int)) (da_cons df_int (da_cons (df_de (de_len rfl T.z_len (dal_cons (dl_df (df_ix (dl_df (df_var 1)) (dv_df df_int))) dal_nil))) da_nil)))) da_nil))) (aCons_len (aCons_len (aCons_len (fun _ _ h => aNil_len h))))))))
    (dss_one (ds_ret (de_df df_bl)))
    dss_nil)
    (dss_cons (ds_set 3 sc__law_wrong_at.nd (de_df (df_ix (dl_de (de_call G.g__law_row (takes_of rfl rfl rfl rfl) hr rfl T.M__law_row T.F__law_row.kp T.B__law_row (da_cons (df_var 0) (da_cons (df_var 3) (da_cons (df_ix (dl_df (df_var 1)) (dv_df df_int)) da_nil))) (aCons_len (aCons_len (aCons_len (fun _ _ h => aNil_len h)))))) (dv_df (df_var 4)))))
    (dss_one (ds_set 1 sc__law_wrong_at.nd (de_df (df_ix (dl_df (df_ix (dl_df (df_var 1)) (dv_df df_int))) (dv_df (df_var 4))))))))))
    (dss_one (ds_ret (de_df (df_not (dv_de (de_call G.g__law_fits (takes_of rfl rfl rfl rfl) hr rfl T.M__law_fits T.F__law_fits.kp T.B__law_fits (da_cons (df_var 0) (da_cons (df_var 3) (da_cons (df_tup (da_cons (df_ix (dl_df (df_var 1)) (dv_df df_int)) (da_cons df_int (da_cons (df_de (de_len rfl T.z_len (dal_cons (dl_df (df_ix (dl_df (df_var 1)) (dv_df df_int))) dal_nil))) da_nil)))) da_nil))) (aCons_len (aCons_len (aCons_len (fun _ _ h => aNil_len h)))))))))))))
theorem ok_law (T : Txt K mg f fd cl) (G : Fns P w K mg base f fd n) : FnOk P w K mg base (L2.CX P w) (n + 1) (f 24) (fd 24) ["_law_script"] (spM ⟨K, w⟩ mg 1 (mir (n + 1) 24)) :=
  mk_fn (l := 10) (fb := b_law (mir n)) T.F_law sc_law rfl (fun _ => rfl) fun cdv A outer s H E hr =>
    (dss_cons (ds_set 1 sc_law.nd (de_df (df_de (de_call G.g__law_names (takes_of rfl rfl rfl rfl) hr rfl T.M__law_names T.F__law_names.kp T.B__law_names (da_cons (df_de (de_call G.g__law_cell_at (takes_of rfl rfl rfl rfl) hr rfl T.M__law_cell_at T.F__law_cell_at.kp T.B__law_cell_at (da_cons (df_var 0) (da_cons df_int da_nil)) (aCons_len (aCons_len (fun _ _ h => aNil_len h))))) da_nil) (aCons_len (fun _ _ h => aNil_len h))))))
    (dss_cons (ds_set 2 sc_law.nd (de_df (df_de (de_call G.g__law_wood (takes_of rfl rfl rfl rfl) hr rfl T.M__law_wood T.F__law_wood.kp T.B__law_wood (da_cons (df_de (de_call G.g__law_cell_at (takes_of rfl rfl rfl rfl) hr rfl T.M__law_cell_at T.F__law_cell_at.kp T.B__law_cell_at (da_cons (df_var 0) (da_cons df_int da_nil)) (aCons_len (aCons_len (fun _ _ h => aNil_len h))))) (da_cons (df_var 1) da_nil)) (aCons_len (aCons_len (fun _ _ h => aNil_len h)))))))
    (dss_cons (ds_set 3 sc_law.nd (de_df (df_de (de_call G.g__law_wood (takes_of rfl rfl rfl rfl) hr rfl T.M__law_wood T.F__law_wood.kp T.B__law_wood (da_cons (df_de (de_call G.g__law_cell_at (takes_of rfl rfl rfl rfl) hr rfl T.M__law_cell_at T.F__law_cell_at.kp T.B__law_cell_at (da_cons (df_var 0) (da_cons df_int da_nil)) (aCons_len (aCons_len (fun _ _ h => aNil_len h))))) (da_cons (df_var 1) da_nil)) (aCons_len (aCons_len (fun _ _ h => aNil_len h)))))))
    (dss_cons (ds_set 4 sc_law.nd (de_df (df_de (de_call G.g__law_typed (takes_of rfl rfl rfl rfl) hr rfl T.M__law_typed T.F__law_typed.kp T.B__law_typed (da_cons (df_de (de_call G.g__law_cell_at (takes_of rfl rfl rfl rfl) hr rfl T.M__law_cell_at T.F__law_cell_at.kp T.B__law_cell_at (da_cons (df_var 0) (da_cons df_int da_nil)) (aCons_len (aCons_len (fun _ _ h => aNil_len h))))) (da_cons df_int (da_cons df_int (da_cons (df_ix (dl_df (df_ix (dl_df (df_var 3)) (dv_df df_int))) (dv_df df_int)) (da_cons (df_var 3) (da_cons (df_de (de_lst da_nil)) (da_cons df_bl da_nil))))))) (aCons_len (aCons_len (aCons_len (aCons_len (aCons_len (aCons_len (aCons_len (fun _ _ h => aNil_len h))))))))))))
    (dss_cons (ds_if (dt_gt (dv_df (df_mod (dv_de (de_call G.g__law_cell_at (takes_of rfl rfl rfl rfl) hr rfl T.M__law_cell_at T.F__law_cell_at.kp T.B__law_cell_at (da_cons (df_var 0) (da_cons df_int da_nil)) (aCons_len (aCons_len (fun _ _ h => aNil_len h))))) (dv_df df_int))) (dv_df df_int))
    (dss_one (ds_set 4 sc_law.nd (de_df (df_de (de_call G.g__law_spoiled (takes_of rfl rfl rfl rfl) hr rfl T.M__law_spoiled T.F__law_spoiled.kp T.B__law_spoiled (da_cons (df_var 1) (da_cons (df_var 4) (da_cons (df_de (de_call G.g__law_mixed (takes_of rfl rfl rfl rfl) hr rfl T.M__law_mixed T.F__law_mixed.kp T.B__law_mixed (da_cons (df_de (de_call G.g__law_cell_at (takes_of rfl rfl rfl rfl) hr rfl T.M__law_cell_at T.F__law_cell_at.kp T.B__law_cell_at (da_cons (df_var 0) (da_cons df_int da_nil)) (aCons_len (aCons_len (fun _ _ h => aNil_len h))))) (da_cons df_int da_nil)) (aCons_len (aCons_len (fun _ _ h => aNil_len h))))) da_nil))) (aCons_len (aCons_len (aCons_len (fun _ _ h => aNil_len h)))))))))
    dss_nil)
    (dss_cons (ds_set 5 sc_law.nd (de_df (df_tup (da_cons (df_de (de_lc (own := [("_law_kind", 6), ("_law_rows", 7)]) (ix := [6, 7]) rfl sc_law.nd (di_seq (df_var 2)) (blkOk_by (N := N_law) (sc := defScope s_law) (by decide +kernel)) (fun _ _ _ _ _ => (dg_tup (n := 2) rfl (dgs_cons (dg_name 6 sc_law.nd) (dgs_cons (dg_name 7 sc_law.nd) dgs_nil)))) (fun _ _ _ _ _ => dts_nil) (fun _ _ _ _ _ => (de_df (df_tup (da_cons (df_var 6) (da_cons (df_de (de_list rfl T.z_list (dal_cons (dl_df (df_var 7)) dal_nil))) da_nil))))))) (da_cons (df_var 4) (da_cons (df_de (de_lst da_nil)) da_nil))))))
    (dss_cons (ds_setLcF 8 (own := [("_law_kind", 6), ("_law_rows", 7)]) (ix := [6, 7]) rfl sc_law.nd (di_seq (df_var 3)) (blkOk_by (N := N_law) (sc := defScope s_law) (by decide +kernel)) (fun _ _ _ _ _ => (dg_tup (n := 2) rfl (dgs_cons (dg_name 6 sc_law.nd) (dgs_cons (dg_name 7 sc_law.nd) dgs_nil)))) (fun _ _ _ _ _ => dts_nil) (fun _ _ _ _ _ => (de_df (df_tup (da_cons (df_var 6) (da_cons (df_de (de_list rfl T.z_list (dal_cons (dl_df (df_var 7)) dal_nil))) da_nil))))))
    (dss_cons (ds_set 9 sc_law.nd (de_df (df_de (de_call G.g_strays (takes_of rfl rfl rfl rfl) hr rfl T.M_strays T.F_strays.kp T.B_strays (da_cons (df_var 5) (da_cons (df_var 8) da_nil)) (aCons_len (aCons_len (fun _ _ h => aNil_len h)))))))
    (dss_cons (ds_if (dt_dw (dw_or (dt_ne (room_eq hr) (dv_df (df_var 5)) (dv_df (df_tup (da_cons (df_var 2) (da_cons (df_var 4) (da_cons (df_de (de_lst da_nil)) da_nil)))))) (dw_or1 (dt_ne (room_eq hr) (dv_df (df_var 8)) (dv_df (df_var 3))))))
    (dss_one (ds_ret (de_df df_bl)))
    dss_nil)
    (dss_cons (ds_if (dt_val (dv_de (de_call G.g__law_of_kind (takes_of rfl rfl rfl rfl) hr rfl T.M__law_of_kind T.F__law_of_kind.kp T.B__law_of_kind (da_cons (df_var 3) (da_cons (df_ix (dl_df (df_ix (dl_df (df_var 3)) (dv_df df_int))) (dv_df df_int)) (da_cons (df_var 4) da_nil))) (aCons_len (aCons_len (aCons_len (fun _ _ h => aNil_len h)))))))
    (dss_one (ds_ret (de_df (df_isN (dv_df (df_var 9)) (dv_df df_non)))))
    dss_nil)
    (dss_cons (ds_if (dt_dw (dw_or (dt_not (dt_val (dv_df (df_isi (dv_df (df_var 9)) rfl T.z_isinstance rfl T.z_tuple rfl)))) (dw_or (dt_ne (room_eq hr) (dv_de (de_len rfl T.z_len (dal_cons (dl_df (df_var 9)) dal_nil))) (dv_df df_int)) (dw_or1 (dt_not (dt_val (dv_de (de_call G.g__law_wrong_at (takes_of rfl rfl rfl rfl) hr rfl T.M__law_wrong_at T.F__law_wrong_at.kp T.B__law_wrong_at (da_cons (df_var 3) (da_cons (df_var 4) (da_cons (df_ix (dl_df (df_var 9)) (dv_df df_int)) da_nil))) (aCons_len (aCons_len (aCons_len (fun _ _ h => aNil_len h))))))))))))
    (dss_one (ds_ret (de_df df_bl)))
    dss_nil)
    (dss_cons (ds_set 10 sc_law.nd (de_df (df_ix (dl_df (df_var 9)) (dv_df df_int))))
    (dss_cons (ds_if (dt_dw (dw_or (dt_not (dt_val (dv_df (df_isi (dv_df (df_var 10)) rfl T.z_isinstance rfl T.z_tuple rfl)))) (dw_or (dt_ne (room_eq hr) (dv_de (de_len rfl T.z_len (dal_cons (dl_df (df_var 10)) dal_nil))) (dv_df df_int)) (dw_or (dt_not (dt_val (dv_df (df_isi (dv_df (df_ix (dl_df (df_var 10)) (dv_df df_int))) rfl T.z_isinstance rfl T.z_str rfl)))) (dw_or1 (dt_not (dt_val (dv_de (de_call G.g__law_whole (takes_of rfl rfl rfl rfl) hr rfl T.M__law_whole T.F__law_whole.kp T.B__law_whole (da_cons (df_ix (dl_df (df_var 10)) (dv_df df_int)) da_nil) (aCons_len (fun _ _ h => aNil_len h)))))))))))
    (dss_one (ds_ret (de_df df_bl)))
    dss_nil)
    (dss_one (ds_ret (de_df (df_and (dv_df (df_eq (room_eq hr) (dv_df (df_ix (dl_df (df_var 10)) (dv_df df_int))) (dv_df (df_tup da_nil)))) (df_one (df_eq (room_eq hr) (dv_de (de_call G.g__law_row (takes_of rfl rfl rfl rfl) hr rfl T.M__law_row T.F__law_row.kp T.B__law_row (da_cons (df_var 2) (da_cons (df_ix (dl_df (df_ix (dl_df (df_var 2)) (dv_df df_int))) (dv_df df_int)) (da_cons (df_ix (dl_df (df_var 10)) (dv_df df_int)) da_nil))) (aCons_len (aCons_len (aCons_len (fun _ _ h => aNil_len h)))))) (dv_df (df_tup da_nil)))))))))))))))))))))
theorem fn_none {f : Addr} {fd : FuncData} {ps : List Str} {k i : Nat} : FnOk P w K mg base (L2.CX P w) 0 f fd ps (spM ⟨K, w⟩ mg k (mir 0 i)) := by
  have no : ∀ vs H Q E, ¬ spM ⟨K, w⟩ mg k (mir 0 i) vs H Q E := fun vs H Q E ⟨F, ds, _, _, _, h⟩ => h
  exact ⟨fun vs H Q E h => absurd h (no vs H Q E), fun A outer s H args us vs Q E _ _ _ _ h => absurd h (no vs H Q E)⟩
theorem all_fns (T : Txt K mg f fd cl) : ∀ n, Fns P w K mg base f fd n
  | 0 => ⟨fn_none, fn_none, fn_none, fn_none, fn_none, fn_none, fn_none, fn_none, fn_none, fn_none, fn_none, fn_none, fn_none, fn_none, fn_none, fn_none, fn_none, fn_none, fn_none, fn_none, fn_none, fn_none, fn_none, fn_none, fn_none⟩
  | n + 1 => by
    have G := all_fns T n
    exact ⟨ok_rows_of T G, ok_row_of T G, ok_leaf_of T G, ok_demands T G, ok_pair_of T G, ok_choices_of T G, ok_all_choices T G, ok_wrong_within T G, ok_wrongs T G, ok_first_wrong T G, ok_wrong_tree T G, ok_strays T G, ok__law_cell_at T G, ok__law_mixed T G, ok__law_names T G, ok__law_great T G, ok__law_wood T G, ok__law_typed T G, ok__law_row T G, ok__law_fits T G, ok__law_whole T G, ok__law_of_kind T G, ok__law_spoiled T G, ok__law_wrong_at T G, ok_law T G⟩
end
def pick {α : Type} (z : α) : List α → Nat → α
  | [], _ => z
  | x :: _, 0 => x
  | _ :: xs, n + 1 => pick z xs n
theorem all_mk (L : Nat) {l : PySem.W.OpenLaw} {w : World} {K : PySem.W.Frag} {h : Heap} {mg : Str → Option Value} {fa : Addr} (X : K.In h) (G : h.Ns PySem.mainGlobals mg) (hfa : mg "law" = some (.ref fa))
    {od0 an0 : Option Addr} {sl0 : Array (Option Value)} {oc0 kV0 dc0 pm0 cd0 ct0 : Value} {f0 : Addr}
    (a0 : PySem.W.nsIn K PySem.mainGlobals "rows_of" = some (some (.ref f0))) (l0 : K.lookup f0 = some ⟨oc0, od0, .func (PySem.W.fnOf "rows_of" "rows_of" (defArgs s_rows_of) (defBody s_rows_of) (defScope s_rows_of) .none kV0 dc0 pm0 an0 cd0 ct0), sl0⟩) (c0 : PySem.W.codeIn K cd0 "rows_of" = true) (k0 : PySem.W.keepIn K (.ref f0) = true)
    {od1 an1 : Option Addr} {sl1 : Array (Option Value)} {oc1 kV1 dc1 pm1 cd1 ct1 : Value} {f1 : Addr}
    (a1 : PySem.W.nsIn K PySem.mainGlobals "row_of" = some (some (.ref f1))) (l1 : K.lookup f1 = some ⟨oc1, od1, .func (PySem.W.fnOf "row_of" "row_of" (defArgs s_row_of) (defBody s_row_of) (defScope s_row_of) .none kV1 dc1 pm1 an1 cd1 ct1), sl1⟩) (c1 : PySem.W.codeIn K cd1 "row_of" = true) (k1 : PySem.W.keepIn K (.ref f1) = true)
    {od2 an2 : Option Addr} {sl2 : Array (Option Value)} {oc2 kV2 dc2 pm2 cd2 ct2 : Value} {f2 : Addr}
    (a2 : PySem.W.nsIn K PySem.mainGlobals "leaf_of" = some (some (.ref f2))) (l2 : K.lookup f2 = some ⟨oc2, od2, .func (PySem.W.fnOf "leaf_of" "leaf_of" (defArgs s_leaf_of) (defBody s_leaf_of) (defScope s_leaf_of) .none kV2 dc2 pm2 an2 cd2 ct2), sl2⟩) (c2 : PySem.W.codeIn K cd2 "leaf_of" = true) (k2 : PySem.W.keepIn K (.ref f2) = true)
    {od3 an3 : Option Addr} {sl3 : Array (Option Value)} {oc3 kV3 dc3 pm3 cd3 ct3 : Value} {f3 : Addr}
    (a3 : PySem.W.nsIn K PySem.mainGlobals "demands" = some (some (.ref f3))) (l3 : K.lookup f3 = some ⟨oc3, od3, .func (PySem.W.fnOf "demands" "demands" (defArgs s_demands) (defBody s_demands) (defScope s_demands) .none kV3 dc3 pm3 an3 cd3 ct3), sl3⟩) (c3 : PySem.W.codeIn K cd3 "demands" = true) (k3 : PySem.W.keepIn K (.ref f3) = true)
    {od4 an4 : Option Addr} {sl4 : Array (Option Value)} {oc4 kV4 dc4 pm4 cd4 ct4 : Value} {f4 : Addr}
    (a4 : PySem.W.nsIn K PySem.mainGlobals "pair_of" = some (some (.ref f4))) (l4 : K.lookup f4 = some ⟨oc4, od4, .func (PySem.W.fnOf "pair_of" "pair_of" (defArgs s_pair_of) (defBody s_pair_of) (defScope s_pair_of) .none kV4 dc4 pm4 an4 cd4 ct4), sl4⟩) (c4 : PySem.W.codeIn K cd4 "pair_of" = true) (k4 : PySem.W.keepIn K (.ref f4) = true)
    {od5 an5 : Option Addr} {sl5 : Array (Option Value)} {oc5 kV5 dc5 pm5 cd5 ct5 : Value} {f5 : Addr}
    (a5 : PySem.W.nsIn K PySem.mainGlobals "choices_of" = some (some (.ref f5))) (l5 : K.lookup f5 = some ⟨oc5, od5, .func (PySem.W.fnOf "choices_of" "choices_of" (defArgs s_choices_of) (defBody s_choices_of) (defScope s_choices_of) .none kV5 dc5 pm5 an5 cd5 ct5), sl5⟩) (c5 : PySem.W.codeIn K cd5 "choices_of" = true) (k5 : PySem.W.keepIn K (.ref f5) = true)
    {od6 an6 : Option Addr} {sl6 : Array (Option Value)} {oc6 kV6 dc6 pm6 cd6 ct6 : Value} {f6 : Addr}
    (a6 : PySem.W.nsIn K PySem.mainGlobals "all_choices" = some (some (.ref f6))) (l6 : K.lookup f6 = some ⟨oc6, od6, .func (PySem.W.fnOf "all_choices" "all_choices" (defArgs s_all_choices) (defBody s_all_choices) (defScope s_all_choices) .none kV6 dc6 pm6 an6 cd6 ct6), sl6⟩) (c6 : PySem.W.codeIn K cd6 "all_choices" = true) (k6 : PySem.W.keepIn K (.ref f6) = true)
    {od7 an7 : Option Addr} {sl7 : Array (Option Value)} {oc7 kV7 dc7 pm7 cd7 ct7 : Value} {f7 : Addr}
    (a7 : PySem.W.nsIn K PySem.mainGlobals "wrong_within" = some (some (.ref f7))) (l7 : K.lookup f7 = some ⟨oc7, od7, .func (PySem.W.fnOf "wrong_within" "wrong_within" (defArgs s_wrong_within) (defBody s_wrong_within) (defScope s_wrong_within) .none kV7 dc7 pm7 an7 cd7 ct7), sl7⟩) (c7 : PySem.W.codeIn K cd7 "wrong_within" = true) (k7 : PySem.W.keepIn K (.ref f7) = true)
    {od8 an8 : Option Addr} {sl8 : Array (Option Value)} {oc8 kV8 dc8 pm8 cd8 ct8 : Value} {f8 : Addr}
    (a8 : PySem.W.nsIn K PySem.mainGlobals "wrongs" = some (some (.ref f8))) (l8 : K.lookup f8 = some ⟨oc8, od8, .func (PySem.W.fnOf "wrongs" "wrongs" (defArgs s_wrongs) (defBody s_wrongs) (defScope s_wrongs) .none kV8 dc8 pm8 an8 cd8 ct8), sl8⟩) (c8 : PySem.W.codeIn K cd8 "wrongs" = true) (k8 : PySem.W.keepIn K (.ref f8) = true)
    {od9 an9 : Option Addr} {sl9 : Array (Option Value)} {oc9 kV9 dc9 pm9 cd9 ct9 : Value} {f9 : Addr}
    (a9 : PySem.W.nsIn K PySem.mainGlobals "first_wrong" = some (some (.ref f9))) (l9 : K.lookup f9 = some ⟨oc9, od9, .func (PySem.W.fnOf "first_wrong" "first_wrong" (defArgs s_first_wrong) (defBody s_first_wrong) (defScope s_first_wrong) .none kV9 dc9 pm9 an9 cd9 ct9), sl9⟩) (c9 : PySem.W.codeIn K cd9 "first_wrong" = true) (k9 : PySem.W.keepIn K (.ref f9) = true)
    {od10 an10 : Option Addr} {sl10 : Array (Option Value)} {oc10 kV10 dc10 pm10 cd10 ct10 : Value} {f10 : Addr}
    (a10 : PySem.W.nsIn K PySem.mainGlobals "wrong_tree" = some (some (.ref f10))) (l10 : K.lookup f10 = some ⟨oc10, od10, .func (PySem.W.fnOf "wrong_tree" "wrong_tree" (defArgs s_wrong_tree) (defBody s_wrong_tree) (defScope s_wrong_tree) .none kV10 dc10 pm10 an10 cd10 ct10), sl10⟩) (c10 : PySem.W.codeIn K cd10 "wrong_tree" = true) (k10 : PySem.W.keepIn K (.ref f10) = true)
    {od11 an11 : Option Addr} {sl11 : Array (Option Value)} {oc11 kV11 dc11 pm11 cd11 ct11 : Value} {f11 : Addr}
    (a11 : PySem.W.nsIn K PySem.mainGlobals "strays" = some (some (.ref f11))) (l11 : K.lookup f11 = some ⟨oc11, od11, .func (PySem.W.fnOf "strays" "strays" (defArgs s_strays) (defBody s_strays) (defScope s_strays) .none kV11 dc11 pm11 an11 cd11 ct11), sl11⟩) (c11 : PySem.W.codeIn K cd11 "strays" = true) (k11 : PySem.W.keepIn K (.ref f11) = true)
    {od12 an12 : Option Addr} {sl12 : Array (Option Value)} {oc12 kV12 dc12 pm12 cd12 ct12 : Value} {f12 : Addr}
    (a12 : PySem.W.nsIn K PySem.mainGlobals "_law_cell_at" = some (some (.ref f12))) (l12 : K.lookup f12 = some ⟨oc12, od12, .func (PySem.W.fnOf "_law_cell_at" "_law_cell_at" (defArgs s__law_cell_at) (defBody s__law_cell_at) (defScope s__law_cell_at) .none kV12 dc12 pm12 an12 cd12 ct12), sl12⟩) (c12 : PySem.W.codeIn K cd12 "_law_cell_at" = true) (k12 : PySem.W.keepIn K (.ref f12) = true)
    {od13 an13 : Option Addr} {sl13 : Array (Option Value)} {oc13 kV13 dc13 pm13 cd13 ct13 : Value} {f13 : Addr}
    (a13 : PySem.W.nsIn K PySem.mainGlobals "_law_mixed" = some (some (.ref f13))) (l13 : K.lookup f13 = some ⟨oc13, od13, .func (PySem.W.fnOf "_law_mixed" "_law_mixed" (defArgs s__law_mixed) (defBody s__law_mixed) (defScope s__law_mixed) .none kV13 dc13 pm13 an13 cd13 ct13), sl13⟩) (c13 : PySem.W.codeIn K cd13 "_law_mixed" = true) (k13 : PySem.W.keepIn K (.ref f13) = true)
    {od14 an14 : Option Addr} {sl14 : Array (Option Value)} {oc14 kV14 dc14 pm14 cd14 ct14 : Value} {f14 : Addr}
    (a14 : PySem.W.nsIn K PySem.mainGlobals "_law_names" = some (some (.ref f14))) (l14 : K.lookup f14 = some ⟨oc14, od14, .func (PySem.W.fnOf "_law_names" "_law_names" (defArgs s__law_names) (defBody s__law_names) (defScope s__law_names) .none kV14 dc14 pm14 an14 cd14 ct14), sl14⟩) (c14 : PySem.W.codeIn K cd14 "_law_names" = true) (k14 : PySem.W.keepIn K (.ref f14) = true)
    {od15 an15 : Option Addr} {sl15 : Array (Option Value)} {oc15 kV15 dc15 pm15 cd15 ct15 : Value} {f15 : Addr}
    (a15 : PySem.W.nsIn K PySem.mainGlobals "_law_great" = some (some (.ref f15))) (l15 : K.lookup f15 = some ⟨oc15, od15, .func (PySem.W.fnOf "_law_great" "_law_great" (defArgs s__law_great) (defBody s__law_great) (defScope s__law_great) .none kV15 dc15 pm15 an15 cd15 ct15), sl15⟩) (c15 : PySem.W.codeIn K cd15 "_law_great" = true) (k15 : PySem.W.keepIn K (.ref f15) = true)
    {od16 an16 : Option Addr} {sl16 : Array (Option Value)} {oc16 kV16 dc16 pm16 cd16 ct16 : Value} {f16 : Addr}
    (a16 : PySem.W.nsIn K PySem.mainGlobals "_law_wood" = some (some (.ref f16))) (l16 : K.lookup f16 = some ⟨oc16, od16, .func (PySem.W.fnOf "_law_wood" "_law_wood" (defArgs s__law_wood) (defBody s__law_wood) (defScope s__law_wood) .none kV16 dc16 pm16 an16 cd16 ct16), sl16⟩) (c16 : PySem.W.codeIn K cd16 "_law_wood" = true) (k16 : PySem.W.keepIn K (.ref f16) = true)
    {od17 an17 : Option Addr} {sl17 : Array (Option Value)} {oc17 kV17 dc17 pm17 cd17 ct17 : Value} {f17 : Addr}
    (a17 : PySem.W.nsIn K PySem.mainGlobals "_law_typed" = some (some (.ref f17))) (l17 : K.lookup f17 = some ⟨oc17, od17, .func (PySem.W.fnOf "_law_typed" "_law_typed" (defArgs s__law_typed) (defBody s__law_typed) (defScope s__law_typed) .none kV17 dc17 pm17 an17 cd17 ct17), sl17⟩) (c17 : PySem.W.codeIn K cd17 "_law_typed" = true) (k17 : PySem.W.keepIn K (.ref f17) = true)
    {od18 an18 : Option Addr} {sl18 : Array (Option Value)} {oc18 kV18 dc18 pm18 cd18 ct18 : Value} {f18 : Addr}
    (a18 : PySem.W.nsIn K PySem.mainGlobals "_law_row" = some (some (.ref f18))) (l18 : K.lookup f18 = some ⟨oc18, od18, .func (PySem.W.fnOf "_law_row" "_law_row" (defArgs s__law_row) (defBody s__law_row) (defScope s__law_row) .none kV18 dc18 pm18 an18 cd18 ct18), sl18⟩) (c18 : PySem.W.codeIn K cd18 "_law_row" = true) (k18 : PySem.W.keepIn K (.ref f18) = true)
    {od19 an19 : Option Addr} {sl19 : Array (Option Value)} {oc19 kV19 dc19 pm19 cd19 ct19 : Value} {f19 : Addr}
    (a19 : PySem.W.nsIn K PySem.mainGlobals "_law_fits" = some (some (.ref f19))) (l19 : K.lookup f19 = some ⟨oc19, od19, .func (PySem.W.fnOf "_law_fits" "_law_fits" (defArgs s__law_fits) (defBody s__law_fits) (defScope s__law_fits) .none kV19 dc19 pm19 an19 cd19 ct19), sl19⟩) (c19 : PySem.W.codeIn K cd19 "_law_fits" = true) (k19 : PySem.W.keepIn K (.ref f19) = true)
    {od20 an20 : Option Addr} {sl20 : Array (Option Value)} {oc20 kV20 dc20 pm20 cd20 ct20 : Value} {f20 : Addr}
    (a20 : PySem.W.nsIn K PySem.mainGlobals "_law_whole" = some (some (.ref f20))) (l20 : K.lookup f20 = some ⟨oc20, od20, .func (PySem.W.fnOf "_law_whole" "_law_whole" (defArgs s__law_whole) (defBody s__law_whole) (defScope s__law_whole) .none kV20 dc20 pm20 an20 cd20 ct20), sl20⟩) (c20 : PySem.W.codeIn K cd20 "_law_whole" = true) (k20 : PySem.W.keepIn K (.ref f20) = true)
    {od21 an21 : Option Addr} {sl21 : Array (Option Value)} {oc21 kV21 dc21 pm21 cd21 ct21 : Value} {f21 : Addr}
    (a21 : PySem.W.nsIn K PySem.mainGlobals "_law_of_kind" = some (some (.ref f21))) (l21 : K.lookup f21 = some ⟨oc21, od21, .func (PySem.W.fnOf "_law_of_kind" "_law_of_kind" (defArgs s__law_of_kind) (defBody s__law_of_kind) (defScope s__law_of_kind) .none kV21 dc21 pm21 an21 cd21 ct21), sl21⟩) (c21 : PySem.W.codeIn K cd21 "_law_of_kind" = true) (k21 : PySem.W.keepIn K (.ref f21) = true)
    {od22 an22 : Option Addr} {sl22 : Array (Option Value)} {oc22 kV22 dc22 pm22 cd22 ct22 : Value} {f22 : Addr}
    (a22 : PySem.W.nsIn K PySem.mainGlobals "_law_spoiled" = some (some (.ref f22))) (l22 : K.lookup f22 = some ⟨oc22, od22, .func (PySem.W.fnOf "_law_spoiled" "_law_spoiled" (defArgs s__law_spoiled) (defBody s__law_spoiled) (defScope s__law_spoiled) .none kV22 dc22 pm22 an22 cd22 ct22), sl22⟩) (c22 : PySem.W.codeIn K cd22 "_law_spoiled" = true) (k22 : PySem.W.keepIn K (.ref f22) = true)
    {od23 an23 : Option Addr} {sl23 : Array (Option Value)} {oc23 kV23 dc23 pm23 cd23 ct23 : Value} {f23 : Addr}
    (a23 : PySem.W.nsIn K PySem.mainGlobals "_law_wrong_at" = some (some (.ref f23))) (l23 : K.lookup f23 = some ⟨oc23, od23, .func (PySem.W.fnOf "_law_wrong_at" "_law_wrong_at" (defArgs s__law_wrong_at) (defBody s__law_wrong_at) (defScope s__law_wrong_at) .none kV23 dc23 pm23 an23 cd23 ct23), sl23⟩) (c23 : PySem.W.codeIn K cd23 "_law_wrong_at" = true) (k23 : PySem.W.keepIn K (.ref f23) = true)
    {od24 an24 : Option Addr} {sl24 : Array (Option Value)} {oc24 kV24 dc24 pm24 cd24 ct24 : Value} {f24 : Addr}
    (a24 : PySem.W.nsIn K PySem.mainGlobals "law" = some (some (.ref f24))) (l24 : K.lookup f24 = some ⟨oc24, od24, .func (PySem.W.fnOf "law" "law" (defArgs s_law) (defBody s_law) (defScope s_law) .none kV24 dc24 pm24 an24 cd24 ct24), sl24⟩) (c24 : PySem.W.codeIn K cd24 "law" = true) (k24 : PySem.W.keepIn K (.ref f24) = true)
    (z_bool : PySem.W.nsIn K PySem.mainGlobals "bool" = some none)
    (z_dict : PySem.W.nsIn K PySem.mainGlobals "dict" = some none)
    (z_enumerate : PySem.W.nsIn K PySem.mainGlobals "enumerate" = some none)
    (z_int : PySem.W.nsIn K PySem.mainGlobals "int" = some none)
    (z_isinstance : PySem.W.nsIn K PySem.mainGlobals "isinstance" = some none)
    (z_len : PySem.W.nsIn K PySem.mainGlobals "len" = some none)
    (z_list : PySem.W.nsIn K PySem.mainGlobals "list" = some none)
    (z_range : PySem.W.nsIn K PySem.mainGlobals "range" = some none)
    (z_sorted : PySem.W.nsIn K PySem.mainGlobals "sorted" = some none)
    (z_str : PySem.W.nsIn K PySem.mainGlobals "str" = some none)
    (z_tuple : PySem.W.nsIn K PySem.mainGlobals "tuple" = some none)
    (z_zip : PySem.W.nsIn K PySem.mainGlobals "zip" = some none)
    {C_TooGreat : Addr} (e_TooGreat : PySem.W.nsIn K PySem.mainGlobals "TooGreat" = some (some (.ref C_TooGreat)))
    (xb_TooGreat : PySem.W.subIn K (.ref C_TooGreat) (.type "BaseException") = some true)
    (xt_TooGreat : PySem.W.typeIn K (.ref C_TooGreat) = some (.type "type"))
    (xd_TooGreat : PySem.W.hasDictIn K C_TooGreat = true)
    (xs_TooGreat : PySem.W.subIn K (.ref C_TooGreat) (.ref C_TooGreat) = some true)
    (xe_TooGreat : PySem.W.excIn K C_TooGreat [.type "ValueError", .type "Exception", .type "BaseException", .type "object"] "ValueError.__new__" = true)
    (xk_TooGreat : PySem.W.keepIn K (.ref C_TooGreat) = true) :
    ∃ fd : FuncData, (∀ (s : Shared) (v : Value), BindsTo s fd ⟨[v], []⟩ [("_law_script", v)]) ∧ ∀ base : Heap, K.In base → base.Ns PySem.mainGlobals mg → FnOk l.prog w K mg base (L2.CX l.prog w) L fa fd ["_law_script"] (spM ⟨K, w⟩ mg 1 (mir L 24)) := by
  have e := hfa.symm.trans (PySem.W.mg_of X G a24)
  cases e
  have F0 := fun_mk (st := s_rows_of) l0 c0 k0
  have F1 := fun_mk (st := s_row_of) l1 c1 k1
  have F2 := fun_mk (st := s_leaf_of) l2 c2 k2
  have F3 := fun_mk (st := s_demands) l3 c3 k3
  have F4 := fun_mk (st := s_pair_of) l4 c4 k4
  have F5 := fun_mk (st := s_choices_of) l5 c5 k5
  have F6 := fun_mk (st := s_all_choices) l6 c6 k6
  have F7 := fun_mk (st := s_wrong_within) l7 c7 k7
  have F8 := fun_mk (st := s_wrongs) l8 c8 k8
  have F9 := fun_mk (st := s_first_wrong) l9 c9 k9
  have F10 := fun_mk (st := s_wrong_tree) l10 c10 k10
  have F11 := fun_mk (st := s_strays) l11 c11 k11
  have F12 := fun_mk (st := s__law_cell_at) l12 c12 k12
  have F13 := fun_mk (st := s__law_mixed) l13 c13 k13
  have F14 := fun_mk (st := s__law_names) l14 c14 k14
  have F15 := fun_mk (st := s__law_great) l15 c15 k15
  have F16 := fun_mk (st := s__law_wood) l16 c16 k16
  have F17 := fun_mk (st := s__law_typed) l17 c17 k17
  have F18 := fun_mk (st := s__law_row) l18 c18 k18
  have F19 := fun_mk (st := s__law_fits) l19 c19 k19
  have F20 := fun_mk (st := s__law_whole) l20 c20 k20
  have F21 := fun_mk (st := s__law_of_kind) l21 c21 k21
  have F22 := fun_mk (st := s__law_spoiled) l22 c22 k22
  have F23 := fun_mk (st := s__law_wrong_at) l23 c23 k23
  have F24 := fun_mk (st := s_law) l24 c24 k24
  have T : Txt K mg (pick 0 [f0, f1, f2, f3, f4, f5, f6, f7, f8, f9, f10, f11, f12, f13, f14, f15, f16, f17, f18, f19, f20, f21, f22, f23, fa]) (pick (PySem.W.fnOf "law" "law" (defArgs s_law) (defBody s_law) (defScope s_law) .none kV24 dc24 pm24 an24 cd24 ct24) [PySem.W.fnOf "rows_of" "rows_of" (defArgs s_rows_of) (defBody s_rows_of) (defScope s_rows_of) .none kV0 dc0 pm0 an0 cd0 ct0, PySem.W.fnOf "row_of" "row_of" (defArgs s_row_of) (defBody s_row_of) (defScope s_row_of) .none kV1 dc1 pm1 an1 cd1 ct1, PySem.W.fnOf "leaf_of" "leaf_of" (defArgs s_leaf_of) (defBody s_leaf_of) (defScope s_leaf_of) .none kV2 dc2 pm2 an2 cd2 ct2, PySem.W.fnOf "demands" "demands" (defArgs s_demands) (defBody s_demands) (defScope s_demands) .none kV3 dc3 pm3 an3 cd3 ct3, PySem.W.fnOf "pair_of" "pair_of" (defArgs s_pair_of) (defBody s_pair_of) (defScope s_pair_of) .none kV4 dc4 pm4 an4 cd4 ct4, PySem.W.fnOf "choices_of" "choices_of" (defArgs s_choices_of) (defBody s_choices_of) (defScope s_choices_of) .none kV5 dc5 pm5 an5 cd5 ct5, PySem.W.fnOf "all_choices" "all_choices" (defArgs s_all_choices) (defBody s_all_choices) (defScope s_all_choices) .none kV6 dc6 pm6 an6 cd6 ct6, PySem.W.fnOf "wrong_within" "wrong_within" (defArgs s_wrong_within) (defBody s_wrong_within) (defScope s_wrong_within) .none kV7 dc7 pm7 an7 cd7 ct7, PySem.W.fnOf "wrongs" "wrongs" (defArgs s_wrongs) (defBody s_wrongs) (defScope s_wrongs) .none kV8 dc8 pm8 an8 cd8 ct8, PySem.W.fnOf "first_wrong" "first_wrong" (defArgs s_first_wrong) (defBody s_first_wrong) (defScope s_first_wrong) .none kV9 dc9 pm9 an9 cd9 ct9, PySem.W.fnOf "wrong_tree" "wrong_tree" (defArgs s_wrong_tree) (defBody s_wrong_tree) (defScope s_wrong_tree) .none kV10 dc10 pm10 an10 cd10 ct10, PySem.W.fnOf "strays" "strays" (defArgs s_strays) (defBody s_strays) (defScope s_strays) .none kV11 dc11 pm11 an11 cd11 ct11, PySem.W.fnOf "_law_cell_at" "_law_cell_at" (defArgs s__law_cell_at) (defBody s__law_cell_at) (defScope s__law_cell_at) .none kV12 dc12 pm12 an12 cd12 ct12, PySem.W.fnOf "_law_mixed" "_law_mixed" (defArgs s__law_mixed) (defBody s__law_mixed) (defScope s__law_mixed) .none kV13 dc13 pm13 an13 cd13 ct13, PySem.W.fnOf "_law_names" "_law_names" (defArgs s__law_names) (defBody s__law_names) (defScope s__law_names) .none kV14 dc14 pm14 an14 cd14 ct14, PySem.W.fnOf "_law_great" "_law_great" (defArgs s__law_great) (defBody s__law_great) (defScope s__law_great) .none kV15 dc15 pm15 an15 cd15 ct15, PySem.W.fnOf "_law_wood" "_law_wood" (defArgs s__law_wood) (defBody s__law_wood) (defScope s__law_wood) .none kV16 dc16 pm16 an16 cd16 ct16, PySem.W.fnOf "_law_typed" "_law_typed" (defArgs s__law_typed) (defBody s__law_typed) (defScope s__law_typed) .none kV17 dc17 pm17 an17 cd17 ct17, PySem.W.fnOf "_law_row" "_law_row" (defArgs s__law_row) (defBody s__law_row) (defScope s__law_row) .none kV18 dc18 pm18 an18 cd18 ct18, PySem.W.fnOf "_law_fits" "_law_fits" (defArgs s__law_fits) (defBody s__law_fits) (defScope s__law_fits) .none kV19 dc19 pm19 an19 cd19 ct19, PySem.W.fnOf "_law_whole" "_law_whole" (defArgs s__law_whole) (defBody s__law_whole) (defScope s__law_whole) .none kV20 dc20 pm20 an20 cd20 ct20, PySem.W.fnOf "_law_of_kind" "_law_of_kind" (defArgs s__law_of_kind) (defBody s__law_of_kind) (defScope s__law_of_kind) .none kV21 dc21 pm21 an21 cd21 ct21, PySem.W.fnOf "_law_spoiled" "_law_spoiled" (defArgs s__law_spoiled) (defBody s__law_spoiled) (defScope s__law_spoiled) .none kV22 dc22 pm22 an22 cd22 ct22, PySem.W.fnOf "_law_wrong_at" "_law_wrong_at" (defArgs s__law_wrong_at) (defBody s__law_wrong_at) (defScope s__law_wrong_at) .none kV23 dc23 pm23 an23 cd23 ct23, PySem.W.fnOf "law" "law" (defArgs s_law) (defBody s_law) (defScope s_law) .none kV24 dc24 pm24 an24 cd24 ct24]) (pick 0 [C_TooGreat]) := {
    F_rows_of := F0,
    B_rows_of := F0.binds (ps := ["wood", "kind"]) fun _ _ _ _ _ _ us hl => match us, hl with | [_, _], _ => rfl,
    M_rows_of := PySem.W.mg_of X G a0,
    F_row_of := F1,
    B_row_of := F1.binds (ps := ["wood", "kind", "name"]) fun _ _ _ _ _ _ us hl => match us, hl with | [_, _, _], _ => rfl,
    M_row_of := PySem.W.mg_of X G a1,
    F_leaf_of := F2,
    B_leaf_of := F2.binds (ps := ["wood", "kind"]) fun _ _ _ _ _ _ us hl => match us, hl with | [_, _], _ => rfl,
    M_leaf_of := PySem.W.mg_of X G a2,
    F_demands := F3,
    B_demands := F3.binds (ps := ["term", "kind", "wood", "place"]) fun _ _ _ _ _ _ us hl => match us, hl with | [_, _, _, _], _ => rfl,
    M_demands := PySem.W.mg_of X G a3,
    F_pair_of := F4,
    B_pair_of := F4.binds (ps := ["demand"]) fun _ _ _ _ _ _ us hl => match us, hl with | [_], _ => rfl,
    M_pair_of := PySem.W.mg_of X G a4,
    F_choices_of := F5,
    B_choices_of := F5.binds (ps := ["turning", "wood", "pair"]) fun _ _ _ _ _ _ us hl => match us, hl with | [_, _, _], _ => rfl,
    M_choices_of := PySem.W.mg_of X G a5,
    F_all_choices := F6,
    B_all_choices := F6.binds (ps := ["turning", "wood"]) fun _ _ _ _ _ _ us hl => match us, hl with | [_, _], _ => rfl,
    M_all_choices := PySem.W.mg_of X G a6,
    F_wrong_within := F7,
    B_wrong_within := F7.binds (ps := ["choices", "best", "many"]) fun _ _ _ _ _ _ us hl => match us, hl with | [_, _, _], _ => rfl,
    M_wrong_within := PySem.W.mg_of X G a7,
    F_wrongs := F8,
    B_wrongs := F8.binds (ps := ["turning", "wood"]) fun _ _ _ _ _ _ us hl => match us, hl with | [_, _], _ => rfl,
    M_wrongs := PySem.W.mg_of X G a8,
    F_first_wrong := F9,
    B_first_wrong := F9.binds (ps := ["turning", "wood", "best"]) fun _ _ _ _ _ _ us hl => match us, hl with | [_, _, _], _ => rfl,
    M_first_wrong := PySem.W.mg_of X G a9,
    F_wrong_tree := F10,
    B_wrong_tree := F10.binds (ps := ["turning", "best", "pair"]) fun _ _ _ _ _ _ us hl => match us, hl with | [_, _, _], _ => rfl,
    M_wrong_tree := PySem.W.mg_of X G a10,
    F_strays := F11,
    B_strays := F11.binds (ps := ["turning", "wood"]) fun _ _ _ _ _ _ us hl => match us, hl with | [_, _], _ => rfl,
    M_strays := PySem.W.mg_of X G a11,
    F__law_cell_at := F12,
    B__law_cell_at := F12.binds (ps := ["_law_script", "_law_k"]) fun _ _ _ _ _ _ us hl => match us, hl with | [_, _], _ => rfl,
    M__law_cell_at := PySem.W.mg_of X G a12,
    F__law_mixed := F13,
    B__law_mixed := F13.binds (ps := ["_law_cell", "_law_k"]) fun _ _ _ _ _ _ us hl => match us, hl with | [_, _], _ => rfl,
    M__law_mixed := PySem.W.mg_of X G a13,
    F__law_names := F14,
    B__law_names := F14.binds (ps := ["_law_cell"]) fun _ _ _ _ _ _ us hl => match us, hl with | [_], _ => rfl,
    M__law_names := PySem.W.mg_of X G a14,
    F__law_great := F15,
    B__law_great := F15.binds (ps := ["_law_cell"]) fun _ _ _ _ _ _ us hl => match us, hl with | [_], _ => rfl,
    M__law_great := PySem.W.mg_of X G a15,
    F__law_wood := F16,
    B__law_wood := F16.binds (ps := ["_law_cell", "_law_names_here"]) fun _ _ _ _ _ _ us hl => match us, hl with | [_, _], _ => rfl,
    M__law_wood := PySem.W.mg_of X G a16,
    F__law_typed := F17,
    B__law_typed := F17.binds (ps := ["_law_cell", "_law_k", "_law_deep", "_law_kind", "_law_wood_here", "_law_calls", "_law_keep"]) fun _ _ _ _ _ _ us hl => match us, hl with | [_, _, _, _, _, _, _], _ => rfl,
    M__law_typed := PySem.W.mg_of X G a17,
    F__law_row := F18,
    B__law_row := F18.binds (ps := ["_law_wood_here", "_law_kind", "_law_name"]) fun _ _ _ _ _ _ us hl => match us, hl with | [_, _, _], _ => rfl,
    M__law_row := PySem.W.mg_of X G a18,
    F__law_fits := F19,
    B__law_fits := F19.binds (ps := ["_law_wood_here", "_law_kind", "_law_label"]) fun _ _ _ _ _ _ us hl => match us, hl with | [_, _, _], _ => rfl,
    M__law_fits := PySem.W.mg_of X G a19,
    F__law_whole := F20,
    B__law_whole := F20.binds (ps := ["_law_found"]) fun _ _ _ _ _ _ us hl => match us, hl with | [_], _ => rfl,
    M__law_whole := PySem.W.mg_of X G a20,
    F__law_of_kind := F21,
    B__law_of_kind := F21.binds (ps := ["_law_wood_here", "_law_kind", "_law_term"]) fun _ _ _ _ _ _ us hl => match us, hl with | [_, _, _], _ => rfl,
    M__law_of_kind := PySem.W.mg_of X G a21,
    F__law_spoiled := F22,
    B__law_spoiled := F22.binds (ps := ["_law_names_here", "_law_term", "_law_number"]) fun _ _ _ _ _ _ us hl => match us, hl with | [_, _, _], _ => rfl,
    M__law_spoiled := PySem.W.mg_of X G a22,
    F__law_wrong_at := F23,
    B__law_wrong_at := F23.binds (ps := ["_law_wood_here", "_law_term", "_law_found"]) fun _ _ _ _ _ _ us hl => match us, hl with | [_, _, _], _ => rfl,
    M__law_wrong_at := PySem.W.mg_of X G a23,
    F_law := F24,
    B_law := F24.binds (ps := ["_law_script"]) fun _ _ _ _ _ _ us hl => match us, hl with | [_], _ => rfl,
    M_law := PySem.W.mg_of X G a24,
    z_bool := PySem.W.mg_none_of X G z_bool,
    z_dict := PySem.W.mg_none_of X G z_dict,
    z_enumerate := PySem.W.mg_none_of X G z_enumerate,
    z_int := PySem.W.mg_none_of X G z_int,
    z_isinstance := PySem.W.mg_none_of X G z_isinstance,
    z_len := PySem.W.mg_none_of X G z_len,
    z_list := PySem.W.mg_none_of X G z_list,
    z_range := PySem.W.mg_none_of X G z_range,
    z_sorted := PySem.W.mg_none_of X G z_sorted,
    z_str := PySem.W.mg_none_of X G z_str,
    z_tuple := PySem.W.mg_none_of X G z_tuple,
    z_zip := PySem.W.mg_none_of X G z_zip,
    cx_TooGreat := ⟨PySem.W.mg_of X G e_TooGreat, xe_TooGreat, xk_TooGreat, xb_TooGreat, xt_TooGreat⟩ }
  refine ⟨PySem.W.fnOf "law" "law" (defArgs s_law) (defBody s_law) (defScope s_law) .none kV24 dc24 pm24 an24 cd24 ct24, fun s v => .of_eq rfl, fun base _ _ => ?_⟩
  exact (all_fns (P := l.prog) (w := w) (base := base) T L).g_law
end G
set_option Elab.async false
set_option linter.all false
set_option maxRecDepth 100000
set_option maxHeartbeats 4000000
namespace G
open PySem PySem.Spec L2 Mir
noncomputable section
theorem cell_ok (n : Nat) (ns : List Int) (k : Nat) : mir (n + 1) 12 [scD ns, .int (k : Nat)] = .ok (.d (.int (scCell ns k))) := by
  rw [mir__law_cell_at, run__law_cell_at]
  exact cell_fin ns k
theorem mixed_ok (n : Nat) (c : Int) (j : Nat) (hj : j ≤ 1000) : mir (n + 1) 13 [.int c, .int (j : Nat)] = .ok (.d (.int (mixI c (j : Nat)))) := by
  rw [mir__law_mixed, run__law_mixed]
  exact mixed_fin c j hj
theorem names_ok (n : Nat) (c : Int) : ∃ ls, Names8 ls ∧ mir (n + 2) 14 [.int c] = .ok (nmO ls) := by
  obtain ⟨ls, a, b⟩ := names_fin c fun j hj => mixed_ok n c j (by omega)
  refine ⟨ls, a, ?_⟩
  rw [mir__law_names, run__law_names]
  exact b
theorem great_ok (n : Nat) (z : Int) : mir (n + 1) 15 [.int z] = .ok (.d (.int (greatI z))) := by
  rw [mir__law_great, run__law_great]
  exact great_fin z
theorem whole_ok (n : Nat) (z : Int) : mir (n + 1) 20 [.int z] = .ok (.d (.bool true)) := by
  rw [mir__law_whole, run__law_whole]
  exact whole_fin z
theorem wood_ok (n : Nat) {ls : List (List Nat)} (h8 : Names8 ls) (c : Int) : ∃ w, WoodOk w ∧ mir (n + 2) 16 [.int c, nsD ls] = .ok (.l (w.map fun p => .d (encKd p))) := by
  obtain ⟨k, hk, e⟩ := W3.wood8_fin (f13 := mir (n + 1) 13) (fun c j hj => mixed_ok n c j hj) h8 rfl c
  refine ⟨_, W3.woodOf_ok (names_at h8) hk c, ?_⟩
  rw [mir__law_wood, run__law_wood]
  exact e
theorem rows_ok (n : Nat) (w : Wood) (k : Str) : ∃ o, mir (n + 1) 0 [encWd w, .str k] = .ok o ∧ viewD o = rwsD (rowsOf w k) := by
  obtain ⟨o, h1, h2⟩ := rowsOf_fin w k
  refine ⟨o, ?_, h2⟩
  rw [mir_rows_of, run_rows_of]
  exact h1
theorem rowOf_ok (n : Nat) (w : Wood) (k nm : Str) : mir (n + 2) 1 [encWd w, .str k, .str nm] = .ok (.d (obD (brOf (rowsOf w k) nm))) := by
  rw [mir_row_of, run_row_of]
  exact rowOf_fin k nm (rows_ok n w k)
theorem leafOf_ok (n : Nat) {w : Wood} (hw : WoodOk w) {p : Str × List Rw} (hp : p ∈ w) : mir (n + 2) 2 [encWd w, .str p.1] = .ok (.d (encT (leafT w p.1))) := by
  have e := rowsOf_kind hw.kinds hp
  have := hw.few p hp
  rw [mir_leaf_of, run_leaf_of]
  exact leafOf_fin (rows_ok n w p.1) (by rw [e]; omega) (by rw [e]; exact fun r hr => (nice_rw hw hp hr).2) (by rw [e]; exact hw.leaf p hp)
theorem demands_ok (w : Wood) : ∀ (n : Nat) (T : Trm) (k : Str) (pl : List Nat), levM T ≤ n → pl.length + n ≤ 1000 → sizeM T ≤ 100000 → mir (n + 2) 3 [encM T, .str k, encWd w, encP pl] = .ok (dmO (dems w T k pl))
  | 0, T, k, pl, h, _, _ => by cases T <;> (rw [levM] at h; omega)
  | n + 1, T, k, pl, h, hp, hs => by
    rw [show n + 1 + 2 = (n + 2) + 1 from rfl, mir_demands, run_demands]
    refine demands_fin T k pl (by omega) hs (fun nm => rowOf_ok n w k nm) fun nm kp ad ps e p hpm b i => ?_
    subst e
    rw [levM] at h
    rw [sizeM] at hs
    refine demands_ok w n p b (pl ++ [i]) (levMs_le (by omega) p hpm) (by rw [List.length_append]; simp; omega) ?_
    have := sizeMs_memM hpm
    omega
theorem rowL_ok (n : Nat) {w : Wood} (hw : WoodOk w) (k : Str) (hk : k ∈ w.map (·.1)) (nm : Str) : mir (n + 1) 18 [encWd w, .str k, .str nm] = .ok (.d (obD (brOf (rowsOf w k) nm))) := by
  rw [mir__law_row, run__law_row]
  exact rowL_fin hw.kinds hk nm
theorem fits_ok (n : Nat) {w : Wood} (hw : WoodOk w) (k : Str) (hk : k ∈ w.map (·.1)) (nm : Str) (j : Nat) : mir (n + 2) 19 [encWd w, .str k, .tuple [.str nm, .int 0, .int (j : Nat)]] = .ok (.d (.bool (fitsB w k nm j))) := by
  rw [mir__law_fits, run__law_fits]
  exact fitsL_fin k nm j _ (by simp) (by simp) (rowL_ok n hw k hk nm)
theorem ofM_ok {w : Wood} (hw : WoodOk w) : ∀ (n : Nat) (T : Trm) (k : Str), k ∈ w.map (·.1) → levM T ≤ n → callsM T = [] → mir (n + 2) 21 [encWd w, .str k, encM T] = .ok (.d (.bool (ofM w T k)))
  | _, .call m b, k, _, _, hc => by rw [callsM] at hc; cases hc
  | 0, .put nm kp ad ps, k, hk, h, hc => by rw [levM] at h; omega
  | n + 1, .put nm kp ad ps, k, hk, h, hc => by
    rw [levM] at h
    rw [callsM] at hc
    rw [show n + 1 + 2 = (n + 2) + 1 from rfl, mir__law_of_kind, run__law_of_kind]
    exact ofM_fin k nm kp ad ps (rowL_ok (n + 1) hw k hk nm) (fits_ok n hw k hk nm ps.length) fun bs hb p hp b hbm => ofM_ok hw n p b ((brOf_kinds hw hk hb).2 b hbm) (levMs_le (by omega) p hp) (callsMs_nil hc p hp)
theorem wrongAt_ok (n : Nat) {w : Wood} (hw : WoodOk w) {p0 : Str × List Rw} (hp0 : w[0]? = some p0) (T : Trm) (q : List Nat) (h : wrongAt w q T p0.1) : mir (n + 3) 23 [encWd w, encM T, encP q] = .ok (.d (.bool true)) := by
  rw [mir__law_wrong_at, run__law_wrong_at]
  exact wrongAt_fin hw (fun k hk nm => rowL_ok (n + 1) hw k hk nm) (fun k hk nm j => fits_ok n hw k hk nm j) (fun z => whole_ok (n + 1) z) hp0 T q h
theorem typed_ok {w : Wood} (hw : WoodOk w) (cs : List Cl3) (hcs : cs.length ≤ 1000) (c : Int) (kp : Bool) : ∀ (d n k : Nat) (kd : Str), (k + 1) * 4 ^ d ≤ 1000 → kd ∈ w.map (·.1) → ∃ T, typM w cs T kd ∧ fewM 3 T ∧ levM T ≤ d + 1 ∧ mir (n + d + 2) 17 [.int c, .int (k : Nat), .int (d : Nat), .str kd, encWd w, cl3D cs, .bool kp] = .ok (.d (encM T))
  | d, n, k, kd, hk, hkd => by
    rw [mir__law_typed, run__law_typed]
    have k1 : k ≤ 1000 := by have := Nat.one_le_pow d 4 (by decide); have := Nat.le_mul_of_pos_right (k + 1) this; omega
    refine typed_fin hw (fun c j hj => mixed_ok (n + d) c j hj) (fun z => great_ok (n + d) z) c k d k1 hkd cs hcs kp fun h j b hj hb => ?_
    obtain ⟨d, rfl⟩ : ∃ d', d = d' + 1 := ⟨d - 1, by omega⟩
    obtain ⟨T, a1, a2, a3, a4⟩ := typed_ok hw cs hcs c kp d n (3 * k + j + 1) b (by
      rw [Nat.pow_succ] at hk
      have : (3 * k + j + 1 + 1) ≤ (k + 1) * 4 := by omega
      have := Nat.mul_le_mul_right (4 ^ d) this
      rw [Nat.mul_assoc, Nat.mul_comm 4] at this
      omega) hb
    exact ⟨T, a1, a2, a3, a4⟩
theorem spoil_ok {ls : List (List Nat)} (h8 : Names8 ls) : ∀ (n : Nat) (T : Trm) (z : Int), levM T ≤ n → levM T ≤ 20 → plM 3 T → ∃ T', plM 4 T' ∧ levM T' ≤ levM T + 1 ∧ mir n 22 [nsD ls, encM T, .int z] = .ok (.d (encM T'))
  | _, .call m b, z, _, _, h => by rw [plM] at h; exact h.elim
  | 0, .put nm kp ad ps, z, h, _, _ => by rw [levM] at h; omega
  | n + 1, .put nm kp ad ps, z, h, hn, hp => by
    have hp' := hp
    rw [plM, plMs_iff] at hp'
    have h' := h
    rw [levM] at h'
    rw [mir__law_spoiled, run__law_spoiled]
    exact spoilM_fin h8 nm kp ad ps z hp hn fun p hpm z => spoil_ok h8 n p z (levMs_le (by omega) p hpm) (by rw [levM] at hn; exact levMs_le (by omega) p hpm) (hp'.2.2 p hpm)
mutual
theorem dems_none (w : Wood) : ∀ (T : Trm) (k : Str) (pl : List Nat), callsM T = [] → ∀ d ∈ dems w T k pl, d.tm = none
  | .call m b, k, pl, h, d, hd => by rw [callsM] at h; cases h
  | .put nm kp ad ps, k, pl, h, d, hd => by
    rw [callsM] at h
    rw [dems] at hd
    split at hd
    · rw [List.mem_singleton.mp hd]
    · split at hd
      · exact demss_none w ps _ pl 0 h d hd
      · rw [List.mem_singleton.mp hd]
theorem demss_none (w : Wood) : ∀ (ps : List Trm) (bs : List Str) (pl : List Nat) (o : Nat), callsMs ps = [] → ∀ d ∈ demss w ps bs pl o, d.tm = none
  | [], _, _, _, _, d, hd => by rw [demss] at hd; cases hd
  | _ :: _, [], _, _, _, d, hd => by rw [demss] at hd; cases hd
  | p :: ps, b :: bs, pl, o, h, d, hd => by
    rw [callsMs, List.append_eq_nil_iff] at h
    rw [demss] at hd
    rcases List.mem_append.mp hd with hd | hd
    · exact dems_none w p b (pl ++ [o]) h.1 d hd
    · exact demss_none w ps bs pl (o + 1) h.2 d hd
end
theorem whileN_two {c : Ev → R Bool} {f : Ev → SR} {n : Nat} {env e1 e2 : Ev} (c0 : c env = .ok true) (f0 : f env = .nx e1) (c1 : c e1 = .ok true) (f1 : f e1 = .nx e2) (c2 : c e2 = .ok false) : whileN c f (n + 3) env = .nx e2 := by
  rw [whileN, c0, R.st_ok, if_pos rfl, f0]
  show whileN c f (n + 2) e1 = _
  rw [whileN, c1, R.st_ok, if_pos rfl, f1]
  show whileN c f (n + 1) e2 = _
  rw [whileN, c2, R.st_ok]
  rfl
theorem tn0_ix (w : Wood) (T : Trm) : gIx (encTn ⟨w, T, []⟩) (.int 0) = some (encWd w) ∧ gIx (encTn ⟨w, T, []⟩) (.int 1) = some (encM T) := by unfold encTn; simp
theorem dm_ix1 (d : Dm) : gIx (encDm d) (.int 1) = some (tmD d.tm) := by unfold encDm; simp
section
variable {w out : Wood} {T : Trm} (hc : callsM T = []) (hl : levM T ≤ 10) (hs : sizeM T ≤ 100000) {p0 : Str × List Rw} (hp0 : out[0]? = some p0)
include hl hs
theorem start_dm (n : Nat) (hn : 12 ≤ n) (hn2 : n ≤ 900) (k : Str) : mir n 3 [encM T, .str k, encWd out, .tuple []] = .ok (dmO (dems out T k [])) := by
  obtain ⟨N, hN⟩ : ∃ N, n = N + 2 := ⟨n - 2, by omega⟩
  rw [hN]
  exact demands_ok out N T k [] (by omega) (by simp; omega) hs
include hc hp0
theorem allChoices_ok (n : Nat) (hn : 12 ≤ n) (hn2 : n ≤ 900) : mir (n + 1) 6 [encTn ⟨w, T, []⟩, encWd out] = .ok (.m []) := by
  rw [mir_all_choices, run_all_choices]
  have he : envOf 6 [encTn ⟨w, T, []⟩, encWd out] = [some (.d (encTn ⟨w, T, []⟩)), some (.d (encWd out)), none, none, none, none, none, none] := rfl
  rw [he]
  obtain ⟨_, i1⟩ := tn0_ix w T
  have w0 := wd_ix0 hp0
  have w00 := kd_ix0 p0
  have d3 := start_dm (out := out) hl hs n hn hn2 p0.1
  have vd := viewD_dmO (dems out T p0.1 [])
  have few := dems_few out T p0.1 []
  have it : itD (dmD (dems out T p0.1 [])) = .ok ((dems out T p0.1 []).map encDm) := rfl
  have nn : (dems out T p0.1 []).filter (fun d => d.tm.isSome) = [] := by
    rw [List.filter_eq_nil_iff]
    intro d hd
    rw [dems_none out T p0.1 [] hc d hd]
    simp
  refine fin_step (env1 := [some (.d (encTn ⟨w, T, []⟩)), some (.d (encWd out)), some (.m []), none, none, none, none, none]) (by
    generalize encTn ⟨w, T, []⟩ = TN
    generalize encWd out = OUT
    simp) ?_
  refine fin_step (env1 := [some (.d (encTn ⟨w, T, []⟩)), some (.d (encWd out)), some (.m []), some (.d (dmD (dems out T p0.1 []))), none, none, none, none]) (by
    generalize encTn ⟨w, T, []⟩ = TN at i1
    generalize encWd out = OUT at w0 d3 ⊢
    generalize dmD (dems out T p0.1 []) = DD at vd ⊢
    generalize dmO (dems out T p0.1 []) = DO at vd d3
    generalize encKd p0 = K0 at w0 w00
    generalize encM T = E at i1 d3
    simp [i1, w0, w00, d3, vd, sizeLine_eq]) ?_
  refine fin_step (env1 := [some (.d (encTn ⟨w, T, []⟩)), some (.d (encWd out)), some (.m []), some (.d (dmD (dems out T p0.1 []))), some (.l []), none, none, none]) (by
    have l : eLc (eB (eVar 3) itD) (gtName 5) (eB (eBin gNotN (eBin gIx (eVar 5) (eC (.int 1))) (eC .none)) asB) (eB (aCons (eVar 5) aNil) (mir n 4)) (List.map (·.2) ([("demand", 5)] : List (Str × Nat))) [some (.d (encTn ⟨w, T, []⟩)), some (.d (encWd out)), some (.m []), some (.d (dmD (dems out T p0.1 []))), none, none, none, none] = .ok (.l []) := by
      have := eLc_of (fi := (eB (eVar 3) itD)) (g := gtName 5) (c := (eB (eBin gNotN (eBin gIx (eVar 5) (eC (.int 1))) (eC .none)) asB)) (e := (eB (aCons (eVar 5) aNil) (mir n 4))) (vs := (List.map (·.2) ([("demand", 5)] : List (Str × Nat)))) (env := [some (.d (encTn ⟨w, T, []⟩)), some (.d (encWd out)), some (.m []), some (.d (dmD (dems out T p0.1 []))), none, none, none, none]) (ds := (dems out T p0.1 []).map encDm) (rs := ((dems out T p0.1 []).filter (fun d => d.tm.isSome)).map fun d => .d .none) rfl (by rw [List.length_map, sizeLine_eq]; omega) (lcR_filt encDm (fun d => d.tm.isSome) (fun d => .d .none) _ fun d hd => ⟨[some (.d (encTn ⟨w, T, []⟩)), some (.d (encWd out)), some (.m []), some (.d (dmD (dems out T p0.1 []))), none, some (.d (encDm d)), none, none], rfl, by
        have j1 := dm_ix1 d
        rw [dems_none out T p0.1 [] hc d hd] at j1 ⊢
        have n1 : isNone (tmD none) = true := rfl
        generalize encTn ⟨w, T, []⟩ = TN
        generalize encWd out = OUT
        generalize dmD (dems out T p0.1 []) = DD
        generalize encDm d = X at j1
        generalize tmD none = N1 at j1 n1
        simp [j1, n1], fun h => by
        rw [dems_none out T p0.1 [] hc d hd] at h
        simp at h⟩)
      rw [this, nn]
      rfl
    rw [sSet_eq, l, R.st_ok]
    rfl) ?_
  have vn : viewD (.l []) = .list [] := by simp
  have n0 : gNe (.list []) (.list []) = some (.bool false) := ne_nil (nice_list (n := 0) (fun d hd => by cases hd) (by omega))
  refine fin_step (env1 := [some (.d (encTn ⟨w, T, []⟩)), some (.d (encWd out)), some (.m []), some (.d (dmD (dems out T p0.1 []))), some (.l []), none, none, none]) (by
    have cf : (eB (eBin gNe (eM (eVarO 4) viewD) (eM (eLst aNil) viewD)) asB) [some (.d (encTn ⟨w, T, []⟩)), some (.d (encWd out)), some (.m []), some (.d (dmD (dems out T p0.1 []))), some (.l []), none, none, none] = .ok false := by
      generalize encTn ⟨w, T, []⟩ = TN
      generalize encWd out = OUT
      generalize dmD (dems out T p0.1 []) = DD
      simp [vn, n0, sizeLine_eq]
    show whileN _ _ (999999 + 1) _ = _
    rw [whileN, cf, R.st_ok]
    rfl) ?_
  show finR (sRetV 2 _) = _
  rw [sRetV_of _ (o := .m []) rfl]
  rfl
theorem wrongs_ok (n : Nat) (hn : 12 ≤ n) (hn2 : n ≤ 900) : mir (n + 2) 8 [encTn ⟨w, T, []⟩, encWd out] = .ok (.m []) := by
  rw [mir_wrongs, run_wrongs]
  have he : envOf 7 [encTn ⟨w, T, []⟩, encWd out] = [some (.d (encTn ⟨w, T, []⟩)), some (.d (encWd out)), none, none, none, none, none, none, none] := rfl
  rw [he]
  have ac := allChoices_ok (w := w) hc hl hs hp0 n hn hn2
  obtain ⟨TN, hTN⟩ : ∃ TN, TN = encTn ⟨w, T, []⟩ := ⟨_, rfl⟩
  obtain ⟨OUT, hOUT⟩ : ∃ OUT, OUT = encWd out := ⟨_, rfl⟩
  rw [← hTN, ← hOUT] at ac ⊢
  refine fin_step (env1 := [some (.d TN), some (.d OUT), some (.d (.dict [])), none, none, none, none, none, none]) (by simp [ac]) ?_
  refine fin_step (env1 := [some (.d TN), some (.d OUT), some (.d (.dict [])), some (.m []), none, none, none, none, none]) (by simp) ?_
  refine fin_step (env1 := [some (.d TN), some (.d OUT), some (.d (.dict [])), some (.m []), some (.d (.int 0)), none, none, none, none]) (by simp) ?_
  refine fin_step (env1 := [some (.d TN), some (.d OUT), some (.d (.dict [])), some (.m []), some (.d (.int 0)), some (.d (.bool true)), none, none, none]) (by simp) ?_
  have vn : viewD (.l []) = .list [] := by simp
  have n0 : gNe (.list []) (.list []) = some (.bool false) := ne_nil (nice_list (n := 0) (fun d hd => by cases hd) (by omega))
  have lt : ∀ a b : Int, gLt (.int a) (.int b) = some (.bool (decide (a < b))) := fun a b => rfl
  refine fin_step (env1 := [some (.d TN), some (.d OUT), some (.d (.dict [])), some (.m []), some (.d (.int 2)), some (.d (.bool false)), some (.l []), none, none]) (by
    have step : ∀ (fK fV : Ev → SR) (k : Int) (b : Bool) (x6 : Option Ow), fK [some (.d TN), some (.d OUT), some (.d (.dict [])), some (.m []), some (.d (.int (k + 1))), some (.d (.bool b)), some (.l []), none, none] = .nx [some (.d TN), some (.d OUT), some (.d (.dict [])), some (.m []), some (.d (.int (k + 1))), some (.d (.bool b)), some (.l []), none, none] → fV [some (.d TN), some (.d OUT), some (.d (.dict [])), some (.m []), some (.d (.int (k + 1))), some (.d (.bool b)), some (.l []), none, none] = .nx [some (.d TN), some (.d OUT), some (.d (.dict [])), some (.m []), some (.d (.int (k + 1))), some (.d (.bool b)), some (.l []), none, none] →
        (sSeq (sAug gAddA 4 (eC (.int 1))) (sSeq (sSet 6 (eLst aNil)) (sSeq fK (sSeq fV (sSet 5 (eM (eBin gNe (eM (eVarO 6) viewD) (eM (eLst aNil) viewD)) Ow.d)))))) [some (.d TN), some (.d OUT), some (.d (.dict [])), some (.m []), some (.d (.int k)), some (.d (.bool b)), x6, none, none] = .nx [some (.d TN), some (.d OUT), some (.d (.dict [])), some (.m []), some (.d (.int (k + 1))), some (.d (.bool false)), some (.l []), none, none] := fun fK fV k b x6 h1 h2 => by
      refine seq_nx (env1 := [some (.d TN), some (.d OUT), some (.d (.dict [])), some (.m []), some (.d (.int (k + 1))), some (.d (.bool b)), x6, none, none]) (by simp) ?_
      refine seq_nx (env1 := [some (.d TN), some (.d OUT), some (.d (.dict [])), some (.m []), some (.d (.int (k + 1))), some (.d (.bool b)), some (.l []), none, none]) (by simp [sizeLine_eq]) ?_
      refine seq_nx h1 (seq_nx h2 ?_)
      simp [vn, n0, sizeLine_eq]
    have cnd : ∀ (k : Int) (b : Bool) (x6 : Option Ow), (tOrE (eB (eVar 5) asB) (eB (eBin gLt (eVar 4) (eC (.int 2))) asB)) [some (.d TN), some (.d OUT), some (.d (.dict [])), some (.m []), some (.d (.int k)), some (.d (.bool b)), x6, none, none] = .ok (b || decide (k < 2)) := fun k b x6 => by
      have := lt k 2
      generalize decide (k < 2) = q at this ⊢
      cases b <;> simp [this]
    exact whileN_two (n := 999997) (cnd 0 true none) (step _ _ 0 true none rfl rfl) (cnd 1 false _) (step _ _ 1 false _ rfl rfl) (cnd 2 false _)) ?_
  show finR (sRetV 3 _) = _
  rw [sRetV_of _ (o := .m []) rfl]
  rfl
theorem firstWrong_ok (n : Nat) (hn : 12 ≤ n) (hn2 : n ≤ 900) : mir (n + 1) 9 [encTn ⟨w, T, []⟩, encWd out, .dict []] = .ok (.d (match dems out T p0.1 [] with
    | [] => .none
    | d :: _ => .tuple [.int 1, encDm d])) := by
  rw [mir_first_wrong, run_first_wrong]
  have he : envOf 3 [encTn ⟨w, T, []⟩, encWd out, .dict []] = [some (.d (encTn ⟨w, T, []⟩)), some (.d (encWd out)), some (.d (.dict [])), none, none, none] := rfl
  rw [he]
  obtain ⟨_, i1⟩ := tn0_ix w T
  have w0 := wd_ix0 hp0
  have w00 := kd_ix0 p0
  have d3 := start_dm (out := out) hl hs n hn hn2 p0.1
  have vd := viewD_dmO (dems out T p0.1 [])
  have it : itD (dmD (dems out T p0.1 [])) = .ok ((dems out T p0.1 []).map encDm) := rfl
  have itE : (eB (eM (eB (aCons (eBin gIx (eVar 0) (eC (.int 1))) (aCons (eBin gIx (eBin gIx (eVar 1) (eC (.int 0))) (eC (.int 0))) (aCons (eVar 1) (aCons (eTup aNil) aNil)))) (mir n 3)) viewD) itD) [some (.d (encTn ⟨w, T, []⟩)), some (.d (encWd out)), some (.d (.dict [])), some (.d .none), none, none] = .ok ((dems out T p0.1 []).map encDm) := by
    generalize (dems out T p0.1 []).map encDm = DL at it ⊢
    generalize encTn ⟨w, T, []⟩ = TN at i1
    generalize encWd out = OUT at w0 d3 ⊢
    generalize dmD (dems out T p0.1 []) = DD at vd it
    generalize dmO (dems out T p0.1 []) = DO at vd d3
    generalize encKd p0 = K0 at w0 w00
    generalize encM T = E at i1 d3
    simp [i1, w0, w00, d3, vd, it, sizeLine_eq]
  refine fin_step (env1 := [some (.d (encTn ⟨w, T, []⟩)), some (.d (encWd out)), some (.d (.dict [])), some (.d .none), none, none]) rfl ?_
  show finR (sSeq (sFor _ _ _) _ _) = _
  rw [sSeq_eq, sFor_eq, itE, R.st_ok]
  have tn := dems_none out T p0.1 [] hc
  generalize dems out T p0.1 [] = DS at tn ⊢
  cases DS with
  | nil => rfl
  | cons d r =>
    have j1 := dm_ix1 d
    rw [tn d List.mem_cons_self] at j1
    have n1 : isNone (tmD none) = true := rfl
    rw [List.map_cons, forL]
    have gt : gtName 4 (encDm d) [some (.d (encTn ⟨w, T, []⟩)), some (.d (encWd out)), some (.d (.dict [])), some (.d .none), none, none] = some [some (.d (encTn ⟨w, T, []⟩)), some (.d (encWd out)), some (.d (.dict [])), some (.d .none), some (.d (encDm d)), none] := rfl
    rw [gt]
    show finR _ = .ok (.d (.tuple [.int 1, encDm d]))
    generalize encTn ⟨w, T, []⟩ = TN
    generalize encWd out = OUT
    generalize encDm d = X at j1
    generalize tmD none = N1 at j1 n1
    simp [j1, n1, sizeLine_eq]
theorem strays_ok (hw : WoodOk w) (n : Nat) (hn : 12 ≤ n) (hn2 : n ≤ 800) {q0 : Str × List Rw} (hq0 : w[0]? = some q0) : mir (n + 3) 11 [encTn ⟨w, T, []⟩, encWd out] = .ok (.d (match dems out T p0.1 [] with
    | [] => .none
    | d :: _ => .tuple [encT (leafT w q0.1), encP d.pl])) := by
  rw [mir_strays, run_strays]
  have he : envOf 4 [encTn ⟨w, T, []⟩, encWd out] = [some (.d (encTn ⟨w, T, []⟩)), some (.d (encWd out)), none, none, none, none] := rfl
  rw [he]
  have wr := wrongs_ok (w := w) hc hl hs hp0 n hn (by omega)
  have fw := firstWrong_ok (w := w) hc hl hs hp0 (n + 1) (by omega) (by omega)
  obtain ⟨i0, _⟩ := tn0_ix w T
  have w0 := wd_ix0 hq0
  have w00 := kd_ix0 q0
  have lf := leafOf_ok n hw (List.mem_of_getElem? hq0)
  obtain ⟨TN, hTN⟩ : ∃ TN, TN = encTn ⟨w, T, []⟩ := ⟨_, rfl⟩
  obtain ⟨OUT, hOUT⟩ : ∃ OUT, OUT = encWd out := ⟨_, rfl⟩
  rw [← hTN, ← hOUT] at wr fw ⊢
  rw [← hTN] at i0
  refine fin_step (env1 := [some (.d TN), some (.d OUT), some (.d (.dict [])), none, none, none]) (by simp [wr]) ?_
  have tn := dems_none out T p0.1 [] hc
  generalize dems out T p0.1 [] = DS at fw tn ⊢
  cases DS with
  | nil =>
    have n1 : isNone PyData.none = true := rfl
    refine fin_step (env1 := [some (.d TN), some (.d OUT), some (.d (.dict [])), some (.d .none), none, none]) (by simp [fw]) ?_
    simp [n1]
  | cons d r =>
    have e0 := tn d List.mem_cons_self
    have j0 : gIx (encDm d) (.int 0) = some (encP d.pl) := by unfold encDm; simp
    have j1 := dm_ix1 d
    rw [e0] at j1
    have n1 : isNone (tmD none) = true := rfl
    have g40 : gGt (.int 1) (.int 40) = some (.bool false) := rfl
    have n2 : isNone (.tuple [.int 1, encDm d]) = false := rfl
    refine fin_step (env1 := [some (.d TN), some (.d OUT), some (.d (.dict [])), some (.d (.tuple [.int 1, encDm d])), none, none]) (by simp [fw]) ?_
    show finR _ = .ok (.d (.tuple [encT (leafT w q0.1), encP d.pl]))
    have k0 : gIx (.tuple [.int 1, encDm d]) (.int 0) = some (.int 1) := by simp
    have k1 : gIx (.tuple [.int 1, encDm d]) (.int 1) = some (encDm d) := by simp
    generalize PyData.tuple [.int 1, encDm d] = FD at k0 k1 n2
    generalize encDm d = X at j0 j1 k1
    generalize tmD none = N1 at j1 n1
    generalize encP d.pl = P at j0 ⊢
    generalize encT (leafT w q0.1) = L at lf ⊢
    generalize encKd q0 = K0 at w0 w00
    generalize encWd w = W at i0 w0 lf
    simp [n2, k0, k1, g40, j1, n1, j0, i0, w0, w00, lf, sizeLine_eq]
end
end
end G
set_option Elab.async false
set_option linter.all false
set_option maxRecDepth 100000
set_option maxHeartbeats 4000000
namespace G
open PySem PySem.Spec L2 Mir
noncomputable section
theorem leaf_row {w : Wood} (hw : WoodOk w) {p : Str × List Rw} (hp : p ∈ w) : ∃ nm, PyData.strOk nm = true ∧ leafT w p.1 = .mk nm 0 [] ∧ brOf (rowsOf w p.1) nm = some [] := by
  have e := rowsOf_kind hw.kinds hp
  unfold leafT
  rw [e]
  obtain ⟨r, hr, hb⟩ := hw.leaf p hp
  have hm : r ∈ p.2.filter fun r => r.br.isEmpty := by rw [List.mem_filter]; exact ⟨hr, by rw [hb]; rfl⟩
  cases hf : p.2.filter fun r => r.br.isEmpty with
  | nil => rw [hf] at hm; cases hm
  | cons a l =>
    have ha : a ∈ p.2.filter fun r => r.br.isEmpty := by rw [hf]; exact List.mem_cons_self
    rw [List.mem_filter] at ha
    refine ⟨a.nm, (hw.rok p hp a ha.1).1, rfl, ?_⟩
    rw [brOf_self (hw.dist p hp) ha.1, List.isEmpty_iff.mp ha.2]
theorem woodCopy {w : Wood} (hl : w.length ≤ 1000) {env : Ev} {i : Nat} (hi : eVar i env = .ok (encWd w)) (hw : ∀ p ∈ w, ∃ env1, gtTup 2 (gtCons (gtName 6) (gtCons (gtName 7) gtNil)) (encKd p) (wipeE env [6, 7]) = some env1 ∧ eVar 6 env1 = .ok (.str p.1) ∧ eVar 7 env1 = .ok (rwsD p.2)) : (eM (eLc (eB (eVar i) itD) (gtTup 2 (gtCons (gtName 6) (gtCons (gtName 7) gtNil))) cYes (eM (eTup (aCons (eVar 6) (aCons (eM (eCa gList (aCons (eVar 7) aNil)) viewD) aNil))) Ow.d) (List.map (·.2) ([("_law_kind", 6), ("_law_rows", 7)] : List (Str × Nat)))) viewD) env = .ok (encWd w) := by
  have l : eLc (eB (eVar i) itD) (gtTup 2 (gtCons (gtName 6) (gtCons (gtName 7) gtNil))) cYes (eM (eTup (aCons (eVar 6) (aCons (eM (eCa gList (aCons (eVar 7) aNil)) viewD) aNil))) Ow.d) (List.map (·.2) ([("_law_kind", 6), ("_law_rows", 7)] : List (Str × Nat))) env = .ok (.l (w.map fun p => .d (encKd p))) := by
    refine eLc_of (ds := w.map encKd) (by rw [eB_eq, hi, R.bind_ok]; rfl) (by rw [List.length_map, sizeLine_eq]; omega) (lcR_map encKd (fun p => .d (encKd p)) w fun p hp => ?_)
    obtain ⟨env1, a1, a2, a3⟩ := hw p hp
    refine ⟨env1, a1, rfl, ?_⟩
    have gl : gList [rwsD p.2] = some (.l ((p.2.map encRw).map Ow.d)) := rfl
    have vw : viewD (.l ((p.2.map encRw).map Ow.d)) = rwsD p.2 := vw_ls _
    have ek : encKd p = .tuple [.str p.1, rwsD p.2] := rfl
    rw [ek]
    generalize rwsD p.2 = RR at a3 gl vw ⊢
    generalize (p.2.map encRw).map Ow.d = OO at gl vw
    simp only [eM_eq, eTup_eq, aCons_eq, aNil_eq, eCa_eq, a2, a3, R.bind_ok, R.map_ok, gl, R.of_some, vw]
    simp [sizeLine_eq]
  rw [eM_eq, l, R.map_ok, viewD_of encKd w]
  rfl
theorem law_true (M0 : Nat) (hM : 80 ≤ M0) (hM2 : M0 ≤ 700) (ns : List Int) (hns : ns.length ≤ 63) : mir M0 24 [.list (ns.map PyData.int)] = .ok (.d (.bool true)) := by
  obtain ⟨n, rfl⟩ : ∃ n, M0 = n + 73 := ⟨M0 - 73, by omega⟩
  rw [mir_law, run_law]
  have he : envOf 10 [.list (ns.map PyData.int)] = [some (.d (scD ns)), none, none, none, none, none, none, none, none, none, none] := rfl
  rw [he]
  have c0 : mir (n + 72) 12 [scD ns, .int 0] = .ok (.d (.int (scCell ns 0))) := cell_ok (n + 71) ns 0
  have c1 : mir (n + 72) 12 [scD ns, .int 1] = .ok (.d (.int (scCell ns 1))) := cell_ok (n + 71) ns 1
  have c2 : mir (n + 72) 12 [scD ns, .int 2] = .ok (.d (.int (scCell ns 2))) := cell_ok (n + 71) ns 2
  have c3 : mir (n + 72) 12 [scD ns, .int 3] = .ok (.d (.int (scCell ns 3))) := cell_ok (n + 71) ns 3
  have c4 : mir (n + 72) 12 [scD ns, .int 4] = .ok (.d (.int (scCell ns 4))) := cell_ok (n + 71) ns 4
  have m6 : mir (n + 72) 13 [.int (scCell ns 4), .int 6] = .ok (.d (.int (mixI (scCell ns 4) 6))) := mixed_ok (n + 71) (scCell ns 4) 6 (by decide)
  obtain ⟨ls, l8, hn⟩ := names_ok (n + 70) (scCell ns 0)
  change mir (n + 72) 14 _ = _ at hn
  have hnv := viewD_nmO ls
  obtain ⟨w, hw, hwd⟩ := wood_ok (n + 70) l8 (scCell ns 1)
  change mir (n + 72) 16 _ = _ at hwd
  obtain ⟨out, ho, hod⟩ := wood_ok (n + 70) l8 (scCell ns 2)
  change mir (n + 72) 16 _ = _ at hod
  have wv : viewD (.l (w.map fun p => .d (encKd p))) = encWd w := viewD_of encKd w
  have ov : viewD (.l (out.map fun p => .d (encKd p))) = encWd out := viewD_of encKd out
  obtain ⟨p0, hp0⟩ : ∃ p0, out[0]? = some p0 := ⟨_, List.getElem?_eq_getElem (by have := ho.some.1; omega)⟩
  obtain ⟨q0, hq0⟩ : ∃ q0, w[0]? = some q0 := ⟨_, List.getElem?_eq_getElem (by have := hw.some.1; omega)⟩
  have pin : p0.1 ∈ out.map (·.1) := List.mem_map.mpr ⟨p0, List.mem_of_getElem? hp0, rfl⟩
  have qin : q0.1 ∈ w.map (·.1) := List.mem_map.mpr ⟨q0, List.mem_of_getElem? hq0, rfl⟩
  obtain ⟨T0, t1, t2, t3, t4⟩ := typed_ok ho [] (by simp) (scCell ns 3) false 3 (n + 67) 0 p0.1 (by decide) pin
  change mir (n + 72) 17 [_, .int 0, .int 3, _, _, .list [], _] = _ at t4
  have pl0 : plM 3 T0 := few_pl T0 t2 (typ_nil T0 _ t1)
  obtain ⟨T1, s1, s2, s3⟩ := spoil_ok l8 (n + 72) T0 (mixI (scCell ns 4) 6) (by omega) (by omega) pl0
  have m3 : gMod (.int (scCell ns 4)) (.int 3) = some (.int (scCell ns 4 % 3)) := gMod_int (by decide)
  have g0 : gGt (.int (scCell ns 4 % 3)) (.int 0) = some (.bool (decide (0 < scCell ns 4 % 3))) := rfl
  obtain ⟨T, hT⟩ : ∃ T, T = if decide (0 < scCell ns 4 % 3) = true then T1 else T0 := ⟨_, rfl⟩
  have plT : plM 4 T := by rw [hT]; split; exact s1; exact plM_mono (by decide) T0 pl0
  have lvT : levM T ≤ 5 := by rw [hT]; split <;> omega
  have clT := plM_calls T plT
  have szT : sizeM T ≤ 100000 := Nat.le_trans (plM_size 5 T lvT plT) (by decide)
  have okT : okM T := plM_ok (by decide) T plT
  have st : mir (n + 72) 11 [encTn ⟨w, T, []⟩, encWd out] = .ok (.d (match dems out T p0.1 [] with
    | [] => .none
    | d :: _ => .tuple [encT (leafT w q0.1), encP d.pl])) := strays_ok clT (by omega) szT hp0 hw (n + 69) (by omega) (by omega) hq0
  have ok21 : mir (n + 72) 21 [encWd out, .str p0.1, encM T] = .ok (.d (.bool (ofM out T p0.1))) := ofM_ok ho (n + 70) T p0.1 pin (by omega) clT
  obtain ⟨dA, dB⟩ := dems_of out T p0.1 [] clT
  have wa : ∀ d r, dems out T p0.1 [] = d :: r → mir (n + 72) 23 [encWd out, encM T, encP d.pl] = .ok (.d (.bool true)) := fun d r e => by
    obtain ⟨_, q, h1, h2⟩ := dB d r e
    rw [h1, List.nil_append]
    exact wrongAt_ok (n + 69) ho hp0 T q h2
  obtain ⟨nm, on, lf, lb⟩ := leaf_row hw (List.mem_of_getElem? hq0)
  have r18 : mir (n + 72) 18 [encWd w, .str q0.1, .str nm] = .ok (.d (brD [])) := by
    have := rowL_ok (n + 71) hw q0.1 qin nm
    rw [lb] at this
    exact this
  have wh : mir (n + 72) 20 [.int 0] = .ok (.d (.bool true)) := whole_ok (n + 71) 0
  have nt : gNe (encTn ⟨w, T, []⟩) (encTn ⟨w, T, []⟩) = some (.bool false) := by
    have h : Nice (encTn ⟨w, T, []⟩) := nice_tnD (B := 20) { kinds := hw.kok, rows := fun p hp r hr => nice_rw hw hp hr, start := ⟨okT, by show levM T ≤ 20; omega⟩, mkinds := fun p hp => (by cases hp), rules := fun p hp => (by cases hp) } (by decide)
    rw [gNe_nice h h, eqv_self h]
    rfl
  have no : gNe (encWd out) (encWd out) = some (.bool false) := by
    have h : Nice (encWd out) := by
      have h : Nice (encTn ⟨out, T, []⟩) := nice_tnD (B := 20) { kinds := ho.kok, rows := fun p hp r hr => nice_rw ho hp hr, start := ⟨okT, by show levM T ≤ 20; omega⟩, mkinds := fun p hp => (by cases hp), rules := fun p hp => (by cases hp) } (by decide)
      obtain ⟨a, b⟩ := h
      unfold encTn at a b
      rw [PyData.canLay0, PyData.canLayAll0, Bool.and_eq_true] at a
      rw [PyData.depth, PyData.depthAll] at b
      exact ⟨a.1, by simp only at b; omega⟩
    rw [gNe_nice h h, eqv_self h]
    rfl
  have tn3 : PyData.tuple [encWd w, encM T, .list []] = encTn ⟨w, T, []⟩ := rfl
  have w0 := wd_ix0 hp0
  have w00 := kd_ix0 p0
  have v0 := wd_ix0 hq0
  have v00 := kd_ix0 q0
  have vn : viewD (.l []) = .list [] := by simp
  have n0t : Nice (.tuple []) := ⟨rfl, by simp [PyData.depth, PyData.depthAll]⟩
  have b0 : gEq (brD []) (.tuple []) = some (.bool true) := by
    rw [show brD [] = PyData.tuple [] from rfl, gEq_nice n0t n0t, eqv_self n0t]
  have e0 : gEq (.tuple []) (.tuple []) = some (.bool true) := b0
  obtain ⟨SC, hSC⟩ : ∃ SC, SC = scD ns := ⟨_, rfl⟩
  rw [← hSC] at c0 c1 c2 c3 c4 ⊢
  obtain ⟨NS, hNS⟩ : ∃ NS, NS = nsD ls := ⟨_, rfl⟩
  rw [← hNS] at hnv hwd hod s3
  have cpW : ∀ (x6 x7 x8 x9 x10 : Option Ow), (eM (eLc (eB (eVar 2) itD) (gtTup 2 (gtCons (gtName 6) (gtCons (gtName 7) gtNil))) cYes (eM (eTup (aCons (eVar 6) (aCons (eM (eCa gList (aCons (eVar 7) aNil)) viewD) aNil))) Ow.d) (List.map (·.2) ([("_law_kind", 6), ("_law_rows", 7)] : List (Str × Nat)))) viewD) [some (.d SC), some (.d NS), some (.d (encWd w)), some (.d (encWd out)), some (.d (encM T)), none, x6, x7, x8, x9, x10] = .ok (encWd w) := fun x6 x7 x8 x9 x10 => woodCopy (by have := hw.some; omega) rfl fun p hp => ⟨[some (.d SC), some (.d NS), some (.d (encWd w)), some (.d (encWd out)), some (.d (encM T)), none, some (.d (.str p.1)), some (.d (rwsD p.2)), x8, x9, x10], rfl, rfl, rfl⟩
  have cpO : ∀ (x5 x6 x7 x8 x9 x10 : Option Ow), (eM (eLc (eB (eVar 3) itD) (gtTup 2 (gtCons (gtName 6) (gtCons (gtName 7) gtNil))) cYes (eM (eTup (aCons (eVar 6) (aCons (eM (eCa gList (aCons (eVar 7) aNil)) viewD) aNil))) Ow.d) (List.map (·.2) ([("_law_kind", 6), ("_law_rows", 7)] : List (Str × Nat)))) viewD) [some (.d SC), some (.d NS), some (.d (encWd w)), some (.d (encWd out)), some (.d (encM T)), x5, x6, x7, x8, x9, x10] = .ok (encWd out) := fun x5 x6 x7 x8 x9 x10 => woodCopy (by have := ho.some; omega) rfl fun p hp => ⟨[some (.d SC), some (.d NS), some (.d (encWd w)), some (.d (encWd out)), some (.d (encM T)), x5, some (.d (.str p.1)), some (.d (rwsD p.2)), x8, x9, x10], rfl, rfl, rfl⟩
  have cpW' := cpW none none none none none
  have cpO' := cpO (some (.d (encTn ⟨w, T, []⟩))) none none none none none
  obtain ⟨W, hW⟩ : ∃ W, W = encWd w := ⟨_, rfl⟩
  obtain ⟨OUT, hOUT⟩ : ∃ OUT, OUT = encWd out := ⟨_, rfl⟩
  obtain ⟨TN, hTN⟩ : ∃ TN, TN = encTn ⟨w, T, []⟩ := ⟨_, rfl⟩
  obtain ⟨E, hE⟩ : ∃ E, E = encM T := ⟨_, rfl⟩
  rw [← hTN] at st nt tn3 cpO'
  rw [← hW] at wv v0 r18 cpW' cpO' tn3
  rw [← hOUT] at ov w0 t4 st ok21 no cpW' cpO'
  rw [← hE] at ok21 cpW' cpO' tn3
  simp only [← hOUT, ← hE] at wa
  refine fin_step (env1 := [some (.d SC), some (.d NS), none, none, none, none, none, none, none, none, none]) (by simp [c0, hn, hnv]) ?_
  refine fin_step (env1 := [some (.d SC), some (.d NS), some (.d W), none, none, none, none, none, none, none, none]) (by simp [c1, hwd, wv]) ?_
  refine fin_step (env1 := [some (.d SC), some (.d NS), some (.d W), some (.d OUT), none, none, none, none, none, none, none]) (by simp [c2, hod, ov]) ?_
  refine fin_step (env1 := [some (.d SC), some (.d NS), some (.d W), some (.d OUT), some (.d (encM T0)), none, none, none, none, none, none]) (by
    generalize encM T0 = E0 at t4 ⊢
    generalize encKd p0 = K0 at w0 w00
    simp [c3, w0, w00, vn, t4, sizeLine_eq]) ?_
  refine fin_step (env1 := [some (.d SC), some (.d NS), some (.d W), some (.d OUT), some (.d E), none, none, none, none, none, none]) (by
    have eT : E = if decide (0 < scCell ns 4 % 3) = true then encM T1 else encM T0 := by rw [hE, hT]; split <;> rfl
    rw [eT]
    generalize encM T0 = E0 at s3 ⊢
    generalize encM T1 = E1 at s3 ⊢
    generalize decide (0 < scCell ns 4 % 3) = b at g0 ⊢
    generalize scCell ns 4 % 3 = r at m3 g0
    cases b <;> simp [c4, m3, g0, m6, s3]) ?_
  refine fin_step (env1 := [some (.d SC), some (.d NS), some (.d W), some (.d OUT), some (.d E), some (.d TN), none, none, none, none, none]) (by
    have ap : (aCons (eM (eLc (eB (eVar 2) itD) (gtTup 2 (gtCons (gtName 6) (gtCons (gtName 7) gtNil))) cYes (eM (eTup (aCons (eVar 6) (aCons (eM (eCa gList (aCons (eVar 7) aNil)) viewD) aNil))) Ow.d) (List.map (·.2) ([("_law_kind", 6), ("_law_rows", 7)] : List (Str × Nat)))) viewD) (aCons (eVar 4) (aCons (eM (eLst aNil) viewD) aNil))) [some (.d SC), some (.d NS), some (.d W), some (.d OUT), some (.d E), none, none, none, none, none, none] = .ok [W, E, .list []] := by
      rw [aCons_eq, cpW']
      simp [vn, sizeLine_eq]
    rw [sSet_eq, eM_eq, eTup_eq, ap]
    simp [tn3, sizeLine_eq]) ?_
  refine fin_step (env1 := [some (.d SC), some (.d NS), some (.d W), some (.d OUT), some (.d E), some (.d TN), none, none, some (.d OUT), none, none]) (by
    rw [sSet_eq, eM_eq, cpO']
    rfl) ?_
  clear cpW cpO cpW' cpO'
  generalize dems out T p0.1 [] = DS at st dA wa
  cases DS with
  | nil =>
    have n1 : isNone PyData.none = true := rfl
    have st' : mir (n + 72) 11 [TN, OUT] = .ok (.d .none) := st
    refine fin_step (env1 := [some (.d SC), some (.d NS), some (.d W), some (.d OUT), some (.d E), some (.d TN), none, none, some (.d OUT), some (.d .none), none]) (by simp [st']) ?_
    have o1 : ofM out T p0.1 = true := dA
    rw [o1] at ok21
    refine fin_step (env1 := [some (.d SC), some (.d NS), some (.d W), some (.d OUT), some (.d E), some (.d TN), none, none, some (.d OUT), some (.d .none), none]) (by simp [tn3, nt, no, vn, sizeLine_eq]) ?_
    generalize encKd p0 = K0 at w0 w00
    simp [w0, w00, ok21, n1]
  | cons d r =>
    have st' : mir (n + 72) 11 [TN, OUT] = .ok (.d (.tuple [encT (leafT w q0.1), encP d.pl])) := st
    refine fin_step (env1 := [some (.d SC), some (.d NS), some (.d W), some (.d OUT), some (.d E), some (.d TN), none, none, some (.d OUT), some (.d (.tuple [encT (leafT w q0.1), encP d.pl])), none]) (by
      generalize PyData.tuple [encT (leafT w q0.1), encP d.pl] = FD at st' ⊢
      simp [st']) ?_
    have o1 : ofM out T p0.1 = false := dA
    rw [o1] at ok21
    have wa' := wa d r rfl
    rw [lf]
    have l0 := t_ix0 nm 0 []
    have l1 := t_ix1 nm 0 []
    have l2 := t_ix2 nm 0 []
    have li : gIsi "tuple" (encT (.mk nm 0 [])) = .ok (.bool true) := by rw [encT_mk]; rfl
    have ll : gLen [encT (.mk nm 0 [])] = some (.d (.int 3)) := by rw [encT_mk]; rfl
    have si : gIsi "str" (.str nm) = .ok (.bool true) := rfl
    have fi : gIsi "tuple" (.tuple [encT (.mk nm 0 []), encP d.pl]) = .ok (.bool true) := rfl
    have fl : gLen [.tuple [encT (.mk nm 0 []), encP d.pl]] = some (.d (.int 2)) := rfl
    have f0 : gIx (.tuple [encT (.mk nm 0 []), encP d.pl]) (.int 0) = some (encT (.mk nm 0 [])) := by simp
    have f1 : gIx (.tuple [encT (.mk nm 0 []), encP d.pl]) (.int 1) = some (encP d.pl) := by simp
    rw [List.map_nil] at l2
    generalize PyData.tuple [encT (.mk nm 0 []), encP d.pl] = FD at fi fl f0 f1
    generalize encP d.pl = P at wa' f1
    generalize encT (.mk nm 0 []) = L at l0 l1 l2 li ll f0
    generalize encKd p0 = K0 at w0 w00
    generalize encKd q0 = Q0 at v0 v00
    generalize brD [] = B at r18 b0
    refine fin_step (env1 := [some (.d SC), some (.d NS), some (.d W), some (.d OUT), some (.d E), some (.d TN), none, none, some (.d OUT), some (.d FD), none]) (by simp [tn3, nt, no, vn, sizeLine_eq]) ?_
    refine fin_step (env1 := [some (.d SC), some (.d NS), some (.d W), some (.d OUT), some (.d E), some (.d TN), none, none, some (.d OUT), some (.d FD), none]) (by simp [w0, w00, ok21]) ?_
    refine fin_step (env1 := [some (.d SC), some (.d NS), some (.d W), some (.d OUT), some (.d E), some (.d TN), none, none, some (.d OUT), some (.d FD), none]) (by simp [fi, fl, f1, wa']) ?_
    refine fin_step (env1 := [some (.d SC), some (.d NS), some (.d W), some (.d OUT), some (.d E), some (.d TN), none, none, some (.d OUT), some (.d FD), some (.d L)]) (by simp [f0]) ?_
    refine fin_step (env1 := [some (.d SC), some (.d NS), some (.d W), some (.d OUT), some (.d E), some (.d TN), none, none, some (.d OUT), some (.d FD), some (.d L)]) (by simp [li, ll, l0, si, l1, wh]) ?_
    simp [l2, e0, v0, v00, l0, r18, b0, sizeLine_eq]
end
end G
open PySem PySem.W PyProof.Rows
set_option maxRecDepth 100000 in
set_option maxHeartbeats 0 in
theorem PySem.Challenge.cw_turnery_k60_starts_that_stray_holds : PySem.Challenge.rw_turnery_k60_starts_that_stray.Holds := by
  w_on; o_law; k_head; (case hw => w_witness2)
  k_fill
  refine Mir.law_end (l := PySem.Challenge.rw_turnery_k60_starts_that_stray) (m := G.mir 90 24) 90 "_law_script" rfl rfl ⟨rfl, by decide, by decide⟩ (fun w h Y => PySem.W.kIn_of Y) (fun ns h _ => G.law_true 90 (by decide) (by decide) ns h) ?F
  case F =>
    intro w mg fa h KX Gn hmg
    refine' G.all_mk 90 KX Gn hmg ?a0 ?l0 ?c0 ?k0 ?a1 ?l1 ?c1 ?k1 ?a2 ?l2 ?c2 ?k2 ?a3 ?l3 ?c3 ?k3 ?a4 ?l4 ?c4 ?k4 ?a5 ?l5 ?c5 ?k5 ?a6 ?l6 ?c6 ?k6 ?a7 ?l7 ?c7 ?k7 ?a8 ?l8 ?c8 ?k8 ?a9 ?l9 ?c9 ?k9 ?a10 ?l10 ?c10 ?k10 ?a11 ?l11 ?c11 ?k11 ?a12 ?l12 ?c12 ?k12 ?a13 ?l13 ?c13 ?k13 ?a14 ?l14 ?c14 ?k14 ?a15 ?l15 ?c15 ?k15 ?a16 ?l16 ?c16 ?k16 ?a17 ?l17 ?c17 ?k17 ?a18 ?l18 ?c18 ?k18 ?a19 ?l19 ?c19 ?k19 ?a20 ?l20 ?c20 ?k20 ?a21 ?l21 ?c21 ?k21 ?a22 ?l22 ?c22 ?k22 ?a23 ?l23 ?c23 ?k23 ?a24 ?l24 ?c24 ?k24 ?z_bool ?z_dict ?z_enumerate ?z_int ?z_isinstance ?z_len ?z_list ?z_range ?z_sorted ?z_str ?z_tuple ?z_zip ?e_TooGreat ?xb_TooGreat ?xt_TooGreat ?xd_TooGreat ?xs_TooGreat ?xe_TooGreat ?xk_TooGreat
    (case a0 => k_is)
    (case l0 => k_is)
    (case c0 => k_is)
    (case k0 => k_is)
    (case a1 => k_is)
    (case l1 => k_is)
    (case c1 => k_is)
    (case k1 => k_is)
    (case a2 => k_is)
    (case l2 => k_is)
    (case c2 => k_is)
    (case k2 => k_is)
    (case a3 => k_is)
    (case l3 => k_is)
    (case c3 => k_is)
    (case k3 => k_is)
    (case a4 => k_is)
    (case l4 => k_is)
    (case c4 => k_is)
    (case k4 => k_is)
    (case a5 => k_is)
    (case l5 => k_is)
    (case c5 => k_is)
    (case k5 => k_is)
    (case a6 => k_is)
    (case l6 => k_is)
    (case c6 => k_is)
    (case k6 => k_is)
    (case a7 => k_is)
    (case l7 => k_is)
    (case c7 => k_is)
    (case k7 => k_is)
    (case a8 => k_is)
    (case l8 => k_is)
    (case c8 => k_is)
    (case k8 => k_is)
    (case a9 => k_is)
    (case l9 => k_is)
    (case c9 => k_is)
    (case k9 => k_is)
    (case a10 => k_is)
    (case l10 => k_is)
    (case c10 => k_is)
    (case k10 => k_is)
    (case a11 => k_is)
    (case l11 => k_is)
    (case c11 => k_is)
    (case k11 => k_is)
    (case a12 => k_is)
    (case l12 => k_is)
    (case c12 => k_is)
    (case k12 => k_is)
    (case a13 => k_is)
    (case l13 => k_is)
    (case c13 => k_is)
    (case k13 => k_is)
    (case a14 => k_is)
    (case l14 => k_is)
    (case c14 => k_is)
    (case k14 => k_is)
    (case a15 => k_is)
    (case l15 => k_is)
    (case c15 => k_is)
    (case k15 => k_is)
    (case a16 => k_is)
    (case l16 => k_is)
    (case c16 => k_is)
    (case k16 => k_is)
    (case a17 => k_is)
    (case l17 => k_is)
    (case c17 => k_is)
    (case k17 => k_is)
    (case a18 => k_is)
    (case l18 => k_is)
    (case c18 => k_is)
    (case k18 => k_is)
    (case a19 => k_is)
    (case l19 => k_is)
    (case c19 => k_is)
    (case k19 => k_is)
    (case a20 => k_is)
    (case l20 => k_is)
    (case c20 => k_is)
    (case k20 => k_is)
    (case a21 => k_is)
    (case l21 => k_is)
    (case c21 => k_is)
    (case k21 => k_is)
    (case a22 => k_is)
    (case l22 => k_is)
    (case c22 => k_is)
    (case k22 => k_is)
    (case a23 => k_is)
    (case l23 => k_is)
    (case c23 => k_is)
    (case k23 => k_is)
    (case a24 => k_is)
    (case l24 => k_is)
    (case c24 => k_is)
    (case k24 => k_is)
    (case z_bool => k_is)
    (case z_dict => k_is)
    (case z_enumerate => k_is)
    (case z_int => k_is)
    (case z_isinstance => k_is)
    (case z_len => k_is)
    (case z_list => k_is)
    (case z_range => k_is)
    (case z_sorted => k_is)
    (case z_str => k_is)
    (case z_tuple => k_is)
    (case z_zip => k_is)
    (case e_TooGreat => k_is)
    (case xb_TooGreat => k_is)
    (case xt_TooGreat => k_is)
    (case xd_TooGreat => k_is)
    (case xs_TooGreat => k_is)
    (case xe_TooGreat => k_exc)
    (case xk_TooGreat => k_is)

